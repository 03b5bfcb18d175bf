import PyProof.Rows.All
import Wide.All
import OpenK.AllK
import Wide.FinOn
import HandS.ForExc
import HandS.ForMost
import HandS.Flow
import HandS.TupAny
import HandS.Codes
import HandS.StrMore
import HandS.Strs
import HandS.Deep
import HandS.CallSlots
import KE.DataCmp
import HandS.IsInst
import HandS.MakeKw
import HandS.MakeKwOnly
import HandS.Defaults
import HandS.TupSets
import PySem.Challenge.RW_foldkeep_k14_lines_stay_sound
/-! part: FK1 -/
set_option Elab.async false
set_option linter.all false
set_option maxRecDepth 100000
set_option maxHeartbeats 4000000
/-! FK1: plain data D, a small heap of cells, how they lie in the abstract heap, what a run must show. -/
namespace FK
open PySem PySem.Spec L2

/-- plain data; ref n is the n-th cell; scr: a list that is read alone (the script, a module's own) -/
inductive D where
  | non | bl (b : Bool) | int (i : Int) | str (x : Str)
  | tup (xs : List D) | lst (xs : List D) | scr (xs : List D) | obj (c : Str) (ns : List Str) (xs : List D) | ref (n : Nat)
inductive Cell where
  | lst (xs : List D) | ins (c : Str) (ns : List Str) (xs : List D)
abbrev CH := List Cell
/-- a run's end -/
inductive R (α : Type) where
  | ok (a : α) (h : CH) | exc (c : Str) (h : CH) | bad
abbrev M (α : Type) := CH → R α
def M.pure {α : Type} (a : α) : M α := fun h => .ok a h
def M.bind {α β : Type} (x : M α) (f : α → M β) : M β := fun h =>
  match x h with
  | .ok a h1 => f a h1
  | .exc c h1 => .exc c h1
  | .bad => .bad
def M.bad {α : Type} : M α := fun _ => .bad
abbrev Env := List (Option D)
/-- how a statement ends -/
inductive Fl where
  | nx | bk | ct | rt (d : D)
inductive RS where
  | ok (f : Fl) (ρ : Env) (h : CH) | exc (c : Str) (ρ : Env) (h : CH) | bad
abbrev ED := Env → M D
abbrev BD := Env → M Bool
abbrev AD := Env → M (List D)
abbrev SD := Env → CH → RS

/-- the heap without some addresses -/
def hide (Z : List Addr) (H : Hp) : Hp := fun a => if a ∈ Z then none else H a
theorem hide_some {Z : List Addr} {H : Hp} {a : Addr} {o : HO} (h : hide Z H a = some o) : a ∉ Z ∧ H a = some o := by
  unfold hide at h
  by_cases z : a ∈ Z
  · rw [if_pos z] at h; cases h
  · rw [if_neg z] at h; exact ⟨z, h⟩
theorem hide_of {Z : List Addr} {H : Hp} {a : Addr} {o : HO} (z : a ∉ Z) (h : H a = some o) : hide Z H a = some o := by
  unfold hide; rw [if_neg z]; exact h
def Sub (H H' : Hp) : Prop := ∀ a o, H a = some o → H' a = some o
theorem Sub.refl {H : Hp} : Sub H H := fun _ _ h => h
theorem Sub.trans {A B C : Hp} (x : Sub A B) (y : Sub B C) : Sub A C := fun a o h => y a o (x a o h)
theorem hide_sub {Z : List Addr} {H : Hp} : Sub (hide Z H) H := fun _ _ h => (hide_some h).2
theorem Sub.rd {H H' : Hp} (s : Sub H H') {a : Addr} {u : HO} (h : Rd H a u) : Rd H' a u := by
  rcases h with h | ⟨o, h⟩
  · exact .inl (s _ _ h)
  · exact .inr ⟨o, s _ _ h⟩
theorem Sub.sql {K : PySem.W.Frag} {H H' : Hp} (s : Sub H H') {a : Addr} {xs : List V} (h : SqL K H a xs) : SqL K H' a xs := by
  rcases h with h | h
  · exact .inl (s.rd h)
  · exact .inr h
theorem Sub.sqt {K : PySem.W.Frag} {H H' : Hp} (s : Sub H H') {a : Addr} {xs : List V} (h : SqT K H a xs) : SqT K H' a xs := by
  rcases h with h | h
  · exact .inl (s.rd h)
  · exact .inr h

section
variable (K : PySem.W.Frag) (mg : Str → Option Value)
mutual
/-- the value v is the datum d; m: the cells' addresses, S: what stands still -/
def Rep (m : List Addr) (S : Hp) : D → V → Prop
  | .non, v => v = .non
  | .bl b, v => v = .bl b
  | .int i, v => v = .int i
  | .str x, v => v = .str x ∧ PyData.strOk x = true
  | .tup xs, v => ∃ a vs, v = .ref a ∧ SqT K S a vs ∧ RepL m S xs vs
  | .lst xs, v => ∃ a vs, v = .ref a ∧ S a = some (.lst vs) ∧ RepL m S xs vs
  | .scr xs, v => ∃ a vs, v = .ref a ∧ SqL K S a vs ∧ RepL m S xs vs
  | .obj c ns xs, v => ∃ a C dx fs, v = .ref a ∧ S a = some (.ins C dx fs) ∧ mg c = some (.ref C) ∧ fs.map (·.1) = ns ∧ RepL m S xs (fs.map (·.2))
  | .ref n, v => ∃ a, m[n]? = some a ∧ v = .ref a
def RepL (m : List Addr) (S : Hp) : List D → List V → Prop
  | [], vs => vs = []
  | d :: ds, vs => ∃ v r, vs = v :: r ∧ Rep m S d v ∧ RepL m S ds r
end
def CellR (m : List Addr) (S H : Hp) (a : Addr) : Cell → Prop
  | .lst xs => ∃ vs, H a = some (.lst vs) ∧ RepL K mg m S xs vs
  | .ins c ns xs => ∃ C dx fs, H a = some (.ins C dx fs) ∧ mg c = some (.ref C) ∧ fs.map (·.1) = ns ∧ RepL K mg m S xs (fs.map (·.2))
/-- the cells lie at m, apart from Z -/
structure HeapOk (Z m : List Addr) (h : CH) (H : Hp) : Prop where
  len : m.length = h.length
  nd : m.Nodup
  dj : ∀ a ∈ m, a ∉ Z
  ex : ∀ a ∈ Z, ∃ o, H a = some o
  cell : ∀ (n : Nat) c a, h[n]? = some c → m[n]? = some a → CellR K mg m (hide (Z ++ m) H) H a c
/-- from (m, H) to (m', H'): more cells, what stood still stands, Z is as it was -/
structure Ext (Z m : List Addr) (H : Hp) (m' : List Addr) (H' : Hp) : Prop where
  pre : ∀ (n : Nat) a, m[n]? = some a → m'[n]? = some a
  st : Sub (hide (Z ++ m) H) (hide (Z ++ m') H')
  zs : ∀ a ∈ Z, H' a = H a
/-- slots -/
def REnv (m : List Addr) (S : Hp) : Env → St → Prop
  | [], σ => σ = []
  | o :: ρ, σ => ∃ p r, σ = p :: r ∧ (∀ d, o = some d → ∃ v, p = some v ∧ Rep K mg m S d v) ∧ REnv m S ρ r
/-- what a run must show; rel: how its end lies in the heap -/
def PostG {α β : Type} (rel : List Addr → Hp → α → β → Prop) (W : WX) (σ : St) (Z m : List Addr) (H : Hp) (r : R α) (Q : β → Hp → Prop) : Prop :=
  match r with
  | .ok d h => ∀ v m' H', Ext Z m H m' H' → HeapOk K mg Z m' h H' → rel m' (hide (Z ++ m') H') d v → Q v H'
  | .exc c h => ∀ m' H' cls, Ext Z m H m' H' → HeapOk K mg Z m' h H' → mg c = some cls → W cls none σ H'
  | .bad => False
abbrev Post (W : WX) (σ : St) (Z m : List Addr) (H : Hp) (r : R D) (Q : VK) : Prop := PostG K mg (Rep K mg) W σ Z m H r Q
abbrev PostL (W : WX) (σ : St) (Z m : List Addr) (H : Hp) (r : R (List D)) (Q : List V → Hp → Prop) : Prop := PostG K mg (RepL K mg) W σ Z m H r Q
abbrev PostB (W : WX) (σ : St) (Z m : List Addr) (H : Hp) (r : R Bool) (Q : Bool → Hp → Prop) : Prop := PostG K mg (fun _ _ a b => b = a) W σ Z m H r Q
def PostS (W : WX) (Z m : List Addr) (H : Hp) (r : RS) (E : Ends) : Prop :=
  match r with
  | .ok .nx ρ h => ∀ σ' m' H', Ext Z m H m' H' → HeapOk K mg Z m' h H' → REnv K mg m' (hide (Z ++ m') H') ρ σ' → E.nx σ' H'
  | .ok .bk ρ h => ∀ σ' m' H', Ext Z m H m' H' → HeapOk K mg Z m' h H' → REnv K mg m' (hide (Z ++ m') H') ρ σ' → E.bk σ' H'
  | .ok .ct ρ h => ∀ σ' m' H', Ext Z m H m' H' → HeapOk K mg Z m' h H' → REnv K mg m' (hide (Z ++ m') H') ρ σ' → E.ct σ' H'
  | .ok (.rt d) _ h => ∀ v m' H', Ext Z m H m' H' → HeapOk K mg Z m' h H' → Rep K mg m' (hide (Z ++ m') H') d v → E.rt v H'
  | .exc c ρ h => ∀ σ' m' H' cls, Ext Z m H m' H' → HeapOk K mg Z m' h H' → REnv K mg m' (hide (Z ++ m') H') ρ σ' → mg c = some cls → W cls none σ' H'
  | .bad => False
/-- where a run stands -/
structure At (Z m : List Addr) (ρ : Env) (h : CH) (σ : St) (H : Hp) : Prop where
  hk : HeapOk K mg Z m h H
  en : REnv K mg m (hide (Z ++ m) H) ρ σ
def tD (W : WX) (f : ED) : TE := fun σ H Q => ∃ Z m ρ h, At K mg Z m ρ h σ H ∧ Post K mg W σ Z m H (f ρ h) Q
def tDL (W : WX) (f : AD) : TA := fun σ H Q => ∃ Z m ρ h, At K mg Z m ρ h σ H ∧ PostL K mg W σ Z m H (f ρ h) Q
def tDB (W : WX) (f : BD) : TT := fun σ H Q => ∃ Z m ρ h, At K mg Z m ρ h σ H ∧ PostB K mg W σ Z m H (f ρ h) Q
def tDS (W : WX) (f : SD) : TS := fun E σ H => ∃ Z m ρ h, At K mg Z m ρ h σ H ∧ PostS K mg W Z m H (f ρ h) E
end

section
variable {K : PySem.W.Frag} {mg : Str → Option Value} {m m' : List Addr} {S S' : Hp}
mutual
theorem Rep.mono (hm : ∀ (n : Nat) a, m[n]? = some a → m'[n]? = some a) (hs : Sub S S') : ∀ (d : D) (v : V), Rep K mg m S d v → Rep K mg m' S' d v
  | .non, v, h => by simpa [Rep] using h
  | .bl b, v, h => by simpa [Rep] using h
  | .int b, v, h => by simpa [Rep] using h
  | .str b, v, h => by simpa [Rep] using h
  | .tup xs, v, h => by
    unfold Rep at h ⊢
    obtain ⟨a, vs, e, q, r⟩ := h
    exact ⟨a, vs, e, hs.sqt q, RepL.mono hm hs xs vs r⟩
  | .lst xs, v, h => by
    unfold Rep at h ⊢
    obtain ⟨a, vs, e, q, r⟩ := h
    exact ⟨a, vs, e, hs _ _ q, RepL.mono hm hs xs vs r⟩
  | .scr xs, v, h => by
    unfold Rep at h ⊢
    obtain ⟨a, vs, e, q, r⟩ := h
    exact ⟨a, vs, e, hs.sql q, RepL.mono hm hs xs vs r⟩
  | .obj c ns xs, v, h => by
    unfold Rep at h ⊢
    obtain ⟨a, C, dx, fs, e, q, e2, e3, r⟩ := h
    exact ⟨a, C, dx, fs, e, hs _ _ q, e2, e3, RepL.mono hm hs xs _ r⟩
  | .ref n, v, h => by
    unfold Rep at h ⊢
    obtain ⟨a, e, q⟩ := h
    exact ⟨a, hm n a e, q⟩
theorem RepL.mono (hm : ∀ (n : Nat) a, m[n]? = some a → m'[n]? = some a) (hs : Sub S S') : ∀ (ds : List D) (vs : List V), RepL K mg m S ds vs → RepL K mg m' S' ds vs
  | [], vs, h => by simpa [RepL] using h
  | d :: ds, vs, h => by
    unfold RepL at h ⊢
    obtain ⟨v, r, e, a, b⟩ := h
    exact ⟨v, r, e, Rep.mono hm hs d v a, RepL.mono hm hs ds r b⟩
end
theorem RepL.length : ∀ {ds : List D} {vs : List V}, RepL K mg m S ds vs → vs.length = ds.length
  | [], vs, h => by unfold RepL at h; subst h; rfl
  | d :: ds, vs, h => by
    unfold RepL at h
    obtain ⟨v, r, rfl, _, b⟩ := h
    rw [List.length_cons, List.length_cons, RepL.length b]
theorem RepL.get : ∀ {ds : List D} {vs : List V} {i : Nat} {d : D}, RepL K mg m S ds vs → ds[i]? = some d → ∃ v, vs[i]? = some v ∧ Rep K mg m S d v
  | [], _, _, _, _, e => by simp at e
  | x :: ds, vs, 0, d, h, e => by
    unfold RepL at h
    obtain ⟨v, r, rfl, a, b⟩ := h
    simp at e
    subst e
    exact ⟨v, rfl, a⟩
  | x :: ds, vs, i + 1, d, h, e => by
    unfold RepL at h
    obtain ⟨v, r, rfl, a, b⟩ := h
    obtain ⟨u, h1, h2⟩ := RepL.get b (i := i) (d := d) (by simpa using e)
    exact ⟨u, by simpa using h1, h2⟩
theorem RepL.append : ∀ {ds es : List D} {vs us : List V}, RepL K mg m S ds vs → RepL K mg m S es us → RepL K mg m S (ds ++ es) (vs ++ us)
  | [], es, vs, us, h, h2 => by unfold RepL at h; subst h; exact h2
  | d :: ds, es, vs, us, h, h2 => by
    unfold RepL at h
    obtain ⟨v, r, rfl, a, b⟩ := h
    show RepL K mg m S (d :: (ds ++ es)) (v :: (r ++ us))
    unfold RepL
    exact ⟨v, _, rfl, a, RepL.append b h2⟩
theorem RepL.one {d : D} {v : V} (h : Rep K mg m S d v) : RepL K mg m S [d] [v] := by
  unfold RepL
  exact ⟨v, [], rfl, h, by unfold RepL; rfl⟩
theorem RepL.nil : RepL K mg m S [] [] := by unfold RepL; rfl
theorem RepL.cons {d : D} {v : V} {ds : List D} {vs : List V} (h : Rep K mg m S d v) (t : RepL K mg m S ds vs) : RepL K mg m S (d :: ds) (v :: vs) := by
  unfold RepL
  exact ⟨v, vs, rfl, h, t⟩
theorem RepL.of_cons {d : D} {vs : List V} {ds : List D} (h : RepL K mg m S (d :: ds) vs) : ∃ v r, vs = v :: r ∧ Rep K mg m S d v ∧ RepL K mg m S ds r := by
  unfold RepL at h; exact h
theorem RepL.of_nil {vs : List V} (h : RepL K mg m S [] vs) : vs = [] := by unfold RepL at h; exact h
theorem RepL.take : ∀ {ds : List D} {vs : List V} (n : Nat), RepL K mg m S ds vs → RepL K mg m S (ds.take n) (vs.take n)
  | [], vs, n, h => by rw [h.of_nil]; simp [RepL]
  | d :: ds, vs, 0, h => by simp [RepL]
  | d :: ds, vs, n + 1, h => by
    obtain ⟨v, r, rfl, a, b⟩ := h.of_cons
    exact RepL.cons a (RepL.take n b)
theorem RepL.drop : ∀ {ds : List D} {vs : List V} (n : Nat), RepL K mg m S ds vs → RepL K mg m S (ds.drop n) (vs.drop n)
  | [], vs, n, h => by rw [h.of_nil]; simp [RepL]
  | d :: ds, vs, 0, h => by simpa using h
  | d :: ds, vs, n + 1, h => by
    obtain ⟨v, r, rfl, a, b⟩ := h.of_cons
    simpa using RepL.drop n b
theorem RepL.set {d : D} {v : V} (q : Rep K mg m S d v) : ∀ {ds : List D} {vs : List V} (n : Nat), RepL K mg m S ds vs → RepL K mg m S (ds.set n d) (vs.set n v)
  | [], vs, n, h => by rw [h.of_nil]; simp [RepL]
  | x :: ds, vs, 0, h => by
    obtain ⟨u, r, rfl, a, b⟩ := h.of_cons
    exact RepL.cons q b
  | x :: ds, vs, n + 1, h => by
    obtain ⟨u, r, rfl, a, b⟩ := h.of_cons
    exact RepL.cons a (RepL.set q n b)
theorem REnv.mono (hm : ∀ (n : Nat) a, m[n]? = some a → m'[n]? = some a) (hs : Sub S S') : ∀ (ρ : Env) (σ : St), REnv K mg m S ρ σ → REnv K mg m' S' ρ σ
  | [], σ, h => h
  | o :: ρ, σ, h => by
    obtain ⟨p, r, e, a, b⟩ := h
    exact ⟨p, r, e, fun d hd => let ⟨v, h1, h2⟩ := a d hd; ⟨v, h1, Rep.mono hm hs d v h2⟩, REnv.mono hm hs ρ r b⟩
theorem REnv.get : ∀ {ρ : Env} {σ : St} {i : Nat} {d : D}, REnv K mg m S ρ σ → ρ[i]? = some (some d) → ∃ v, σ[i]? = some (some v) ∧ Rep K mg m S d v
  | [], _, _, _, _, e => by simp at e
  | o :: ρ, σ, 0, d, h, e => by
    obtain ⟨p, r, rfl, a, b⟩ := h
    simp at e
    obtain ⟨v, h1, h2⟩ := a d e
    subst h1
    exact ⟨v, rfl, h2⟩
  | o :: ρ, σ, i + 1, d, h, e => by
    obtain ⟨p, r, rfl, a, b⟩ := h
    obtain ⟨v, h1, h2⟩ := REnv.get b (i := i) (d := d) (by simpa using e)
    exact ⟨v, by simpa using h1, h2⟩
theorem REnv.set {d : D} {v : V} (q : Rep K mg m S d v) : ∀ {ρ : Env} {σ : St} (i : Nat), REnv K mg m S ρ σ → REnv K mg m S (ρ.set i (some d)) (σ.set i (some v))
  | [], σ, i, h => by
    have e : σ = [] := h
    subst e
    exact h
  | o :: ρ, σ, 0, h => by
    obtain ⟨p, r, rfl, a, b⟩ := h
    exact ⟨some v, r, rfl, fun d' e => ⟨v, rfl, by cases e; exact q⟩, b⟩
  | o :: ρ, σ, i + 1, h => by
    obtain ⟨p, r, rfl, a, b⟩ := h
    exact ⟨p, r.set i (some v), rfl, a, REnv.set q i b⟩
theorem REnv.unset : ∀ {ρ : Env} {σ : St} (i : Nat), REnv K mg m S ρ σ → REnv K mg m S (ρ.set i none) (σ.set i none)
  | [], σ, i, h => by
    have e : σ = [] := h
    subst e
    exact h
  | o :: ρ, σ, 0, h => by
    obtain ⟨p, r, rfl, a, b⟩ := h
    exact ⟨none, r, rfl, (fun d' e => by cases e), b⟩
  | o :: ρ, σ, i + 1, h => by
    obtain ⟨p, r, rfl, a, b⟩ := h
    exact ⟨p, r.set i none, rfl, a, REnv.unset i b⟩
theorem REnv.start : ∀ {ds : List D} {vs : List V} (n : Nat), RepL K mg m S ds vs → REnv K mg m S (ds.map some ++ List.replicate n none) (vs.map some ++ List.replicate n none)
  | [], vs, n, h => by
    rw [h.of_nil]
    show REnv K mg m S (List.replicate n none) (List.replicate n none)
    induction n with
    | zero => rfl
    | succ n ih => exact ⟨none, _, rfl, (fun d' e => by cases e), ih⟩
  | d :: ds, vs, n, h => by
    obtain ⟨v, r, rfl, a, b⟩ := h.of_cons
    exact ⟨some v, _, rfl, fun d' e => ⟨v, rfl, by cases e; exact a⟩, REnv.start n b⟩
theorem CellR.there {H : Hp} {a : Addr} : ∀ {c : Cell}, CellR K mg m S H a c → ∃ o, H a = some o
  | .lst xs, h => let ⟨vs, h1, _⟩ := h; ⟨_, h1⟩
  | .ins c ns xs, h => let ⟨_, _, _, h1, _⟩ := h; ⟨_, h1⟩
theorem CellR.mono (hm : ∀ (n : Nat) a, m[n]? = some a → m'[n]? = some a) (hs : Sub S S') {H H' : Hp} {a : Addr} (e : H' a = H a) : ∀ {c : Cell}, CellR K mg m S H a c → CellR K mg m' S' H' a c
  | .lst xs, h => by
    obtain ⟨vs, h1, h2⟩ := h
    exact ⟨vs, by rw [e]; exact h1, RepL.mono hm hs _ _ h2⟩
  | .ins c ns xs, h => by
    obtain ⟨C, dx, fs, h1, h2, h3, h4⟩ := h
    exact ⟨C, dx, fs, by rw [e]; exact h1, h2, h3, RepL.mono hm hs _ _ h4⟩
end

section
variable {K : PySem.W.Frag} {mg : Str → Option Value} {Z m m1 m2 : List Addr} {H H1 H2 : Hp} {h h1 : CH}
theorem Ext.refl : Ext Z m H m H := ⟨fun _ _ e => e, Sub.refl, fun _ _ => rfl⟩
theorem Ext.trans (a : Ext Z m H m1 H1) (b : Ext Z m1 H1 m2 H2) : Ext Z m H m2 H2 :=
  ⟨fun n x e => b.pre n x (a.pre n x e), a.st.trans b.st, fun x hx => (b.zs x hx).trans (a.zs x hx)⟩
theorem Ext.rep (e : Ext Z m H m1 H1) {d : D} {v : V} (r : Rep K mg m (hide (Z ++ m) H) d v) : Rep K mg m1 (hide (Z ++ m1) H1) d v := Rep.mono e.pre e.st d v r
theorem Ext.repL (e : Ext Z m H m1 H1) {d : List D} {v : List V} (r : RepL K mg m (hide (Z ++ m) H) d v) : RepL K mg m1 (hide (Z ++ m1) H1) d v := RepL.mono e.pre e.st d v r
theorem Ext.env (e : Ext Z m H m1 H1) {ρ : Env} {σ : St} (r : REnv K mg m (hide (Z ++ m) H) ρ σ) : REnv K mg m1 (hide (Z ++ m1) H1) ρ σ := REnv.mono e.pre e.st ρ σ r
theorem HeapOk.at (x : HeapOk K mg Z m h H) {n : Nat} {c : Cell} (e : h[n]? = some c) : ∃ a, m[n]? = some a ∧ CellR K mg m (hide (Z ++ m) H) H a c := by
  have hn : n < m.length := by
    rw [x.len]
    exact (List.getElem?_eq_some_iff.mp e).1
  exact ⟨m[n], List.getElem?_eq_getElem hn, x.cell n c _ e (List.getElem?_eq_getElem hn)⟩
theorem HeapOk.there (x : HeapOk K mg Z m h H) {a : Addr} (ha : a ∈ Z ++ m) : ∃ o, H a = some o := by
  rcases List.mem_append.mp ha with z | z
  · exact x.ex a z
  · obtain ⟨n, hn, e⟩ := List.mem_iff_getElem.mp z
    have hc : n < h.length := by rw [← x.len]; exact hn
    have q := x.cell n _ a (List.getElem?_eq_getElem hc) (by rw [List.getElem?_eq_getElem hn, e])
    exact q.there
theorem HeapOk.out (x : HeapOk K mg Z m h H) {p : Addr} (hp : H p = none) : p ∉ Z ++ m := fun z => by
  obtain ⟨o, e⟩ := x.there z
  rw [hp] at e; cases e
/-- a new thing that stands still -/
theorem Ext.laid (x : HeapOk K mg Z m h H) {p : Addr} {o : HO} (hp : H p = none) : Ext Z m H m (upd H p o) := by
  refine ⟨fun _ _ e => e, fun a u e => ?_, fun a ha => upd_ne fun z => ?_⟩
  · obtain ⟨h1, h2⟩ := hide_some e
    exact hide_of h1 (by rw [upd_ne (ne_of_none h2 hp)]; exact h2)
  · subst z
    exact x.out hp (List.mem_append_left _ ha)
theorem HeapOk.laid (x : HeapOk K mg Z m h H) {p : Addr} {o : HO} (hp : H p = none) : HeapOk K mg Z m h (upd H p o) := by
  have ex := Ext.laid (o := o) x hp
  have out := x.out hp
  refine ⟨x.len, x.nd, x.dj, fun a ha => ?_, fun n c a h1 h2 => ?_⟩
  · rw [ex.zs a ha]; exact x.ex a ha
  · have ne : a ≠ p := fun z => out (List.mem_append_right _ (by rw [← z]; exact List.mem_of_getElem? h2))
    exact CellR.mono (fun _ _ e => e) ex.st (upd_ne ne) (x.cell n c a h1 h2)
/-- .. and is read as it was laid -/
theorem HeapOk.seen (x : HeapOk K mg Z m h H) {p : Addr} {o : HO} (hp : H p = none) : hide (Z ++ m) (upd H p o) p = some o := hide_of (x.out hp) upd_same

section
variable {α β γ δ : Type} {relA : List Addr → Hp → α → γ → Prop} {relB : List Addr → Hp → β → δ → Prop} {W : WX} {σ : St}
/-- what comes first, then what follows -/
theorem PostG.bind {x : M α} {f : α → M β} {Q : δ → Hp → Prop} (p : PostG K mg relB W σ Z m H (M.bind x f h) Q) :
    PostG K mg relA W σ Z m H (x h) (fun v H' => ∃ d m' h', Ext Z m H m' H' ∧ HeapOk K mg Z m' h' H' ∧ relA m' (hide (Z ++ m') H') d v ∧ x h = .ok d h' ∧ PostG K mg relB W σ Z m' H' (f d h') Q) := by
  unfold M.bind at p
  cases e : x h with
  | ok d h1 =>
    rw [e] at p
    intro v m' H' ex hk r
    refine ⟨d, m', h1, ex, hk, r, rfl, ?_⟩
    have p : PostG K mg relB W σ Z m H (f d h1) Q := p
    cases e2 : f d h1 with
    | ok d2 h2 => rw [e2] at p; exact fun v' m'' H'' ex' hk' r' => p v' m'' H'' (ex.trans ex') hk' r'
    | exc c h2 => rw [e2] at p; exact fun m'' H'' cls ex' hk' hc => p m'' H'' cls (ex.trans ex') hk' hc
    | bad => rw [e2] at p; exact p
  | exc c h1 => rw [e] at p; exact p
  | bad => rw [e] at p; exact p
theorem PostG.imp {r : R α} {Q Q' : γ → Hp → Prop} (p : PostG K mg relA W σ Z m H r Q) (i : ∀ v H', Q v H' → Q' v H') : PostG K mg relA W σ Z m H r Q' := by
  cases r with
  | ok d h1 => exact fun v m' H' ex hk r => i _ _ (p v m' H' ex hk r)
  | exc c h1 => exact p
  | bad => exact p
/-- shift the start -/
theorem PostG.from {r : R α} {Q : γ → Hp → Prop} (ex : Ext Z m H m1 H1) (p : PostG K mg relA W σ Z m H r Q) : PostG K mg relA W σ Z m1 H1 r Q := by
  cases r with
  | ok d h1 => exact fun v m' H' ex' hk r => p v m' H' (ex.trans ex') hk r
  | exc c h1 => exact fun m' H' cls ex' hk hc => p m' H' cls (ex.trans ex') hk hc
  | bad => exact p
end
end
end FK

/-! part: FK2 -/
set_option Elab.async false
set_option linter.all false
set_option maxRecDepth 100000
set_option maxHeartbeats 4000000
/-! FK2: operators on data, expressions. -/
namespace FK
open PySem PySem.Spec L2

/-! ### the data's own functions -/
mutual
def D.py : D → PyData
  | .non => .none
  | .bl b => .bool b
  | .int i => .int i
  | .str x => .str x
  | .tup xs => .tuple (D.pyL xs)
  | .lst xs => .list (D.pyL xs)
  | .scr xs => .list (D.pyL xs)
  | .obj _ _ _ => .none
  | .ref _ => .none
def D.pyL : List D → List PyData
  | [] => []
  | d :: ds => D.py d :: D.pyL ds
end
mutual
/-- no objects, no cells in it -/
def D.dat : D → Bool
  | .tup xs => D.datL xs
  | .lst xs => D.datL xs
  | .scr xs => D.datL xs
  | .obj _ _ _ => false
  | .ref _ => false
  | _ => true
def D.datL : List D → Bool
  | [] => true
  | d :: ds => D.dat d && D.datL ds
end
mutual
def D.dep : D → Nat
  | .tup xs => D.depL xs + 1
  | .lst xs => D.depL xs + 1
  | .scr xs => D.depL xs + 1
  | _ => 0
def D.depL : List D → Nat
  | [] => 0
  | d :: ds => max (D.dep d) (D.depL ds)
end
def D.eqb (x y : D) : Bool := PyData.eqv x.py y.py
mutual
theorem D.dep_py : ∀ d : D, d.dat = true → d.py.depth = d.dep
  | .non, _ => rfl
  | .bl _, _ => rfl
  | .int _, _ => rfl
  | .str _, _ => rfl
  | .tup xs, h => by
    show PyData.depthAll (D.pyL xs) + 1 = D.depL xs + 1
    rw [D.depL_py xs (by simpa [D.dat] using h)]
  | .lst xs, h => by
    show PyData.depthAll (D.pyL xs) + 1 = D.depL xs + 1
    rw [D.depL_py xs (by simpa [D.dat] using h)]
  | .scr xs, h => by
    show PyData.depthAll (D.pyL xs) + 1 = D.depL xs + 1
    rw [D.depL_py xs (by simpa [D.dat] using h)]
  | .obj _ _ _, h => by simp [D.dat] at h
  | .ref _, h => by simp [D.dat] at h
theorem D.depL_py : ∀ ds : List D, D.datL ds = true → PyData.depthAll (D.pyL ds) = D.depL ds
  | [], _ => rfl
  | d :: ds, h => by
    have h' : d.dat = true ∧ D.datL ds = true := by simpa [D.datL] using h
    show max (PyData.depth d.py) (PyData.depthAll (D.pyL ds)) = max (D.dep d) (D.depL ds)
    rw [D.dep_py d h'.1, D.depL_py ds h'.2]
end
section
variable {K : PySem.W.Frag} {mg : Str → Option Value} {m : List Addr} {S H : Hp}
mutual
theorem Rep.dp (hs : Sub S H) : ∀ (d : D) (v : V), Rep K mg m S d v → d.dat = true → Dp K H v d.py
  | .non, v, h, _ => by simp [Rep] at h; subst h; exact .non
  | .bl b, v, h, _ => by simp [Rep] at h; subst h; exact .bl b
  | .int i, v, h, _ => by simp [Rep] at h; subst h; exact .int i
  | .str x, v, h, _ => by simp [Rep] at h; obtain ⟨rfl, _⟩ := h; exact .str x
  | .tup xs, v, h, q => by
    unfold Rep at h
    obtain ⟨a, vs, rfl, h1, h2⟩ := h
    exact .tup (hs.sqt h1) (RepL.dp hs xs vs h2 (by simpa [D.dat] using q))
  | .lst xs, v, h, q => by
    unfold Rep at h
    obtain ⟨a, vs, rfl, h1, h2⟩ := h
    exact .lst (SqL.of (hs _ _ h1)) (RepL.dp hs xs vs h2 (by simpa [D.dat] using q))
  | .scr xs, v, h, q => by
    unfold Rep at h
    obtain ⟨a, vs, rfl, h1, h2⟩ := h
    exact .lst (hs.sql h1) (RepL.dp hs xs vs h2 (by simpa [D.dat] using q))
  | .obj _ _ _, _, _, q => by simp [D.dat] at q
  | .ref _, _, _, q => by simp [D.dat] at q
theorem RepL.dp (hs : Sub S H) : ∀ (ds : List D) (vs : List V), RepL K mg m S ds vs → D.datL ds = true → DpAll K H vs (D.pyL ds)
  | [], vs, h, _ => by rw [h.of_nil]; exact .nil
  | d :: ds, vs, h, q => by
    obtain ⟨v, r, rfl, h1, h2⟩ := h.of_cons
    have q' : d.dat = true ∧ D.datL ds = true := by simpa [D.datL] using q
    exact .cons (Rep.dp hs d v h1 q'.1) (RepL.dp hs ds r h2 q'.2)
end
mutual
theorem Rep.lay : ∀ (d : D) (v : V), Rep K mg m S d v → d.dat = true → d.py.canLay0 = true
  | .non, v, h, _ => rfl
  | .bl b, v, h, _ => rfl
  | .int i, v, h, _ => rfl
  | .str x, v, h, _ => by simp [Rep] at h; exact h.2
  | .tup xs, v, h, q => by
    unfold Rep at h
    obtain ⟨a, vs, rfl, h1, h2⟩ := h
    exact RepL.lay xs vs h2 (by simpa [D.dat] using q)
  | .lst xs, v, h, q => by
    unfold Rep at h
    obtain ⟨a, vs, rfl, h1, h2⟩ := h
    exact RepL.lay xs vs h2 (by simpa [D.dat] using q)
  | .scr xs, v, h, q => by
    unfold Rep at h
    obtain ⟨a, vs, rfl, h1, h2⟩ := h
    exact RepL.lay xs vs h2 (by simpa [D.dat] using q)
  | .obj _ _ _, _, _, q => by simp [D.dat] at q
  | .ref _, _, _, q => by simp [D.dat] at q
theorem RepL.lay : ∀ (ds : List D) (vs : List V), RepL K mg m S ds vs → D.datL ds = true → PyData.canLayAll0 (D.pyL ds) = true
  | [], vs, h, _ => rfl
  | d :: ds, vs, h, q => by
    obtain ⟨v, r, rfl, h1, h2⟩ := h.of_cons
    have q' : d.dat = true ∧ D.datL ds = true := by simpa [D.datL] using q
    show (PyData.canLay0 d.py && PyData.canLayAll0 (D.pyL ds)) = true
    rw [Rep.lay d v h1 q'.1, RepL.lay ds r h2 q'.2]
    rfl
end
end
/-- a cell that is a list is read as one -/
def vw (h : CH) : D → D
  | .ref n => match h[n]? with
    | some (.lst xs) => .lst xs
    | _ => .ref n
  | d => d
/-- what may be walked, counted, indexed -/
def seq (h : CH) (d : D) : Option (List D) :=
  match vw h d with
  | .tup xs => some xs
  | .lst xs => some xs
  | .scr xs => some xs
  | _ => none
/-- lists that are tracked -/
def lstOf (h : CH) (d : D) : Option (List D) :=
  match vw h d with
  | .lst xs => some xs
  | _ => none
section
variable {K : PySem.W.Frag} {mg : Str → Option Value} {Z m : List Addr} {H : Hp} {h : CH}
/-- a list as it stands in H -/
theorem HeapOk.rlst (x : HeapOk K mg Z m h H) {d : D} {v : V} (r : Rep K mg m (hide (Z ++ m) H) d v) {xs : List D} (e : vw h d = .lst xs) :
    ∃ a vs, v = .ref a ∧ H a = some (.lst vs) ∧ RepL K mg m (hide (Z ++ m) H) xs vs := by
  cases d with
  | ref n =>
    unfold Rep at r
    obtain ⟨a, h1, rfl⟩ := r
    have e : (match h[n]? with | some (.lst xs) => D.lst xs | _ => .ref n) = .lst xs := e
    cases hc : h[n]? with
    | none => rw [hc] at e; cases e
    | some c =>
      rw [hc] at e
      cases c with
      | lst ys =>
        cases e
        obtain ⟨vs, g1, g2⟩ := x.cell n _ a hc h1
        exact ⟨a, vs, rfl, g1, g2⟩
      | ins _ _ _ => cases e
  | lst ys =>
    cases e
    unfold Rep at r
    obtain ⟨a, vs, e1, h1, h2⟩ := r
    exact ⟨a, vs, e1, (hide_some h1).2, h2⟩
  | _ => cases e
theorem HeapOk.rtup {d : D} {v : V} (r : Rep K mg m (hide (Z ++ m) H) d v) {xs : List D} (e : vw h d = .tup xs) :
    ∃ a vs, v = .ref a ∧ SqT K H a vs ∧ RepL K mg m (hide (Z ++ m) H) xs vs := by
  cases d with
  | ref n =>
    have e : (match h[n]? with | some (.lst xs) => D.lst xs | _ => .ref n) = .tup xs := e
    split at e <;> cases e
  | tup ys =>
    cases e
    unfold Rep at r
    obtain ⟨a, vs, e1, h1, h2⟩ := r
    exact ⟨a, vs, e1, hide_sub.sqt h1, h2⟩
  | _ => cases e
theorem HeapOk.rscr {d : D} {v : V} (r : Rep K mg m (hide (Z ++ m) H) d v) {xs : List D} (e : vw h d = .scr xs) :
    ∃ a vs, v = .ref a ∧ SqL K H a vs ∧ RepL K mg m (hide (Z ++ m) H) xs vs := by
  cases d with
  | ref n =>
    have e : (match h[n]? with | some (.lst xs) => D.lst xs | _ => .ref n) = .scr xs := e
    split at e <;> cases e
  | scr ys =>
    cases e
    unfold Rep at r
    obtain ⟨a, vs, e1, h1, h2⟩ := r
    exact ⟨a, vs, e1, hide_sub.sql h1, h2⟩
  | _ => cases e
theorem HeapOk.rseq (x : HeapOk K mg Z m h H) {d : D} {v : V} (r : Rep K mg m (hide (Z ++ m) H) d v) {xs : List D} (e : seq h d = some xs) :
    ∃ a vs, v = .ref a ∧ (SqL K H a vs ∨ SqT K H a vs) ∧ RepL K mg m (hide (Z ++ m) H) xs vs := by
  unfold seq at e
  cases hv : vw h d with
  | tup ys =>
    rw [hv] at e; cases e
    obtain ⟨a, vs, e1, h1, h2⟩ := HeapOk.rtup r hv
    exact ⟨a, vs, e1, .inr h1, h2⟩
  | lst ys =>
    rw [hv] at e; cases e
    obtain ⟨a, vs, e1, h1, h2⟩ := x.rlst r hv
    exact ⟨a, vs, e1, .inl (SqL.of h1), h2⟩
  | scr ys =>
    rw [hv] at e; cases e
    obtain ⟨a, vs, e1, h1, h2⟩ := HeapOk.rscr r hv
    exact ⟨a, vs, e1, .inl h1, h2⟩
  | _ => rw [hv] at e; cases e
theorem HeapOk.rlstOf (x : HeapOk K mg Z m h H) {d : D} {v : V} (r : Rep K mg m (hide (Z ++ m) H) d v) {xs : List D} (e : lstOf h d = some xs) :
    ∃ a vs, v = .ref a ∧ H a = some (.lst vs) ∧ RepL K mg m (hide (Z ++ m) H) xs vs := by
  unfold lstOf at e
  cases hv : vw h d with
  | lst ys => rw [hv] at e; cases e; exact x.rlst r hv
  | _ => rw [hv] at e; cases e
/-- as data, in H -/
theorem HeapOk.dp (x : HeapOk K mg Z m h H) {d : D} {v : V} (r : Rep K mg m (hide (Z ++ m) H) d v) (q : (vw h d).dat = true) : Dp K H v (vw h d).py ∧ (vw h d).py.canLay0 = true := by
  cases hv : vw h d with
  | lst xs =>
    obtain ⟨a, vs, rfl, h1, h2⟩ := x.rlst r hv
    rw [hv] at q
    have q' : D.datL xs = true := by simpa [D.dat] using q
    exact ⟨.lst (SqL.of h1) (RepL.dp hide_sub xs vs h2 q'), RepL.lay xs vs h2 q'⟩
  | ref n => rw [hv] at q; simp [D.dat] at q
  | obj c ns xs => rw [hv] at q; simp [D.dat] at q
  | _ =>
    have e : vw h d = d := by
      cases d with
      | ref n =>
        exfalso
        have hv' : (match h[n]? with | some (.lst xs) => D.lst xs | _ => .ref n) = _ := hv
        split at hv' <;> cases hv'
      | _ => rfl
    obtain rfl := hv.symm.trans e
    exact ⟨Rep.dp hide_sub _ v r q, Rep.lay _ v r q⟩
end

/-! ### operators, by data -/
def dAdd (x y : D) : M D := fun h =>
  match x, y with
  | .int i, .int j => .ok (.int (i + j)) h
  | .str a, .str b => if a.length + b.length ≤ sizeLine then .ok (.str (a ++ b)) h else .bad
  | .tup xs, .tup ys => if xs.length + ys.length ≤ sizeLine then .ok (.tup (xs ++ ys)) h else .bad
  | x, y => match lstOf h x, lstOf h y with
    | some xs, some ys => if xs.length + ys.length ≤ sizeLine then .ok (.lst (xs ++ ys)) h else .bad
    | _, _ => .bad
def dSub (x y : D) : M D := fun h =>
  match x, y with
  | .int i, .int j => .ok (.int (i - j)) h
  | _, _ => .bad
/-- bounds are asked with a classical instance: the kernel then never counts down from a bound -/
noncomputable def dMul (x y : D) : M D := fun h =>
  match x, y with
  | .int i, .int j => @ite _ ((-(2 ^ 64) < i ∧ i < 2 ^ 64) ∨ (-(2 ^ 64) < j ∧ j < 2 ^ 64)) (Classical.propDecidable _) (.ok (.int (i * j)) h) .bad
  | .str a, .int n => @ite _ (n < 2 ^ 31 ∧ -(2 ^ 31) < n ∧ a.length * n.toNat ≤ sizeLine) (Classical.propDecidable _) (.ok (.str (Txt.mul a n)) h) .bad
  | _, _ => .bad
noncomputable def dFdiv (x y : D) : M D := fun h =>
  match x, y with
  | .int i, .int j => @ite _ (0 < j ∧ j < 1073741824) (Classical.propDecidable _) (.ok (.int (i / j)) h) .bad
  | _, _ => .bad
def dMod (x y : D) : M D := fun h =>
  match x, y with
  | .int i, .int j => if 0 < j then .ok (.int (i % j)) h else .bad
  | _, _ => .bad
def dEq (x y : D) : M D := fun h =>
  if (vw h x).dat = true ∧ (vw h y).dat = true ∧ min (vw h x).dep (vw h y).dep ≤ 60 then .ok (.bl ((vw h x).eqb (vw h y))) h else .bad
def dNe (x y : D) : M D := fun h =>
  if (vw h x).dat = true ∧ (vw h y).dat = true ∧ min (vw h x).dep (vw h y).dep ≤ 60 then .ok (.bl (!(vw h x).eqb (vw h y))) h else .bad
/-- tuples of ints -/
def intsD : List D → Option (List Int)
  | [] => some []
  | .int i :: r => (intsD r).map (i :: ·)
  | _ => none
def dLt (x y : D) : M D := fun h =>
  match x, y with
  | .int i, .int j => .ok (.bl (decide (i < j))) h
  | .str a, .str b => .ok (.bl (decide (a.cps.toList < b.cps.toList))) h
  | .tup xs, .tup ys => match intsD xs, intsD ys with
    | some ns, some ms => .ok (.bl (HT.lexLt ns ms)) h
    | _, _ => .bad
  | _, _ => .bad
def dLe (x y : D) : M D := fun h =>
  match x, y with
  | .int i, .int j => .ok (.bl (decide (i ≤ j))) h
  | _, _ => .bad
def dGt (x y : D) : M D := fun h =>
  match x, y with
  | .int i, .int j => .ok (.bl (decide (j < i))) h
  | _, _ => .bad
def dGe (x y : D) : M D := fun h =>
  match x, y with
  | .int i, .int j => .ok (.bl (decide (j ≤ i))) h
  | _, _ => .bad
def D.isNon : D → Bool
  | .non => true
  | _ => false
def dIs (x y : D) : M D := fun h =>
  match y with
  | .non => .ok (.bl x.isNon) h
  | _ => .bad
def dIsnt (x y : D) : M D := fun h =>
  match y with
  | .non => .ok (.bl (!x.isNon)) h
  | _ => .bad
def inb (x : D) (ys : List D) : Bool := ys.any fun y => D.eqb y x
def dIn (x c : D) : M D := fun h =>
  match seq h c with
  | some ys => if (vw h x).dat = true ∧ D.datL ys = true ∧ (vw h x).dep ≤ 60 then .ok (.bl (inb (vw h x) ys)) h else .bad
  | none => .bad
def dNotIn (x c : D) : M D := fun h =>
  match seq h c with
  | some ys => if (vw h x).dat = true ∧ D.datL ys = true ∧ (vw h x).dep ≤ 60 then .ok (.bl (!inb (vw h x) ys)) h else .bad
  | none => .bad
def dIdx (x i : D) : M D := fun h =>
  match i with
  | .int k => match x with
    | .str a => match atI a.cps.toList k with
      | some c => if a.length ≤ sizeLine then .ok (.str ⟨#[c]⟩) h else .bad
      | none => .bad
    | x => match seq h x with
      | some xs => match atI xs k with
        | some d => .ok d h
        | none => .bad
      | none => .bad
  | _ => .bad

/-! ### the canonical readings -/
section
variable (K : PySem.W.Frag) (mg : Str → Option Value) (W : WX)
def rD2 (op : D → D → M D) : R2 := fun vx vy H Q => ∃ Z m h σ x y, HeapOk K mg Z m h H ∧ Rep K mg m (hide (Z ++ m) H) x vx ∧ Rep K mg m (hide (Z ++ m) H) y vy ∧ Post K mg W σ Z m H (op x y h) Q
def rD1 (op : D → M D) : V → Hp → VK → Prop := fun vx H Q => ∃ Z m h σ x, HeapOk K mg Z m h H ∧ Rep K mg m (hide (Z ++ m) H) x vx ∧ Post K mg W σ Z m H (op x h) Q
def rDL (op : List D → M D) : List V → Hp → VK → Prop := fun vs H Q => ∃ Z m h σ ds, HeapOk K mg Z m h H ∧ RepL K mg m (hide (Z ++ m) H) ds vs ∧ Post K mg W σ Z m H (op ds h) Q
def rDM (op : D → List D → M D) : V → List V → Hp → VK → Prop := fun vx vs H Q => ∃ Z m h σ x ds, HeapOk K mg Z m h H ∧ Rep K mg m (hide (Z ++ m) H) x vx ∧ RepL K mg m (hide (Z ++ m) H) ds vs ∧ Post K mg W σ Z m H (op x ds h) Q
end
def e1 (op : D → M D) (f : ED) : ED := fun ρ => M.bind (f ρ) op
def e2 (op : D → D → M D) (f g : ED) : ED := fun ρ => M.bind (f ρ) fun x => M.bind (g ρ) fun y => op x y
def eC (d : D) : ED := fun _ => M.pure d
def eVar (i : Nat) : ED := fun ρ h =>
  match ρ[i]? with
  | some (some d) => .ok d h
  | _ => .bad

section
variable {X : Cx} {W : WX} {e a b : Expr} {f g : ED} {pos : Pos}
/-- a reading is chosen state by state -/
theorem pick {t : TE} (h : ∀ σ H Q, t σ H Q → ∃ t', PE X e t' ∧ t' σ H Q) : PE X e t := ⟨fun pins s σ H Q I q => by
  obtain ⟨t', p, q'⟩ := h σ H Q q
  exact p.run pins s σ H Q I q'⟩
theorem den1 {r : V → Hp → VK → Prop} {op : D → M D} {K : PySem.W.Frag} {mg : Str → Option Value} {σ : L2.St} {H : Hp} {Q : VK} (h : tD K mg W (e1 op f) σ H Q) (hr : ∀ v H Q, rD1 K mg W op v H Q → r v H Q) :
    tD K mg W f σ H (fun x H1 => r x H1 Q) := by
  obtain ⟨Z, m, ρ, c, at', p⟩ := h
  refine ⟨Z, m, ρ, c, at', (PostG.bind p).imp fun v H' ⟨d, m', h', ex, hk, rp, _, q⟩ => hr _ _ _ ⟨Z, m', h', σ, d, hk, rp, q⟩⟩
theorem den2 {r : R2} {op : D → D → M D} {K : PySem.W.Frag} {mg : Str → Option Value} {σ : L2.St} {H : Hp} {Q : VK} (h : tD K mg W (e2 op f g) σ H Q) (hr : ∀ v u H Q, rD2 K mg W op v u H Q → r v u H Q) : tOp r (tD K mg W f) (tD K mg W g) σ H Q := by
  obtain ⟨Z, m, ρ, c, at', p⟩ := h
  refine ⟨Z, m, ρ, c, at', (PostG.bind p).imp fun v H1 ⟨d, m1, h1, ex, hk, rp, _, q⟩ => ?_⟩
  refine ⟨Z, m1, ρ, h1, ⟨hk, ex.env at'.en⟩, (PostG.bind q).imp fun u H2 ⟨d2, m2, h2, ex2, hk2, rp2, _, q2⟩ => ?_⟩
  exact hr _ _ _ _ ⟨Z, m2, h2, σ, d, d2, hk2, ex2.rep rp, rp2, q2⟩
theorem se_op {op : Operator} {o : D → D → M D} (ho : OpR X (binaryOp op) (rD2 X.K X.mg W o)) (ha : PE X a (tD X.K X.mg W f)) (hb : PE X b (tD X.K X.mg W g)) : PE X (.BinOp a op b pos) (tD X.K X.mg W (e2 o f g)) :=
  pick fun σ H Q h => ⟨_, pe_op ho ha hb, den2 h fun _ _ _ _ q => q⟩
theorem se_cmp {op : CmpOp} {o : D → D → M D} (ho : OpR X (compareOp op) (rD2 X.K X.mg W o)) (ha : PE X a (tD X.K X.mg W f)) (hb : PE X b (tD X.K X.mg W g)) (hm : behindInMarks op b = false) : PE X (.Compare a [op] [b] pos) (tD X.K X.mg W (e2 o f g)) :=
  pick fun σ H Q h => ⟨_, pe_cmpR ho ha hb hm, den2 h fun _ _ _ _ q => q⟩
theorem se_idx (ha : PE X a (tD X.K X.mg W f)) (hb : PE X b (tD X.K X.mg W g)) (ho : IxR X (rD2 X.K X.mg W dIdx)) (hs : PlainIx b := by exact fun _ _ => rfl) : PE X (.Subscript a b pos) (tD X.K X.mg W (e2 dIdx f g)) :=
  pick fun σ H Q h => ⟨_, pe_ix ho ha hb hs, den2 h fun _ _ _ _ q => q⟩

/-! ### names and constants -/
theorem se_var {i : Nat} {x : Str} (hN : X.N[i]? = some x) (hv : Vis X.env.scope x) (hd : (x == ("__debug__" : Str)) = false := by decide) (hcd : (x == ("__classdict__" : Str)) = false := by decide) : PE X (.Name x pos) (tD X.K X.mg W (eVar i)) :=
  pick fun σ H Q ⟨Z, m, ρ, c, at', p⟩ => ⟨_, pe_var hN hv hd hcd, by
    unfold eVar at p
    cases e : ρ[i]? with
    | none => rw [e] at p; exact p.elim
    | some o =>
      cases o with
      | none => rw [e] at p; exact p.elim
      | some d =>
        rw [e] at p
        obtain ⟨v, h1, h2⟩ := at'.en.get e
        exact ⟨v, h1, p v m H Ext.refl at'.hk h2⟩⟩
theorem tC_of {K : PySem.W.Frag} {mg : Str → Option Value} {d : D} {v : V} {σ : L2.St} {H : Hp} {Q : VK} (h : tD K mg W (eC d) σ H Q) (hr : ∀ m S, Rep K mg m S d v) : tC v σ H Q := by
  obtain ⟨Z, m, ρ, c, at', p⟩ := h
  exact p v m H Ext.refl at'.hk (hr _ _)
theorem se_int {i j} : PE X (.Constant (.int i) j pos) (tD X.K X.mg W (eC (.int i))) := pick fun σ H Q h => ⟨_, pe_int, tC_of h fun _ _ => by unfold Rep; rfl⟩
theorem se_bl {i j} : PE X (.Constant (.bool i) j pos) (tD X.K X.mg W (eC (.bl i))) := pick fun σ H Q h => ⟨_, pe_bl, tC_of h fun _ _ => by unfold Rep; rfl⟩
theorem se_non {j} : PE X (.Constant .none j pos) (tD X.K X.mg W (eC .non)) := pick fun σ H Q h => ⟨_, pe_non, tC_of h fun _ _ => by unfold Rep; rfl⟩
theorem se_str {x : Str} {j} (hx : PyData.strOk x = true := by decide +kernel) : PE X (.Constant (.str x) j pos) (tD X.K X.mg W (eC (.str x))) := pick fun σ H Q h => ⟨_, pe_str, tC_of h fun _ _ => by unfold Rep; exact ⟨rfl, hx⟩⟩
end
end FK

/-! part: FK3 -/
set_option Elab.async false
set_option linter.all false
set_option maxRecDepth 100000
set_option maxHeartbeats 4000000
/-! FK3: each operator on data is the model's. -/
namespace FK
open PySem PySem.Spec L2

/-! ### texts that stay texts -/
theorem ok_app {a b : Str} (ha : PyData.strOk a = true) (hb : PyData.strOk b = true) : PyData.strOk (a ++ b) = true := by
  unfold PyData.strOk at *
  show (a.cps ++ b.cps).all _ = true
  rw [Array.all_append, ha, hb]
  rfl
theorem ok_iff {a : Str} : PyData.strOk a = true ↔ ∀ c ∈ a.cps.toList, c < 0x110000 := by
  unfold PyData.strOk
  rw [Array.all_eq_true_iff_forall_mem]
  simp
theorem ok_one {a : Str} (ha : PyData.strOk a = true) {c : Nat} (h : c ∈ a.cps.toList) : PyData.strOk ⟨#[c]⟩ = true := by
  rw [ok_iff] at *
  intro x hx
  simp at hx
  subst hx
  exact ha _ h
section
variable {K : PySem.W.Frag} {mg : Str → Option Value} {m : List Addr} {S : Hp}
theorem RepL.eq_nil : ∀ {ds : List D}, RepL K mg m S ds [] → ds = []
  | [], _ => rfl
  | d :: ds, h => by
    obtain ⟨v, r, e, _⟩ := h.of_cons
    cases e
theorem rep_int {i : Int} {v : V} (h : Rep K mg m S (.int i) v) : v = .int i := by unfold Rep at h; exact h
theorem rep_bl {i : Bool} {v : V} (h : Rep K mg m S (.bl i) v) : v = .bl i := by unfold Rep at h; exact h
theorem rep_non {v : V} (h : Rep K mg m S .non v) : v = .non := by unfold Rep at h; exact h
theorem rep_str {x : Str} {v : V} (h : Rep K mg m S (.str x) v) : v = .str x ∧ PyData.strOk x = true := by unfold Rep at h; exact h
theorem rep_tup {xs : List D} {v : V} (h : Rep K mg m S (.tup xs) v) : ∃ a vs, v = .ref a ∧ SqT K S a vs ∧ RepL K mg m S xs vs := by unfold Rep at h; exact h
theorem mk_int (i : Int) : Rep K mg m S (.int i) (.int i) := by unfold Rep; rfl
theorem mk_bl (i : Bool) : Rep K mg m S (.bl i) (.bl i) := by unfold Rep; rfl
theorem mk_non : Rep K mg m S .non .non := by unfold Rep; rfl
theorem mk_str {x : Str} (h : PyData.strOk x = true) : Rep K mg m S (.str x) (.str x) := by unfold Rep; exact ⟨rfl, h⟩
end
section
variable {K : PySem.W.Frag} {mg : Str → Option Value} {Z m : List Addr} {H : Hp} {h : CH} {W : WX} {σ : L2.St} {Q : VK}
/-- a new tuple -/
theorem put_tup (hk : HeapOk K mg Z m h H) {ds : List D} {vs : List V} (r : RepL K mg m (hide (Z ++ m) H) ds vs) (p : Post K mg W σ Z m H (.ok (.tup ds) h) Q) : ∀ l, H l = none → Q (.ref l) (upd H l (.tup vs)) := fun l hl => by
  have ex := Ext.laid (o := .tup vs) hk hl
  refine p _ m _ ex (hk.laid hl) ?_
  unfold Rep
  exact ⟨l, vs, rfl, SqT.of (hk.seen hl), ex.repL r⟩
/-- a new list that stands still -/
theorem put_lst (hk : HeapOk K mg Z m h H) {ds : List D} {vs : List V} (r : RepL K mg m (hide (Z ++ m) H) ds vs) (p : Post K mg W σ Z m H (.ok (.lst ds) h) Q) : ∀ l, H l = none → Q (.ref l) (upd H l (.lst vs)) := fun l hl => by
  have ex := Ext.laid (o := .lst vs) hk hl
  refine p _ m _ ex (hk.laid hl) ?_
  unfold Rep
  exact ⟨l, vs, rfl, hk.seen hl, ex.repL r⟩
theorem put_int (hk : HeapOk K mg Z m h H) {i : Int} (p : Post K mg W σ Z m H (.ok (.int i) h) Q) : Q (.int i) H := p _ m H Ext.refl hk (mk_int i)
theorem put_bl (hk : HeapOk K mg Z m h H) {i : Bool} (p : Post K mg W σ Z m H (.ok (.bl i) h) Q) : Q (.bl i) H := p _ m H Ext.refl hk (mk_bl i)
theorem put_non (hk : HeapOk K mg Z m h H) (p : Post K mg W σ Z m H (.ok .non h) Q) : Q .non H := p _ m H Ext.refl hk mk_non
theorem put_str (hk : HeapOk K mg Z m h H) {x : Str} (hx : PyData.strOk x = true) (p : Post K mg W σ Z m H (.ok (.str x) h) Q) : Q (.str x) H := p _ m H Ext.refl hk (mk_str hx)
theorem put_old (hk : HeapOk K mg Z m h H) {d : D} {v : V} (r : Rep K mg m (hide (Z ++ m) H) d v) (p : Post K mg W σ Z m H (.ok d h) Q) : Q v H := p _ m H Ext.refl hk r
end

/-! ### arithmetic -/
section
variable {X : Cx} {W : WX}
theorem op_dAdd : OpR X (binaryOp .Add) (rD2 X.K X.mg W dAdd) := by
  intro pins s σ H vx vy v u Q I rx ry ⟨Z, m, h, σ', x, y, hk, r1, r2, p⟩
  unfold dAdd at p
  split at p
  · obtain rfl := rep_int r1
    obtain rfl := rep_int r2
    exact op_add pins s σ H _ _ v u Q I rx ry ⟨_, _, rfl, rfl, put_int hk p⟩
  · obtain ⟨rfl, k1⟩ := rep_str r1
    obtain ⟨rfl, k2⟩ := rep_str r2
    split at p
    · rename_i hz
      exact op_add_str pins s σ H _ _ v u Q I rx ry ⟨_, _, rfl, rfl, hz, put_str hk (ok_app k1 k2) p⟩
    · exact p.elim
  · obtain ⟨a, xs, rfl, g1, g2⟩ := rep_tup r1
    obtain ⟨b, ys, rfl, g3, g4⟩ := rep_tup r2
    split at p
    · rename_i hz
      refine op_catA pins s σ H _ _ v u Q I rx ry ⟨a, b, xs, ys, rfl, rfl, hide_sub.sqt g1, hide_sub.sqt g3, by rw [g2.length, g4.length]; exact hz, fun e => ?_, fun e1 e2 => ?_, fun e1 e2 => put_tup hk (g2.append g4) p⟩
      · subst e
        have e' := g2.eq_nil
        subst e'
        exact put_old hk r2 p
      · subst e2
        have e' := g4.eq_nil
        subst e'
        rw [List.append_nil] at p
        exact put_old hk r1 p
    · exact p.elim
  · split at p
    · rename_i h1 h2
      obtain ⟨a, xs, rfl, g1, g2⟩ := hk.rlstOf r1 h1
      obtain ⟨b, ys, rfl, g3, g4⟩ := hk.rlstOf r2 h2
      split at p
      · rename_i hz
        exact op_cat pins s σ H _ _ v u Q I rx ry ⟨a, b, xs, ys, rfl, rfl, g1, g3, by rw [g2.length, g4.length]; exact hz, put_lst hk (g2.append g4) p⟩
      · exact p.elim
    · exact p.elim
theorem op_dSub : OpR X (binaryOp .Sub) (rD2 X.K X.mg W dSub) := by
  intro pins s σ H vx vy v u Q I rx ry ⟨Z, m, h, σ', x, y, hk, r1, r2, p⟩
  unfold dSub at p
  split at p
  · obtain rfl := rep_int r1
    obtain rfl := rep_int r2
    exact op_sub pins s σ H _ _ v u Q I rx ry ⟨_, _, rfl, rfl, put_int hk p⟩
  · exact p.elim
theorem op_dFdiv : OpR X (binaryOp .FloorDiv) (rD2 X.K X.mg W dFdiv) := by
  intro pins s σ H vx vy v u Q I rx ry ⟨Z, m, h, σ', x, y, hk, r1, r2, p⟩
  unfold dFdiv at p
  split at p
  · obtain rfl := rep_int r1
    obtain rfl := rep_int r2
    split at p
    · rename_i hz
      exact op_fdiv pins s σ H _ _ v u Q I rx ry ⟨_, _, rfl, rfl, hz, put_int hk p⟩
    · exact p.elim
  · exact p.elim
theorem op_dMod : OpR X (binaryOp .Mod) (rD2 X.K X.mg W dMod) := by
  intro pins s σ H vx vy v u Q I rx ry ⟨Z, m, h, σ', x, y, hk, r1, r2, p⟩
  unfold dMod at p
  split at p
  · obtain rfl := rep_int r1
    obtain rfl := rep_int r2
    split at p
    · rename_i hz
      exact op_mod pins s σ H _ _ v u Q I rx ry ⟨_, _, rfl, rfl, hz, put_int hk p⟩
    · exact p.elim
  · exact p.elim
theorem foldl_cps (x : Array Nat) : ∀ (k : Nat) (acc : Array Nat), ((List.replicate k x).foldl (· ++ ·) acc).toList = acc.toList ++ (List.replicate k x.toList).flatten
  | 0, acc => by simp
  | k + 1, acc => by
    rw [List.replicate_succ, List.foldl_cons, foldl_cps x k (acc ++ x)]
    simp [List.replicate_succ]
/-- a text k times -/
theorem mul_list (x : Str) (n : Int) : (Txt.mul x n).cps.toList = (List.replicate n.toNat x.cps.toList).flatten := by
  unfold Txt.mul
  by_cases h1 : n < 1
  · rw [if_pos h1]
    have e : n.toNat = 0 := by omega
    rw [e]
    rfl
  · rw [if_neg h1]
    by_cases h2 : (n == 1 || x.length == 0) = true
    · rw [if_pos h2]
      simp only [Bool.or_eq_true, beq_iff_eq] at h2
      rcases h2 with h2 | h2
      · subst h2; simp
      · have e : x.cps.toList = [] := by
          have h3 : x.cps.size = 0 := h2
          have := Array.eq_empty_of_size_eq_zero h3
          rw [this]
        rw [e]
        simp
    · rw [if_neg h2]
      show ((List.replicate n.toNat x.cps).foldl (· ++ ·) #[]).toList = _
      rw [foldl_cps]
      rfl
theorem ok_mul {x : Str} (hx : PyData.strOk x = true) (n : Int) : PyData.strOk (Txt.mul x n) = true := by
  rw [ok_iff] at *
  rw [mul_list]
  intro c hc
  rw [List.mem_flatten] at hc
  obtain ⟨l, h1, h2⟩ := hc
  have e := List.eq_of_mem_replicate h1
  subst e
  exact hx c h2
theorem mul_room {x : Str} {n : Int} (h1 : n < 2 ^ 31) (h2 : -(2 ^ 31) < n) (h3 : x.length * n.toNat ≤ sizeLine) : MulOk x n := by
  have hs : sizeLine = 16777216 := sizeLine_eq
  refine ⟨?_, fun h4 h5 => ?_, fun h4 h5 => ?_⟩
  · rw [Bool.or_eq_false_iff]
    exact ⟨decide_eq_false (by omega), decide_eq_false (by omega)⟩
  · intro h6
    have hn : 0 < n := by omega
    have h7 : (2 ^ 63 - 1) / n ≥ 16777216 := by
      have : (16777216 : Int) * n ≤ 2 ^ 63 - 1 := by omega
      exact (Int.le_ediv_iff_mul_le hn).mpr this
    have h8 : x.length ≤ x.length * n.toNat := Nat.le_mul_of_pos_right _ (by omega)
    omega
  · unfold Builtin.Str.tooLong
    have : x.length * n.toNat ≤ 16777216 := by omega
    first
      | exact decide_eq_false (by omega)
      | (simp; omega)
theorem op_dMul : OpR X (binaryOp .Mult) (rD2 X.K X.mg W dMul) := by
  intro pins s σ H vx vy v u Q I rx ry ⟨Z, m, h, σ', x, y, hk, r1, r2, p⟩
  unfold dMul at p
  split at p
  · obtain rfl := rep_int r1
    obtain rfl := rep_int r2
    split at p
    · rename_i hz
      exact op_mul pins s σ H _ _ v u Q I rx ry ⟨_, _, rfl, rfl, hz, put_int hk p⟩
    · exact p.elim
  · obtain ⟨rfl, k1⟩ := rep_str r1
    obtain rfl := rep_int r2
    split at p
    · rename_i hz
      obtain ⟨t, rfl⟩ := rx
      obtain ⟨t', rfl⟩ := ry
      exact SB.mul (mul_room hz.1 hz.2.1 hz.2.2) fun t' k => ⟨.str _, H, I.tok _, ⟨_, rfl⟩, put_str hk (ok_mul k1 _) p⟩
    · exact p.elim
  · exact p.elim

/-! ### comparisons -/
theorem op_dEq (hu : X.A.units + 60 < cLine) : OpR X (compareOp .Eq) (rD2 X.K X.mg W dEq) := by
  intro pins s σ H vx vy v u Q I rx ry ⟨Z, m, h, σ', x, y, hk, r1, r2, p⟩
  unfold dEq at p
  split at p
  · rename_i hz
    obtain ⟨d1, d2, d3⟩ := hz
    obtain ⟨p1, l1⟩ := hk.dp r1 d1
    obtain ⟨p2, l2⟩ := hk.dp r2 d2
    obtain ⟨as, q1⟩ := Dp.reads I _ _ v p1 rx
    obtain ⟨bs, q2⟩ := Dp.reads I _ _ u p2 ry
    exact SeqAt.compareEq_reads q1 q2 l1 l2 (by rw [D.dep_py _ d1, D.dep_py _ d2]; omega) ⟨.bl _, H, I, rfl, put_bl hk p⟩
  · exact p.elim
theorem op_dNe (hu : X.A.units + 60 < cLine) : OpR X (compareOp .NotEq) (rD2 X.K X.mg W dNe) := by
  intro pins s σ H vx vy v u Q I rx ry ⟨Z, m, h, σ', x, y, hk, r1, r2, p⟩
  unfold dNe at p
  split at p
  · rename_i hz
    obtain ⟨d1, d2, d3⟩ := hz
    obtain ⟨p1, l1⟩ := hk.dp r1 d1
    obtain ⟨p2, l2⟩ := hk.dp r2 d2
    obtain ⟨as, q1⟩ := Dp.reads I _ _ v p1 rx
    obtain ⟨bs, q2⟩ := Dp.reads I _ _ u p2 ry
    exact SeqAt.compareNe_reads q1 q2 l1 l2 (by rw [D.dep_py _ d1, D.dep_py _ d2]; omega) ⟨.bl _, H, I, rfl, put_bl hk p⟩
  · exact p.elim
theorem repL_ints {K : PySem.W.Frag} {mg : Str → Option Value} {m : List Addr} {S : Hp} : ∀ {ds : List D} {vs : List V} {ns : List Int}, RepL K mg m S ds vs → intsD ds = some ns → vs = ns.map V.int
  | [], vs, ns, r, e => by
    rw [r.of_nil]
    have e : some [] = some ns := e
    cases e
    rfl
  | d :: ds, vs, ns, r, e => by
    obtain ⟨v, t, rfl, a, b⟩ := r.of_cons
    cases d with
    | int i =>
      have e : (intsD ds).map (i :: ·) = some ns := e
      cases q : intsD ds with
      | none => rw [q] at e; cases e
      | some ks =>
        rw [q] at e
        cases e
        rw [rep_int a, repL_ints b q]
        rfl
    | _ => cases e
theorem op_dLt (hu : X.A.units < cLine) : OpR X (compareOp .Lt) (rD2 X.K X.mg W dLt) := by
  intro pins s σ H vx vy v u Q I rx ry ⟨Z, m, h, σ', x, y, hk, r1, r2, p⟩
  unfold dLt at p
  split at p
  · obtain rfl := rep_int r1
    obtain rfl := rep_int r2
    exact op_lt pins s σ H _ _ v u Q I rx ry ⟨_, _, rfl, rfl, put_bl hk p⟩
  · obtain ⟨rfl, k1⟩ := rep_str r1
    obtain ⟨rfl, k2⟩ := rep_str r2
    exact op_lt_str pins s σ H _ _ v u Q I rx ry ⟨_, _, rfl, rfl, put_bl hk p⟩
  · obtain ⟨a, xs, rfl, g1, g2⟩ := rep_tup r1
    obtain ⟨b, ys, rfl, g3, g4⟩ := rep_tup r2
    split at p
    · rename_i h1 h2
      have e1 := repL_ints g2 h1
      have e2 := repL_ints g4 h2
      subst e1 e2
      exact op_ltT hu pins s σ H _ _ v u Q I rx ry ⟨a, b, _, _, rfl, rfl, hide_sub.sqt g1, hide_sub.sqt g3, put_bl hk p⟩
    · exact p.elim
  · exact p.elim
theorem op_dLe : OpR X (compareOp .LtE) (rD2 X.K X.mg W dLe) := by
  intro pins s σ H vx vy v u Q I rx ry ⟨Z, m, h, σ', x, y, hk, r1, r2, p⟩
  unfold dLe at p
  split at p
  · obtain rfl := rep_int r1
    obtain rfl := rep_int r2
    exact op_le pins s σ H _ _ v u Q I rx ry ⟨_, _, rfl, rfl, put_bl hk p⟩
  · exact p.elim
theorem op_dGt : OpR X (compareOp .Gt) (rD2 X.K X.mg W dGt) := by
  intro pins s σ H vx vy v u Q I rx ry ⟨Z, m, h, σ', x, y, hk, r1, r2, p⟩
  unfold dGt at p
  split at p
  · obtain rfl := rep_int r1
    obtain rfl := rep_int r2
    exact op_gt pins s σ H _ _ v u Q I rx ry ⟨_, _, rfl, rfl, put_bl hk p⟩
  · exact p.elim
theorem op_dGe : OpR X (compareOp .GtE) (rD2 X.K X.mg W dGe) := by
  intro pins s σ H vx vy v u Q I rx ry ⟨Z, m, h, σ', x, y, hk, r1, r2, p⟩
  unfold dGe at p
  split at p
  · obtain rfl := rep_int r1
    obtain rfl := rep_int r2
    exact op_ge pins s σ H _ _ v u Q I rx ry ⟨_, _, rfl, rfl, put_bl hk p⟩
  · exact p.elim
theorem rep_isNon {K : PySem.W.Frag} {mg : Str → Option Value} {m : List Addr} {S : Hp} {d : D} {v : V} (r : Rep K mg m S d v) : decide (v = .non) = d.isNon := by
  cases d with
  | non => rw [rep_non r]; rfl
  | bl b => rw [rep_bl r]; rfl
  | int b => rw [rep_int r]; rfl
  | str b => rw [(rep_str r).1]; rfl
  | tup xs => unfold Rep at r; obtain ⟨a, _, rfl, _⟩ := r; rfl
  | lst xs => unfold Rep at r; obtain ⟨a, _, rfl, _⟩ := r; rfl
  | scr xs => unfold Rep at r; obtain ⟨a, _, rfl, _⟩ := r; rfl
  | obj c ns xs => unfold Rep at r; obtain ⟨a, _, _, _, rfl, _⟩ := r; rfl
  | ref n => unfold Rep at r; obtain ⟨a, _, rfl⟩ := r; rfl
theorem op_dIs : OpR X (compareOp .Is) (rD2 X.K X.mg W dIs) := by
  intro pins s σ H vx vy v u Q I rx ry ⟨Z, m, h, σ', x, y, hk, r1, r2, p⟩
  unfold dIs at p
  split at p
  · obtain rfl := rep_non r2
    exact op_isN pins s σ H _ _ v u Q I rx ry ⟨rfl, by rw [rep_isNon r1]; exact put_bl hk p⟩
  · exact p.elim
theorem op_dIsnt : OpR X (compareOp .IsNot) (rD2 X.K X.mg W dIsnt) := by
  intro pins s σ H vx vy v u Q I rx ry ⟨Z, m, h, σ', x, y, hk, r1, r2, p⟩
  unfold dIsnt at p
  split at p
  · obtain rfl := rep_non r2
    exact op_notN pins s σ H _ _ v u Q I rx ry ⟨rfl, by rw [rep_isNon r1]; exact put_bl hk p⟩
  · exact p.elim
theorem inb_py (x : D) : ∀ ys : List D, ((D.pyL ys).any fun z => PyData.eqv z x.py) = inb x ys
  | [] => rfl
  | y :: ys => by
    show (PyData.eqv y.py x.py || (D.pyL ys).any fun z => PyData.eqv z x.py) = (D.eqb y x || inb x ys)
    rw [inb_py x ys]
    rfl
/-- what a sequence is, as data -/
theorem seq_dp {K : PySem.W.Frag} {mg : Str → Option Value} {Z m : List Addr} {H : Hp} {h : CH} (hk : HeapOk K mg Z m h H) {d : D} {v : V} (r : Rep K mg m (hide (Z ++ m) H) d v) {ys : List D} (e : seq h d = some ys) (q : D.datL ys = true) :
    PyData.canLayAll0 (D.pyL ys) = true ∧ (Dp K H v (.list (D.pyL ys)) ∨ Dp K H v (.tuple (D.pyL ys))) := by
  obtain ⟨a, vs, rfl, h1, h2⟩ := hk.rseq r e
  refine ⟨RepL.lay ys vs h2 q, ?_⟩
  have h3 := RepL.dp hide_sub ys vs h2 q
  rcases h1 with h1 | h1
  · exact .inl (.lst h1 h3)
  · exact .inr (.tup h1 h3)
theorem op_dIn (hu : X.A.units + 61 < cLine) : OpR X (compareOp .In) (rD2 X.K X.mg W dIn) := by
  intro pins s σ H vx vy v u Q I rx ry ⟨Z, m, h, σ', x, y, hk, r1, r2, p⟩
  unfold dIn at p
  split at p
  · rename_i ys hs
    split at p
    · rename_i hz
      obtain ⟨d1, d2, d3⟩ := hz
      obtain ⟨p1, l1⟩ := hk.dp r1 d1
      obtain ⟨as, q1⟩ := Dp.reads I _ _ v p1 rx
      obtain ⟨l2, p2⟩ := seq_dp hk r2 hs d2
      have hr : X.A.units + 1 + min (PyData.depthAll (D.pyL ys)) (vw h x).py.depth < cLine := by
        have := D.dep_py _ d1
        omega
      have fin : EP X pins σ Q (.bool ((D.pyL ys).any fun z => PyData.eqv z (vw h x).py)) s := ⟨.bl _, H, I, rfl, by rw [inb_py]; exact put_bl hk p⟩
      rcases p2 with p2 | p2
      · obtain ⟨bs, q2⟩ := Dp.reads I _ _ u p2 ry
        exact SeqAt.in_list_reads q2 q1 l2 l1 hr fin
      · obtain ⟨bs, q2⟩ := Dp.reads I _ _ u p2 ry
        exact SeqAt.in_tuple_reads q2 q1 l2 l1 hr fin
    · exact p.elim
  · exact p.elim
theorem op_dNotIn (hu : X.A.units + 61 < cLine) : OpR X (compareOp .NotIn) (rD2 X.K X.mg W dNotIn) := by
  intro pins s σ H vx vy v u Q I rx ry ⟨Z, m, h, σ', x, y, hk, r1, r2, p⟩
  unfold dNotIn at p
  split at p
  · rename_i ys hs
    split at p
    · rename_i hz
      obtain ⟨d1, d2, d3⟩ := hz
      obtain ⟨p1, l1⟩ := hk.dp r1 d1
      obtain ⟨as, q1⟩ := Dp.reads I _ _ v p1 rx
      obtain ⟨l2, p2⟩ := seq_dp hk r2 hs d2
      have hr : X.A.units + 1 + min (PyData.depthAll (D.pyL ys)) (vw h x).py.depth < cLine := by
        have := D.dep_py _ d1
        omega
      have fin : EP X pins σ Q (.bool (!(D.pyL ys).any fun z => PyData.eqv z (vw h x).py)) s := ⟨.bl _, H, I, rfl, by rw [inb_py]; exact put_bl hk p⟩
      rcases p2 with p2 | p2
      · obtain ⟨bs, q2⟩ := Dp.reads I _ _ u p2 ry
        exact SeqAt.notIn_list_reads q2 q1 l2 l1 hr fin
      · obtain ⟨bs, q2⟩ := Dp.reads I _ _ u p2 ry
        exact SeqAt.notIn_tuple_reads q2 q1 l2 l1 hr fin
    · exact p.elim
  · exact p.elim

/-! ### subscripts -/
theorem repL_atI {K : PySem.W.Frag} {mg : Str → Option Value} {m : List Addr} {S : Hp} {ds : List D} {vs : List V} {k : Int} {d : D} (r : RepL K mg m S ds vs) (e : atI ds k = some d) : ∃ v, atI vs k = some v ∧ Rep K mg m S d v := by
  unfold atI at *
  rw [r.length]
  cases q : ixN ds.length k with
  | none => rw [q] at e; cases e
  | some j =>
    rw [q] at e
    exact r.get e
theorem ix_dIdx : IxR X (rD2 X.K X.mg W dIdx) := by
  intro value slice pins s σ H vx vy v u Q I rx ry ⟨Z, m, h, σ', x, y, hk, r1, r2, p⟩ hs
  unfold dIdx at p
  split at p
  · obtain rfl := rep_int r2
    split at p
    · obtain ⟨rfl, k1⟩ := rep_str r1
      split at p
      · rename_i c hc
        split at p
        · rename_i hz
          obtain ⟨j, g1, g2, g3, g4, g5⟩ := atI_get hc
          exact ix_str value slice pins s σ H _ _ v u Q I rx ry ⟨_, _, c, rfl, rfl, hz, hc, put_str hk (ok_one k1 (List.mem_of_getElem? g2)) p⟩ hs
        · exact p.elim
      · exact p.elim
    · split at p
      · rename_i xs hq
        split at p
        · rename_i d hd
          obtain ⟨a, vs, rfl, g1, g2⟩ := hk.rseq r1 hq
          obtain ⟨w, g3, g4⟩ := repL_atI g2 hd
          rcases g1 with g1 | g1
          · exact ix_list value slice pins s σ H _ _ v u Q I rx ry ⟨a, vs, _, w, rfl, rfl, g1, g3, put_old hk g4 p⟩ hs
          · exact ix_tup value slice pins s σ H _ _ v u Q I rx ry ⟨a, vs, _, w, rfl, rfl, g1, g3, put_old hk g4 p⟩ hs
        · exact p.elim
      · exact p.elim
  · exact p.elim
end
end FK

/-! part: FK4 -/
set_option Elab.async false
set_option linter.all false
set_option maxRecDepth 100000
set_option maxHeartbeats 4000000
/-! FK4: argument lists, displays, slices, truth, and or not, chains, attributes, calls of what is built in. -/
namespace FK
open PySem PySem.Spec L2

theorem pickA {X : Cx} {es : List Expr} {t : TA} (h : ∀ σ H Q, t σ H Q → ∃ t', PA X es t' ∧ t' σ H Q) : PA X es t := ⟨fun pos pins s σ H Q I q => by
  obtain ⟨t', p, q'⟩ := h σ H Q q
  exact p.run pos pins s σ H Q I q'⟩
theorem pickT {X : Cx} {e : Expr} {t : TT} (h : ∀ σ H Q, t σ H Q → ∃ t', PT X e t' ∧ t' σ H Q) : PT X e t := ⟨fun pins s σ H Q I q => by
  obtain ⟨t', p, q'⟩ := h σ H Q q
  exact p.run pins s σ H Q I q'⟩
theorem pickW {X : Cx} {e : Expr} {t : TT} (h : ∀ σ H Q, t σ H Q → ∃ t', PW X e t' ∧ t' σ H Q) : PW X e t := ⟨fun wh pins s σ H Q I q => by
  obtain ⟨t', p, q'⟩ := h σ H Q q
  exact p.run wh pins s σ H Q I q'⟩
theorem pickO {X : Cx} {e : Option Expr} {t : TO} (h : ∀ σ H Q, t σ H Q → ∃ t', PO X e t' ∧ t' σ H Q) : PO X e t := ⟨fun pins s σ H Q I q => by
  obtain ⟨t', p, q'⟩ := h σ H Q q
  exact p.run pins s σ H Q I q'⟩

/-! ### argument lists -/
def aNil : AD := fun _ => M.pure []
def aCons (f : ED) (fs : AD) : AD := fun ρ => M.bind (f ρ) fun d => M.bind (fs ρ) fun ds => M.pure (d :: ds)
section
variable {X : Cx} {W : WX} {e : Expr} {es : List Expr} {f g : ED} {fs : AD} {pos : Pos}
theorem sa_nil : PA X [] (tDL X.K X.mg W aNil) := pickA fun σ H Q ⟨Z, m, ρ, c, at', p⟩ => ⟨_, pa_nil, p [] m H Ext.refl at'.hk RepL.nil⟩
theorem sa_cons (ha : PE X e (tD X.K X.mg W f)) (hr : PA X es (tDL X.K X.mg W fs)) (hs : starEach (e :: es) X.env = (false, eval e X.env) :: starEach es X.env := by rfl) : PA X (e :: es) (tDL X.K X.mg W (aCons f fs)) :=
  pickA fun σ H Q ⟨Z, m, ρ, c, at', p⟩ => ⟨_, pa_cons ha hr hs, by
    refine ⟨Z, m, ρ, c, at', (PostG.bind p).imp fun v H1 ⟨d, m1, h1, ex, hk, rp, _, q⟩ => ?_⟩
    refine ⟨Z, m1, ρ, h1, ⟨hk, ex.env at'.en⟩, (PostG.bind q).imp fun u H2 ⟨ds, m2, h2, ex2, hk2, rp2, _, q2⟩ => ?_⟩
    exact q2 _ m2 H2 Ext.refl hk2 (RepL.cons (ex2.rep rp) rp2)⟩
/-- what is asked of the arguments' values -/
theorem denL {r : List V → Hp → VK → Prop} {op : List D → M D} {K : PySem.W.Frag} {mg : Str → Option Value} {σ : L2.St} {H : Hp} {Q : VK} (h : tD K mg W (fun ρ => M.bind (fs ρ) op) σ H Q) (hr : ∀ vs H Q, rDL K mg W op vs H Q → r vs H Q) :
    tDL K mg W fs σ H (fun vs H1 => r vs H1 Q) := by
  obtain ⟨Z, m, ρ, c, at', p⟩ := h
  exact ⟨Z, m, ρ, c, at', (PostG.bind p).imp fun v H' ⟨d, m', h', ex, hk, rp, _, q⟩ => hr _ _ _ ⟨Z, m', h', σ, d, hk, rp, q⟩⟩
end

/-! ### displays -/
def eTup (fs : AD) : ED := fun ρ => M.bind (fs ρ) fun ds h => if ds.length ≤ sizeLine then .ok (.tup ds) h else .bad
def eLst (fs : AD) : ED := fun ρ => M.bind (fs ρ) fun ds h => if ds.length ≤ sizeLine then .ok (.lst ds) h else .bad
/-- a list that will be changed: a new cell -/
def eNew (fs : AD) : ED := fun ρ => M.bind (fs ρ) fun ds h => if ds.length ≤ sizeLine then .ok (.ref h.length) (h ++ [.lst ds]) else .bad
section
variable {K : PySem.W.Frag} {mg : Str → Option Value} {Z m : List Addr} {H : Hp} {h : CH}
theorem mem_not_new (hk : HeapOk K mg Z m h H) {l : Addr} (hl : H l = none) : l ∉ m := fun z => hk.out hl (List.mem_append_right _ z)
/-- a new cell at l -/
theorem Ext.cell (hk : HeapOk K mg Z m h H) {l : Addr} {o : HO} (hl : H l = none) : Ext Z m H (m ++ [l]) (upd H l o) := by
  refine ⟨fun n a e => ?_, fun a u e => ?_, fun a ha => upd_ne fun z => ?_⟩
  · rw [List.getElem?_append_left (List.getElem?_eq_some_iff.mp e).1]; exact e
  · obtain ⟨h1, h2⟩ := hide_some e
    have ne := ne_of_none h2 hl
    refine hide_of (fun z => ?_) (by rw [upd_ne ne]; exact h2)
    rcases List.mem_append.mp z with z | z
    · exact h1 (List.mem_append_left _ z)
    · rcases List.mem_append.mp z with z | z
      · exact h1 (List.mem_append_right _ z)
      · exact ne (by simpa using z)
  · subst z
    exact hk.out hl (List.mem_append_left _ ha)
theorem HeapOk.new (hk : HeapOk K mg Z m h H) {l : Addr} {o : HO} (hl : H l = none) {c : Cell} (hc : CellR K mg (m ++ [l]) (hide (Z ++ (m ++ [l])) (upd H l o)) (upd H l o) l c) : HeapOk K mg Z (m ++ [l]) (h ++ [c]) (upd H l o) := by
  have ex := Ext.cell (o := o) hk hl
  have nm := mem_not_new hk hl
  refine ⟨by rw [List.length_append, List.length_append, hk.len]; rfl, ?_, fun a ha => ?_, fun a ha => ?_, fun n c' a h1 h2 => ?_⟩
  · rw [List.nodup_append]
    exact ⟨hk.nd, by simp, fun a ha b hb e => nm (by simp at hb; rw [← hb, ← e]; exact ha)⟩
  · rcases List.mem_append.mp ha with z | z
    · exact hk.dj a z
    · have e : a = l := by simpa using z
      subst e
      exact fun z' => hk.out hl (List.mem_append_left _ z')
  · rw [ex.zs a ha]; exact hk.ex a ha
  · by_cases hn : n < m.length
    · rw [List.getElem?_append_left hn] at h2
      rw [List.getElem?_append_left (by rw [← hk.len]; exact hn)] at h1
      have ne : a ≠ l := fun z => nm (by rw [← z]; exact List.mem_of_getElem? h2)
      exact CellR.mono ex.pre ex.st (upd_ne ne) (hk.cell n c' a h1 h2)
    · have e : n = m.length := by
        have := (List.getElem?_eq_some_iff.mp h2).1
        simp at this
        omega
      subst e
      simp at h2
      rw [hk.len] at h1
      simp at h1
      subst h1 h2
      exact hc
end
section
variable {X : Cx} {W : WX} {es : List Expr} {fs : AD} {pos : Pos}
theorem se_tup {k} (ha : PA X es (tDL X.K X.mg W fs)) : PE X (.Tuple es k pos) (tD X.K X.mg W (eTup fs)) :=
  pick fun σ H Q h => ⟨_, pe_tup ha, denL (r := fun vs H1 Q => vs.length ≤ sizeLine ∧ ∀ p, H1 p = none → Q (.ref p) (upd H1 p (.tup vs))) h fun vs H Q ⟨Z, m, c, σ, ds, hk, r, p⟩ => by
    dsimp only at p
    split at p
    · rename_i hz
      exact ⟨by rw [r.length]; exact hz, put_tup hk r p⟩
    · exact p.elim⟩
theorem se_lst (ha : PA X es (tDL X.K X.mg W fs)) : PE X (.List es pos) (tD X.K X.mg W (eLst fs)) :=
  pick fun σ H Q h => ⟨_, pe_lst ha, denL (r := fun vs H1 Q => vs.length ≤ sizeLine ∧ ∀ p, H1 p = none → Q (.ref p) (upd H1 p (.lst vs))) h fun vs H Q ⟨Z, m, c, σ, ds, hk, r, p⟩ => by
    dsimp only at p
    split at p
    · rename_i hz
      exact ⟨by rw [r.length]; exact hz, put_lst hk r p⟩
    · exact p.elim⟩
theorem put_cell {K : PySem.W.Frag} {mg : Str → Option Value} {Z m : List Addr} {H : Hp} {h : CH} {σ : L2.St} {Q : VK} (hk : HeapOk K mg Z m h H) {ds : List D} {vs : List V} (r : RepL K mg m (hide (Z ++ m) H) ds vs)
    (p : Post K mg W σ Z m H (.ok (.ref h.length) (h ++ [.lst ds])) Q) : ∀ l, H l = none → Q (.ref l) (upd H l (.lst vs)) := fun l hl => by
  have ex := Ext.cell (o := .lst vs) hk hl
  refine p _ (m ++ [l]) _ ex (hk.new hl ⟨vs, upd_same, ex.repL r⟩) ?_
  unfold Rep
  exact ⟨l, by rw [← hk.len]; simp, rfl⟩
theorem se_new (ha : PA X es (tDL X.K X.mg W fs)) : PE X (.List es pos) (tD X.K X.mg W (eNew fs)) :=
  pick fun σ H Q h => ⟨_, pe_lst ha, denL (r := fun vs H1 Q => vs.length ≤ sizeLine ∧ ∀ p, H1 p = none → Q (.ref p) (upd H1 p (.lst vs))) h fun vs H Q ⟨Z, m, c, σ, ds, hk, r, p⟩ => by
    dsimp only at p
    split at p
    · rename_i hz
      exact ⟨by rw [r.length]; exact hz, put_cell hk r p⟩
    · exact p.elim⟩
end

/-! ### slices -/
abbrev OD := Env → M (Option Int)
def oNone : OD := fun _ => M.pure none
def oSome (f : ED) : OD := fun ρ => M.bind (f ρ) fun d h => match d with
  | .int i => .ok (some i) h
  | _ => .bad
def tDO (K : PySem.W.Frag) (mg : Str → Option Value) (W : WX) (f : OD) : TO := fun σ H Q => ∃ Z m ρ h, At K mg Z m ρ h σ H ∧ PostG K mg (fun _ _ (a b : Option Int) => b = a) W σ Z m H (f ρ h) Q
def cut {α : Type} (xs : List α) (lo hi : Option Int) : List α := (xs.drop (HT.sIx xs.length 0 lo)).take (HT.sIx xs.length xs.length hi - HT.sIx xs.length 0 lo)
def dSl (x : D) (lo hi : Option Int) : M D := fun h =>
  match x with
  | .str a => if a.length ≤ sizeLine then .ok (.str (cutS a lo hi)) h else .bad
  | .tup xs => .ok (.tup (cut xs lo hi)) h
  | x => match vw h x with
    | .lst xs => .ok (.lst (cut xs lo hi)) h
    | .scr xs => .ok (.lst (cut xs lo hi)) h
    | _ => .bad
def eSl (f : ED) (lo hi : OD) : ED := fun ρ => M.bind (f ρ) fun x => M.bind (lo ρ) fun l => M.bind (hi ρ) fun u => dSl x l u
theorem RepL.cut {K : PySem.W.Frag} {mg : Str → Option Value} {m : List Addr} {S : Hp} {ds : List D} {vs : List V} (r : RepL K mg m S ds vs) (lo hi : Option Int) : RepL K mg m S (FK.cut ds lo hi) (cutV vs lo hi) := by
  unfold FK.cut cutV
  rw [r.length]
  exact (r.drop _).take _
theorem ok_cut {a : Str} (ha : PyData.strOk a = true) (lo hi : Option Int) : PyData.strOk (cutS a lo hi) = true := by
  rw [ok_iff] at *
  intro c hc
  unfold cutS at hc
  exact ha c (List.mem_of_mem_drop (List.mem_of_mem_take (by simpa using hc)))
section
variable {X : Cx} {W : WX} {e : Expr} {f : ED} {lo hi : Option Expr} {l u : OD} {pos p2 : Pos}
theorem so_none : PO X none (tDO X.K X.mg W oNone) := pickO fun σ H Q ⟨Z, m, ρ, c, at', p⟩ => ⟨_, po_none, p none m H Ext.refl at'.hk rfl⟩
theorem so_some (he : PE X e (tD X.K X.mg W f)) : PO X (some e) (tDO X.K X.mg W (oSome f)) := pickO fun σ H Q ⟨Z, m, ρ, c, at', p⟩ => ⟨_, po_some he, by
  refine ⟨Z, m, ρ, c, at', (PostG.bind p).imp fun v H' ⟨d, m', h', ex, hk, rp, _, q⟩ => ?_⟩
  cases d with
  | int i => exact ⟨i, rep_int rp, q _ m' H' Ext.refl hk rfl⟩
  | _ => exact q.elim⟩
theorem se_sl (he : PE X e (tD X.K X.mg W f)) (hl : PO X lo (tDO X.K X.mg W l)) (hu : PO X hi (tDO X.K X.mg W u)) : PE X (.Subscript e (.Slice lo hi none p2) pos) (tD X.K X.mg W (eSl f l u)) :=
  pick fun σ H Q h => ⟨_, pe_slice ((sl_list (X := X)).or ((sl_tupA (X := X)).or (sl_str (X := X)))) he hl hu, by
    obtain ⟨Z, m, ρ, c, at', p⟩ := h
    refine ⟨Z, m, ρ, c, at', (PostG.bind p).imp fun v H1 ⟨x, m1, h1, ex1, hk1, r1, _, q1⟩ => ?_⟩
    refine ⟨Z, m1, ρ, h1, ⟨hk1, ex1.env at'.en⟩, (PostG.bind q1).imp fun lv H2 ⟨lo', m2, h2, ex2, hk2, r2, _, q2⟩ => ?_⟩
    refine ⟨Z, m2, ρ, h2, ⟨hk2, ex2.env (ex1.env at'.en)⟩, (PostG.bind q2).imp fun uv H3 ⟨hi', m3, h3, ex3, hk3, r3, _, q3⟩ => ?_⟩
    subst r2 r3
    have rx := ex3.rep (ex2.rep r1)
    unfold dSl at q3
    split at q3
    · obtain ⟨rfl, k⟩ := rep_str rx
      split at q3
      · rename_i hz
        exact .inr (.inr ⟨_, rfl, hz, put_str hk3 (ok_cut k _ _) q3⟩)
      · exact q3.elim
    · obtain ⟨a, vs, rfl, g1, g2⟩ := rep_tup rx
      refine .inr (.inl ⟨a, vs, rfl, hide_sub.sqt g1, fun hw => ?_, fun _ => put_tup hk3 (g2.cut lv uv) q3⟩)
      have e : ∀ {xs : List D}, RepL X.K X.mg m3 (hide (Z ++ m3) H3) xs vs → cut xs lv uv = xs := fun {xs} g => by
        unfold cut
        rw [← g.length, hw.1, hw.2, g.length]
        simp
      rw [e g2] at q3
      exact put_old hk3 rx q3
    · split at q3
      · rename_i hv
        obtain ⟨a, vs, rfl, g1, g2⟩ := hk3.rlst rx hv
        exact .inl ⟨a, vs, rfl, SqL.of g1, put_lst hk3 (g2.cut lv uv) q3⟩
      · rename_i hv
        obtain ⟨a, vs, rfl, g1, g2⟩ := HeapOk.rscr rx hv
        exact .inl ⟨a, vs, rfl, g1, put_lst hk3 (g2.cut lv uv) q3⟩
      · exact q3.elim⟩
end

/-! ### truth -/
def truth (d : D) (h : CH) : R Bool :=
  match d with
  | .non => .ok false h
  | .bl b => .ok b h
  | .int i => .ok (i != 0) h
  | .str x => if x.length ≤ sizeLine then .ok ((x.length : Int) != 0) h else .bad
  | d => match seq h d with
    | some xs => .ok (!xs.isEmpty) h
    | none => .bad
theorem truth_heap {d : D} {h h' : CH} {b : Bool} (e : truth d h = .ok b h') : h' = h := by
  unfold truth at e
  split at e
  · cases e; rfl
  · cases e; rfl
  · cases e; rfl
  · split at e <;> cases e; rfl
  · split at e <;> cases e; rfl
theorem truth_exc {d : D} {h h' : CH} {c : Str} : truth d h ≠ .exc c h' := fun e => by
  unfold truth at e
  split at e
  · cases e
  · cases e
  · cases e
  · split at e <;> cases e
  · split at e <;> cases e
theorem isEmpty_repL {K : PySem.W.Frag} {mg : Str → Option Value} {m : List Addr} {S : Hp} {ds : List D} {vs : List V} (r : RepL K mg m S ds vs) : (!vs.isEmpty) = !ds.isEmpty := by
  cases ds with
  | nil => rw [r.of_nil]; rfl
  | cons d ds => obtain ⟨v, t, rfl, _⟩ := r.of_cons; rfl
theorem truth_v {K : PySem.W.Frag} {mg : Str → Option Value} {Z m : List Addr} {H : Hp} {h h' : CH} (hk : HeapOk K mg Z m h H) {d : D} {v : V} (r : Rep K mg m (hide (Z ++ m) H) d v) {b : Bool} (e : truth d h = .ok b h') : TruV K v H b := by
  unfold truth at e
  split at e
  · cases e; rw [rep_non r]; rfl
  · cases e; rw [rep_bl r]; rfl
  · cases e; rw [rep_int r]; rfl
  · split at e
    · rename_i hz
      cases e; rw [(rep_str r).1]; exact ⟨hz, rfl⟩
    · cases e
  · split at e
    · rename_i xs hs
      cases e
      obtain ⟨a, vs, rfl, g1, g2⟩ := hk.rseq r hs
      rw [← isEmpty_repL g2]
      rcases g1 with g1 | g1
      · exact .inl ⟨vs, g1, rfl⟩
      · exact .inr (.inl ⟨vs, g1, rfl⟩)
    · cases e
def bT (f : ED) : BD := fun ρ => M.bind (f ρ) truth
def bNot (b : BD) : BD := fun ρ => M.bind (b ρ) fun k => M.pure (!k)
def bAnd (a b : BD) : BD := fun ρ => M.bind (a ρ) fun k => if k = true then b ρ else M.pure false
def bOr (a b : BD) : BD := fun ρ => M.bind (a ρ) fun k => if k = true then M.pure true else b ρ
def eAnd (f g : ED) : ED := fun ρ => M.bind (f ρ) fun d => M.bind (truth d) fun k => if k = true then g ρ else M.pure d
def eOr (f g : ED) : ED := fun ρ => M.bind (f ρ) fun d => M.bind (truth d) fun k => if k = true then M.pure d else g ρ
def eNot (f : ED) : ED := fun ρ => M.bind (f ρ) fun d => M.bind (truth d) fun k => M.pure (.bl (!k))
def eIf (b : BD) (f g : ED) : ED := fun ρ => M.bind (b ρ) fun k => if k = true then f ρ else g ρ
section
variable {X : Cx} {W : WX} {e a b c : Expr} {f g k : ED} {ba bb : BD} {pos : Pos} {rest : List Expr}
theorem truth_post {K : PySem.W.Frag} {mg : Str → Option Value} {Z m : List Addr} {H : Hp} {h : CH} {σ : L2.St} {Q : VK} {F : Bool → M D} (hk : HeapOk K mg Z m h H) {d : D} {v : V} (r : Rep K mg m (hide (Z ++ m) H) d v) (p : Post K mg W σ Z m H (M.bind (truth d) F h) Q) :
    ∃ b, TruV K v H b ∧ Post K mg W σ Z m H (F b h) Q := by
  unfold M.bind at p
  cases e : truth d h with
  | ok b h' =>
    rw [e] at p
    have e' := truth_heap e
    subst e'
    exact ⟨b, truth_v hk r e, p⟩
  | exc c h' => exact absurd e truth_exc
  | bad => rw [e] at p; exact p.elim
theorem st_truth (he : PE X e (tD X.K X.mg W f)) (hp : ∀ whole, isTrue e X.env whole = (do let v ← whole; standAt e.pos; holding [v] (truthy v)) := by exact fun _ => rfl) : PT X e (tDB X.K X.mg W (bT f)) :=
  pickT fun σ H Q ⟨Z, m, ρ, c, at', p⟩ => ⟨_, pt_truth he hp, by
    refine ⟨Z, m, ρ, c, at', (PostG.bind p).imp fun v H' ⟨d, m', h', ex, hk, rp, _, q⟩ => ?_⟩
    cases e2 : truth d h' with
    | ok b h2 =>
      rw [e2] at q
      have e3 := truth_heap e2
      subst e3
      exact ⟨b, truth_v hk rp e2, q _ m' H' Ext.refl hk rfl⟩
    | exc c h2 => exact absurd e2 truth_exc
    | bad => rw [e2] at q; exact q.elim⟩
/-- an operator that gives a bool -/
def Boolish (o : D → D → M D) : Prop := ∀ x y h d h', o x y h = .ok d h' → ∃ k, d = .bl k ∧ h' = h
theorem st_cmp {op : CmpOp} {o : D → D → M D} (hB : Boolish o) (ho : OpR X (compareOp op) (rD2 X.K X.mg W o)) (ha : PE X a (tD X.K X.mg W f)) (hb : PE X b (tD X.K X.mg W g)) (hm : behindInMarks op b = false) : PT X (.Compare a [op] [b] pos) (tDB X.K X.mg W (bT (e2 o f g))) :=
  pickT fun σ H Q ⟨Z, m, ρ, c, at', p⟩ => ⟨_, pt_cmpR ho ha hb hm, by
    have p' : PostB X.K X.mg W σ Z m H (M.bind (f ρ) (fun x => M.bind (g ρ) fun y => M.bind (o x y) truth) c) Q := by
      have e : M.bind (f ρ) (fun x => M.bind (g ρ) fun y => M.bind (o x y) truth) c = bT (e2 o f g) ρ c := by
        unfold bT e2 M.bind
        cases f ρ c with
        | ok x h1 => dsimp only; cases g ρ h1 <;> rfl
        | exc _ _ => rfl
        | bad => rfl
      rw [e]; exact p
    refine ⟨Z, m, ρ, c, at', (PostG.bind p').imp fun v H1 ⟨x, m1, h1, ex1, hk1, r1, _, q1⟩ => ?_⟩
    refine ⟨Z, m1, ρ, h1, ⟨hk1, ex1.env at'.en⟩, (PostG.bind q1).imp fun u H2 ⟨y, m2, h2, ex2, hk2, r2, _, q2⟩ => ?_⟩
    refine ⟨Z, m2, h2, σ, x, y, hk2, ex2.rep r1, r2, ?_⟩
    unfold M.bind at q2
    cases e : o x y h2 with
    | ok d h3 =>
      obtain ⟨kk, rfl, rfl⟩ := hB x y h2 d h3 e
      rw [e] at q2
      exact fun v' m' H' ex hk r => ⟨kk, rep_bl r, q2 kk m' H' ex hk rfl⟩
    | exc cc h3 => rw [e] at q2; exact q2
    | bad => rw [e] at q2; exact q2⟩
theorem st_not (ha : PT X a (tDB X.K X.mg W ba)) : PT X (.UnaryOp .Not a pos) (tDB X.K X.mg W (bNot ba)) :=
  pickT fun σ H Q ⟨Z, m, ρ, c, at', p⟩ => ⟨_, pt_not ha, ⟨Z, m, ρ, c, at', (PostG.bind p).imp fun v H' ⟨d, m', h', ex, hk, rp, _, q⟩ => by
    subst rp
    exact q _ m' H' Ext.refl hk rfl⟩⟩
theorem sw_and1 (ha : PT X a (tDB X.K X.mg W ba)) : PW X (.BoolOp .And [a] pos) (tDB X.K X.mg W ba) := pw_and1 ha
theorem sw_or1 (ha : PT X a (tDB X.K X.mg W ba)) : PW X (.BoolOp .Or [a] pos) (tDB X.K X.mg W ba) := pw_or1 ha
theorem sw_and (ha : PT X a (tDB X.K X.mg W ba)) (hb : PW X (.BoolOp .And (b :: rest) pos) (tDB X.K X.mg W bb)) : PW X (.BoolOp .And (a :: b :: rest) pos) (tDB X.K X.mg W (bAnd ba bb)) :=
  pickW fun σ H Q ⟨Z, m, ρ, c, at', p⟩ => ⟨_, pw_and ha hb, ⟨Z, m, ρ, c, at', (PostG.bind p).imp fun v H' ⟨d, m', h', ex, hk, rp, _, q⟩ => by
    subst rp
    cases v with
    | true => exact ⟨Z, m', ρ, h', ⟨hk, ex.env at'.en⟩, q⟩
    | false => exact q _ m' H' Ext.refl hk rfl⟩⟩
theorem sw_or (ha : PT X a (tDB X.K X.mg W ba)) (hb : PW X (.BoolOp .Or (b :: rest) pos) (tDB X.K X.mg W bb)) : PW X (.BoolOp .Or (a :: b :: rest) pos) (tDB X.K X.mg W (bOr ba bb)) :=
  pickW fun σ H Q ⟨Z, m, ρ, c, at', p⟩ => ⟨_, pw_or ha hb, ⟨Z, m, ρ, c, at', (PostG.bind p).imp fun v H' ⟨d, m', h', ex, hk, rp, _, q⟩ => by
    subst rp
    cases v with
    | false => exact ⟨Z, m', ρ, h', ⟨hk, ex.env at'.en⟩, q⟩
    | true => exact q _ m' H' Ext.refl hk rfl⟩⟩
theorem se_one {op} (h : PE X a (tD X.K X.mg W f)) : PE X (.BoolOp op [a] pos) (tD X.K X.mg W f) := pe_one h
theorem se_and (ha : PE X a (tD X.K X.mg W f)) (hb : PE X (.BoolOp .And (b :: rest) pos) (tD X.K X.mg W g)) : PE X (.BoolOp .And (a :: b :: rest) pos) (tD X.K X.mg W (eAnd f g)) :=
  pick fun σ H Q ⟨Z, m, ρ, c, at', p⟩ => ⟨_, pe_andT ha hb, ⟨Z, m, ρ, c, at', (PostG.bind p).imp fun v H' ⟨d, m', h', ex, hk, rp, _, q⟩ => by
    obtain ⟨kk, t, q'⟩ := truth_post hk rp q
    refine ⟨kk, t, ?_⟩
    cases kk with
    | true => exact ⟨Z, m', ρ, h', ⟨hk, ex.env at'.en⟩, q'⟩
    | false => exact put_old hk rp q'⟩⟩
theorem se_or (ha : PE X a (tD X.K X.mg W f)) (hb : PE X (.BoolOp .Or (b :: rest) pos) (tD X.K X.mg W g)) : PE X (.BoolOp .Or (a :: b :: rest) pos) (tD X.K X.mg W (eOr f g)) :=
  pick fun σ H Q ⟨Z, m, ρ, c, at', p⟩ => ⟨_, pe_orT ha hb, ⟨Z, m, ρ, c, at', (PostG.bind p).imp fun v H' ⟨d, m', h', ex, hk, rp, _, q⟩ => by
    obtain ⟨kk, t, q'⟩ := truth_post hk rp q
    refine ⟨kk, t, ?_⟩
    cases kk with
    | true => exact put_old hk rp q'
    | false => exact ⟨Z, m', ρ, h', ⟨hk, ex.env at'.en⟩, q'⟩⟩⟩
theorem se_not (ha : PE X a (tD X.K X.mg W f)) : PE X (.UnaryOp .Not a pos) (tD X.K X.mg W (eNot f)) :=
  pick fun σ H Q ⟨Z, m, ρ, c, at', p⟩ => ⟨_, pe_notT ha, ⟨Z, m, ρ, c, at', (PostG.bind p).imp fun v H' ⟨d, m', h', ex, hk, rp, _, q⟩ => by
    obtain ⟨kk, t, q'⟩ := truth_post hk rp q
    exact ⟨kk, t, put_bl hk q'⟩⟩⟩
theorem se_if (hc : PT X c (tDB X.K X.mg W ba)) (ha : PE X a (tD X.K X.mg W f)) (hb : PE X b (tD X.K X.mg W g)) : PE X (.IfExp c a b pos) (tD X.K X.mg W (eIf ba f g)) :=
  pick fun σ H Q ⟨Z, m, ρ, c, at', p⟩ => ⟨_, pe_ifExp hc ha hb, ⟨Z, m, ρ, c, at', (PostG.bind p).imp fun v H' ⟨d, m', h', ex, hk, rp, _, q⟩ => by
    subst rp
    cases v with
    | true => exact ⟨Z, m', ρ, h', ⟨hk, ex.env at'.en⟩, q⟩
    | false => exact ⟨Z, m', ρ, h', ⟨hk, ex.env at'.en⟩, q⟩⟩⟩
/-- a op b op' c -/
def eCh (o o' : D → D → M D) (f g k : ED) : ED := fun ρ => M.bind (f ρ) fun x => M.bind (g ρ) fun y => M.bind (o x y) fun z h => match z with
  | .bl true => M.bind (k ρ) (fun w => o' y w) h
  | .bl false => .ok (.bl false) h
  | _ => .bad
theorem chain_den {r r' : R2} {o o' : D → D → M D} {K : PySem.W.Frag} {mg : Str → Option Value} {σ : L2.St} {H : Hp} {Q : VK} (h : tD K mg W (eCh o o' f g k) σ H Q) : tChain (rD2 K mg W o) (rD2 K mg W o') (tD K mg W f) (tD K mg W g) (tD K mg W k) σ H Q := by
  obtain ⟨Z, m, ρ, c, at', p⟩ := h
  refine ⟨Z, m, ρ, c, at', (PostG.bind p).imp fun v H1 ⟨x, m1, h1, ex1, hk1, r1, _, q1⟩ => ?_⟩
  refine ⟨Z, m1, ρ, h1, ⟨hk1, ex1.env at'.en⟩, (PostG.bind q1).imp fun u H2 ⟨y, m2, h2, ex2, hk2, r2, _, q2⟩ => ?_⟩
  refine ⟨Z, m2, h2, σ, x, y, hk2, ex2.rep r1, r2, (PostG.bind q2).imp fun w H3 ⟨z, m3, h3, ex3, hk3, r3, _, q3⟩ => ?_⟩
  split at q3
  · refine ⟨true, rep_bl r3, ?_⟩
    rw [if_pos rfl]
    refine ⟨Z, m3, ρ, h3, ⟨hk3, ex3.env (ex2.env (ex1.env at'.en))⟩, (PostG.bind q3).imp fun w4 H4 ⟨d4, m4, h4, ex4, hk4, r4, _, q4⟩ => ?_⟩
    exact ⟨Z, m4, h4, σ, y, d4, hk4, ex4.rep (ex3.rep r2), r4, q4⟩
  · refine ⟨false, rep_bl r3, ?_⟩
    rw [if_neg Bool.false_ne_true]
    exact put_bl hk3 q3
  · exact q3.elim
theorem se_chain {op op' : CmpOp} {o o' : D → D → M D} (ho : OpR X (compareOp op) (rD2 X.K X.mg W o)) (ho' : OpR X (compareOp op') (rD2 X.K X.mg W o')) (ha : PE X a (tD X.K X.mg W f)) (hb : PE X b (tD X.K X.mg W g)) (hc : PE X c (tD X.K X.mg W k))
    (hm : lastMarks [op, op'] [b, c] = false := by with_unfolding_all rfl) : PE X (.Compare a [op, op'] [b, c] pos) (tD X.K X.mg W (eCh o o' f g k)) :=
  pick fun σ H Q h => ⟨_, pe_chain ho ho' ha hb hc hm, chain_den (r := rD2 X.K X.mg W o) (r' := rD2 X.K X.mg W o') h⟩
theorem st_chain {op op' : CmpOp} {o o' : D → D → M D} (hB' : Boolish o') (ho : OpR X (compareOp op) (rD2 X.K X.mg W o)) (ho' : OpR X (compareOp op') (rD2 X.K X.mg W o')) (ha : PE X a (tD X.K X.mg W f)) (hb : PE X b (tD X.K X.mg W g)) (hc : PE X c (tD X.K X.mg W k))
    (hm : lastMarks [op, op'] [b, c] = false := by with_unfolding_all rfl) : PT X (.Compare a [op, op'] [b, c] pos) (tDB X.K X.mg W (bT (eCh o o' f g k))) :=
  pickT fun σ H Q ⟨Z, m, ρ, c, at', p⟩ => ⟨_, pt_chain ho ho' ha hb hc hm, by
    refine chain_den (r := rD2 X.K X.mg W o) (r' := rD2 X.K X.mg W o') ⟨Z, m, ρ, c, at', ?_⟩
    have fin : ∀ d h', eCh o o' f g k ρ c = .ok d h' → ∃ kk, d = .bl kk := by
      intro d h' e
      unfold eCh M.bind at e
      cases e1 : f ρ c with
      | exc _ _ => rw [e1] at e; cases e
      | bad => rw [e1] at e; cases e
      | ok x h1 =>
        rw [e1] at e
        dsimp only at e
        cases e2 : g ρ h1 with
        | exc _ _ => rw [e2] at e; cases e
        | bad => rw [e2] at e; cases e
        | ok y h2 =>
          rw [e2] at e
          dsimp only at e
          cases e3 : o x y h2 with
          | exc _ _ => rw [e3] at e; cases e
          | bad => rw [e3] at e; cases e
          | ok z h3 =>
            rw [e3] at e
            dsimp only at e
            split at e
            · cases e4 : k ρ h3 with
              | exc _ _ => rw [e4] at e; cases e
              | bad => rw [e4] at e; cases e
              | ok w h4 =>
                rw [e4] at e
                obtain ⟨kk, q, _⟩ := hB' y w h4 d h' e
                exact ⟨kk, q⟩
            · cases e; exact ⟨_, rfl⟩
            · cases e
    have p' : PostB X.K X.mg W σ Z m H (M.bind (fun h => eCh o o' f g k ρ h) truth c) Q := p
    unfold M.bind at p'
    dsimp only at p'
    cases e : eCh o o' f g k ρ c with
    | ok d h' =>
      obtain ⟨kk, rfl⟩ := fin d h' e
      rw [e] at p'
      exact fun v' m' H' ex hk r => ⟨kk, rep_bl r, p' kk m' H' ex hk rfl⟩
    | exc _ _ => rw [e] at p'; exact p'
    | bad => rw [e] at p'; exact p'⟩
end
theorem bo_eq : Boolish dEq := fun x y h d h' e => by unfold dEq at e; split at e <;> cases e; exact ⟨_, rfl, rfl⟩
theorem bo_ne : Boolish dNe := fun x y h d h' e => by unfold dNe at e; split at e <;> cases e; exact ⟨_, rfl, rfl⟩
theorem bo_is : Boolish dIs := fun x y h d h' e => by unfold dIs at e; split at e <;> cases e; exact ⟨_, rfl, rfl⟩
theorem bo_isnt : Boolish dIsnt := fun x y h d h' e => by unfold dIsnt at e; split at e <;> cases e; exact ⟨_, rfl, rfl⟩
theorem bo_le : Boolish dLe := fun x y h d h' e => by unfold dLe at e; split at e <;> cases e; exact ⟨_, rfl, rfl⟩
theorem bo_gt : Boolish dGt := fun x y h d h' e => by unfold dGt at e; split at e <;> cases e; exact ⟨_, rfl, rfl⟩
theorem bo_ge : Boolish dGe := fun x y h d h' e => by unfold dGe at e; split at e <;> cases e; exact ⟨_, rfl, rfl⟩
theorem bo_lt : Boolish dLt := fun x y h d h' e => by
  unfold dLt at e
  split at e
  · cases e; exact ⟨_, rfl, rfl⟩
  · cases e; exact ⟨_, rfl, rfl⟩
  · split at e <;> cases e; exact ⟨_, rfl, rfl⟩
  · cases e
theorem bo_in : Boolish dIn := fun x y h d h' e => by
  unfold dIn at e
  split at e
  · split at e <;> cases e; exact ⟨_, rfl, rfl⟩
  · cases e
theorem bo_notIn : Boolish dNotIn := fun x y h d h' e => by
  unfold dNotIn at e
  split at e
  · split at e <;> cases e; exact ⟨_, rfl, rfl⟩
  · cases e

/-! ### calls of what is built in -/
def eCall (op : List D → M D) (fs : AD) : ED := fun ρ => M.bind (fs ρ) op
def eMeth (op : D → List D → M D) (f : ED) (fs : AD) : ED := fun ρ => M.bind (f ρ) fun x => M.bind (fs ρ) fun ds => op x ds
section
variable {X : Cx} {W : WX} {x : Str} {p pos apos : Pos} {e o : Expr} {es : List Expr} {f : ED} {fs : AD} {id T : String} {op : List D → M D}
theorem se_callB (hc : CallR X (.builtin id) (rDL X.K X.mg W op)) (hg : Gl X x) (hm : X.mg x = none) (hv : bootBuiltins x = some (.builtin id)) (ha : PA X (e :: es) (tDL X.K X.mg W fs)) (hn : x ≠ "__name__" := by decide) (hdb : (x == ("__debug__" : Str)) = false := by decide)
    (he : starEach (e :: es) X.env = (false, eval e X.env) :: starEach es X.env := by rfl) (hpl : (backTo pos (starEach es X.env)).any (·.1) = false := by rfl) : PE X (.Call (.Name x p) (e :: es) [] pos) (tD X.K X.mg W (eCall op fs)) :=
  pick fun σ H Q h => ⟨_, pe_callB hc hg hm hv ha hn hdb he hpl, denL h fun _ _ _ q => q⟩
theorem se_callTy (hc : CallR X (.type T) (rDL X.K X.mg W op)) (hg : Gl X x) (hm : X.mg x = none) (hv : bootBuiltins x = some (.type T)) (ha : PA X (e :: es) (tDL X.K X.mg W fs)) (hn : x ≠ "__name__" := by decide) (hdb : (x == ("__debug__" : Str)) = false := by decide)
    (he : starEach (e :: es) X.env = (false, eval e X.env) :: starEach es X.env := by rfl) (hpl : (backTo pos (starEach es X.env)).any (·.1) = false := by rfl) : PE X (.Call (.Name x p) (e :: es) [] pos) (tD X.K X.mg W (eCall op fs)) :=
  pick fun σ H Q h => ⟨_, pe_callTy hc hg hm hv ha hn hdb he hpl, denL h fun _ _ _ q => q⟩
end
def dLen (ds : List D) : M D := fun h =>
  match ds with
  | [.str x] => if x.length ≤ sizeLine then .ok (.int x.length) h else .bad
  | [d] => match seq h d with
    | some xs => .ok (.int xs.length) h
    | none => .bad
  | _ => .bad
def dInt (ds : List D) : M D := fun h =>
  match ds with
  | [.int i] => .ok (.int i) h
  | [.bl b] => .ok (.int (if b then 1 else 0)) h
  | _ => .bad
def dStr (ds : List D) : M D := fun h =>
  match ds with
  | [.int i] => if i.natAbs.log2 < 1920 then .ok (.str (toString i)) h else .bad
  | _ => .bad
def dOrd (ds : List D) : M D := fun h =>
  match ds with
  | [.str x] => if x.length = 1 then .ok (.int (x.cps.getD 0 0 : Nat)) h else .bad
  | _ => .bad
def dMax2 (ds : List D) : M D := fun h =>
  match ds with
  | [.int i, .int j] => .ok (.int (if j > i then j else i)) h
  | _ => .bad
def dMin2 (ds : List D) : M D := fun h =>
  match ds with
  | [.int i, .int j] => .ok (.int (if j < i then j else i)) h
  | _ => .bad
def dTuple (ds : List D) : M D := fun h =>
  match ds with
  | [d] => match seq h d with
    | some xs => .ok (.tup xs) h
    | none => .bad
  | _ => .bad
/-- list(..): a list that stands still -/
def dList (ds : List D) : M D := fun h =>
  match ds with
  | [d] => match seq h d with
    | some xs => .ok (.lst xs) h
    | none => .bad
  | _ => .bad
/-- list(..): a cell -/
def dListC (ds : List D) : M D := fun h =>
  match ds with
  | [d] => match seq h d with
    | some xs => .ok (.ref h.length) (h ++ [.lst xs])
    | none => .bad
  | _ => .bad
theorem ok_small {x : Str} (h : ∀ c ∈ x.cps.toList, c < 128) : PyData.strOk x = true := by
  rw [ok_iff]
  intro c hc
  have := h c hc
  omega
section
variable {X : Cx} {W : WX}
theorem repL_one {K : PySem.W.Frag} {mg : Str → Option Value} {m : List Addr} {S : Hp} {d : D} {vs : List V} (r : RepL K mg m S [d] vs) : ∃ v, vs = [v] ∧ Rep K mg m S d v := by
  obtain ⟨v, t, rfl, a, b⟩ := r.of_cons
  rw [b.of_nil]
  exact ⟨v, rfl, a⟩
theorem repL_two {K : PySem.W.Frag} {mg : Str → Option Value} {m : List Addr} {S : Hp} {d e : D} {vs : List V} (r : RepL K mg m S [d, e] vs) : ∃ v u, vs = [v, u] ∧ Rep K mg m S d v ∧ Rep K mg m S e u := by
  obtain ⟨v, t, rfl, a, b⟩ := r.of_cons
  obtain ⟨u, rfl, c⟩ := repL_one b
  exact ⟨v, u, rfl, a, c⟩
theorem call_dLen : CallR X (.builtin "len") (rDL X.K X.mg W dLen) := by
  intro pins s σ H vs us Q I r ⟨Z, m, h, σ', ds, hk, rp, p⟩
  unfold dLen at p
  split at p
  · obtain ⟨v, rfl, g⟩ := repL_one rp
    obtain ⟨rfl, _⟩ := rep_str g
    split at p
    · rename_i hz
      exact call_len pins s σ H _ us Q I r ⟨_, _, rfl, ⟨hz, rfl⟩, put_int hk p⟩
    · exact p.elim
  · obtain ⟨v, rfl, g⟩ := repL_one rp
    split at p
    · rename_i xs hs
      obtain ⟨a, vs, rfl, g1, g2⟩ := hk.rseq g hs
      rw [← g2.length] at p
      refine call_len pins s σ H _ us Q I r ⟨_, _, rfl, ?_, put_int hk p⟩
      rcases g1 with g1 | g1
      · exact .inl ⟨vs, g1, rfl⟩
      · exact .inr ⟨vs, g1, rfl⟩
    · exact p.elim
  · exact p.elim
theorem call_dInt : CallR X (.type "int") (rDL X.K X.mg W dInt) := by
  intro pins s σ H vs us Q I r ⟨Z, m, h, σ', ds, hk, rp, p⟩
  unfold dInt at p
  split at p
  · obtain ⟨v, rfl, g⟩ := repL_one rp
    obtain rfl := rep_int g
    exact call_int1 pins s σ H _ us Q I r (.inl ⟨_, rfl, put_int hk p⟩)
  · obtain ⟨v, rfl, g⟩ := repL_one rp
    obtain rfl := rep_bl g
    exact call_int1 pins s σ H _ us Q I r (.inr ⟨_, rfl, put_int hk p⟩)
  · exact p.elim
theorem call_dOrd : CallR X (.builtin "ord") (rDL X.K X.mg W dOrd) := by
  intro pins s σ H vs us Q I r ⟨Z, m, h, σ', ds, hk, rp, p⟩
  unfold dOrd at p
  split at p
  · obtain ⟨v, rfl, g⟩ := repL_one rp
    obtain ⟨rfl, _⟩ := rep_str g
    split at p
    · rename_i hz
      exact call_ord pins s σ H _ us Q I r ⟨_, rfl, hz, put_int hk p⟩
    · exact p.elim
  · exact p.elim
theorem call_dMax2 (hc : X.calm = true) : CallR X (.builtin "max") (rDL X.K X.mg W dMax2) := by
  intro pins s σ H vs us Q I r ⟨Z, m, h, σ', ds, hk, rp, p⟩
  unfold dMax2 at p
  split at p
  · obtain ⟨v, u, rfl, g1, g2⟩ := repL_two rp
    obtain rfl := rep_int g1
    obtain rfl := rep_int g2
    exact call_max2 hc pins s σ H _ us Q I r ⟨_, _, rfl, put_int hk p⟩
  · exact p.elim
theorem call_dMin2 (hc : X.calm = true) : CallR X (.builtin "min") (rDL X.K X.mg W dMin2) := by
  intro pins s σ H vs us Q I r ⟨Z, m, h, σ', ds, hk, rp, p⟩
  unfold dMin2 at p
  split at p
  · obtain ⟨v, u, rfl, g1, g2⟩ := repL_two rp
    obtain rfl := rep_int g1
    obtain rfl := rep_int g2
    exact call_min2 hc pins s σ H _ us Q I r ⟨_, _, rfl, put_int hk p⟩
  · exact p.elim
theorem call_dTuple : CallR X (.type "tuple") (rDL X.K X.mg W dTuple) := by
  intro pins s σ H vs us Q I r ⟨Z, m, h, σ', ds, hk, rp, p⟩
  match ds, rp, p with
  | [], _, p => exact p.elim
  | _ :: _ :: _, _, p => exact p.elim
  | [d], rp, p =>
    obtain ⟨v, rfl, g⟩ := repL_one rp
    unfold dTuple at p
    dsimp only at p
    split at p
    · rename_i xs hs
      cases hv : vw h d with
      | tup ys =>
        have hs' := hs
        unfold seq at hs'
        rw [hv] at hs'
        cases hs'
        obtain ⟨a, vs, rfl, g1, g2⟩ := HeapOk.rtup g hv
        refine call_tuple_of pins s σ H _ us Q I r ⟨a, vs, rfl, .inr ⟨g1, ?_⟩⟩
        have e : d = .tup xs := by
          cases d with
          | ref n =>
            have hv' : (match h[n]? with | some (.lst xs) => D.lst xs | _ => .ref n) = .tup xs := hv
            split at hv' <;> cases hv'
          | tup zs => cases hv; rfl
          | _ => cases hv
        subst e
        exact put_old hk g p
      | lst ys =>
        have hs' := hs
        unfold seq at hs'
        rw [hv] at hs'
        cases hs'
        obtain ⟨a, vs, rfl, g1, g2⟩ := hk.rlst g hv
        exact call_tuple_of pins s σ H _ us Q I r ⟨a, vs, rfl, .inl ⟨SqL.of g1, put_tup hk g2 p⟩⟩
      | scr ys =>
        have hs' := hs
        unfold seq at hs'
        rw [hv] at hs'
        cases hs'
        obtain ⟨a, vs, rfl, g1, g2⟩ := HeapOk.rscr g hv
        exact call_tuple_of pins s σ H _ us Q I r ⟨a, vs, rfl, .inl ⟨g1, put_tup hk g2 p⟩⟩
      | _ => unfold seq at hs; rw [hv] at hs; cases hs
    · exact p.elim
theorem call_dList : CallR X (.type "list") (rDL X.K X.mg W dList) := by
  intro pins s σ H vs us Q I r ⟨Z, m, h, σ', ds, hk, rp, p⟩
  unfold dList at p
  split at p
  · obtain ⟨v, rfl, g⟩ := repL_one rp
    split at p
    · rename_i d xs hs
      obtain ⟨a, vs, rfl, g1, g2⟩ := hk.rseq g hs
      exact call_list_of pins s σ H _ us Q I r ⟨a, vs, rfl, g1, put_lst hk g2 p⟩
    · exact p.elim
  · exact p.elim
theorem call_dListC : CallR X (.type "list") (rDL X.K X.mg W dListC) := by
  intro pins s σ H vs us Q I r ⟨Z, m, h, σ', ds, hk, rp, p⟩
  unfold dListC at p
  split at p
  · obtain ⟨v, rfl, g⟩ := repL_one rp
    split at p
    · rename_i d xs hs
      obtain ⟨a, vs, rfl, g1, g2⟩ := hk.rseq g hs
      exact call_list_of pins s σ H _ us Q I r ⟨a, vs, rfl, g1, put_cell hk g2 p⟩
    · exact p.elim
  · exact p.elim
end
end FK

/-! part: FK5 -/
set_option Elab.async false
set_option linter.all false
set_option maxRecDepth 100000
set_option maxHeartbeats 4000000
/-! FK5: targets, statements, for, while, comprehensions. -/
namespace FK
open PySem PySem.Spec L2

/-! ### targets -/
abbrev GD := D → Env → Option Env
abbrev GsD := List D → Env → Option Env
def gN (i : Nat) : GD := fun d ρ => some (ρ.set i (some d))
def gT (ts : GsD) : GD := fun d ρ => match d with
  | .tup xs => ts xs ρ
  | _ => none
def gsN : GsD := fun xs ρ => match xs with
  | [] => some ρ
  | _ => none
def gsC (t : GD) (ts : GsD) : GsD := fun xs ρ => match xs with
  | [] => none
  | x :: r => match t x ρ with
    | some ρ' => ts r ρ'
    | none => none
/-- what a target leaves alone -/
def Kept (is : List Nat) (σ σ' : L2.St) : Prop := ∀ vs : List Nat, (∀ i ∈ is, i ∈ vs) → wipe σ' vs = wipe σ vs
section
variable (K : PySem.W.Frag) (mg : Str → Option Value)
def tDG (is : List Nat) (g : GD) : TG := fun v σ H Q => ∃ Z m ρ h d ρ', At K mg Z m ρ h σ H ∧ Rep K mg m (hide (Z ++ m) H) d v ∧ g d ρ = some ρ' ∧ ∀ σ', REnv K mg m (hide (Z ++ m) H) ρ' σ' → Kept is σ σ' → Q σ' H
def tDGs (is : List Nat) (g : GsD) : TGs := fun vs σ H Q => ∃ Z m ρ h ds ρ', At K mg Z m ρ h σ H ∧ RepL K mg m (hide (Z ++ m) H) ds vs ∧ g ds ρ = some ρ' ∧ ∀ σ', REnv K mg m (hide (Z ++ m) H) ρ' σ' → Kept is σ σ' → Q σ' H
end
theorem pickG {X : Cx} {e : Expr} {t : TG} (h : ∀ v σ H Q, t v σ H Q → ∃ t', PG X e t' ∧ t' v σ H Q) : PG X e t := ⟨fun pins s σ H v u Q I r q => by
  obtain ⟨t', p, q'⟩ := h v σ H Q q
  exact p.run pins s σ H v u Q I r q'⟩
theorem pickGs {X : Cx} {e : List Expr} {t : TGs} (h : ∀ v σ H Q, t v σ H Q → ∃ t', PGs X e t' ∧ t' v σ H Q) : PGs X e t := ⟨fun pins s σ H v u Q I r q => by
  obtain ⟨t', p, q'⟩ := h v σ H Q q
  exact p.run pins s σ H v u Q I r q'⟩
theorem wipe_set {σ : L2.St} {i : Nat} {x : Option V} : ∀ {vs : List Nat}, i ∈ vs → wipe (σ.set i x) vs = wipe σ vs
  | v :: vs, h => by
    unfold wipe
    by_cases e : i ∈ vs
    · rw [wipe_set e]
    · have e2 : i = v := by
        rcases List.mem_cons.mp h with z | z
        · exact z
        · exact absurd z e
      subst e2
      have push : ∀ vs : List Nat, i ∉ vs → wipe (σ.set i x) vs = (wipe σ vs).set i x := by
        intro vs
        induction vs with
        | nil => intro _; rfl
        | cons v vs ih =>
          intro hn
          simp only [List.mem_cons, not_or] at hn
          unfold wipe
          rw [ih hn.2, List.set_comm _ _ hn.1]
      rw [push vs e, List.set_set]
section
variable {X : Cx} {e : Expr} {es : List Expr} {pos : Pos} {is js : List Nat} {g : GD} {gs : GsD}
theorem sg_name {i : Nat} {x : Str} (hN : X.N.Nodup) (hi : X.N[i]? = some x) (hx : Loc X.env.scope x) (hf : X.fn x = true ∨ X.env.scope.names.lookup x = some .local := by first | exact .inl rfl | exact .inr rfl | assumption) : PG X (.Name x pos) (tDG X.K X.mg [i] (gN i)) :=
  pickG fun v σ H Q ⟨Z, m, ρ, h, d, ρ', at', r, e, q⟩ => ⟨_, pg_name hN hi hx hf, by
    cases e
    exact q _ (REnv.set r i at'.en) fun vs hv => wipe_set (hv i (by simp))⟩
theorem sg_nil : PGs X [] (tDGs X.K X.mg [] gsN) :=
  pickGs fun v σ H Q ⟨Z, m, ρ, h, ds, ρ', at', r, e, q⟩ => ⟨_, pgs_nil, by
    cases ds with
    | nil => cases e; exact ⟨r.of_nil, q _ at'.en fun _ _ => rfl⟩
    | cons _ _ => cases e⟩
theorem sg_cons (h1 : PG X e (tDG X.K X.mg is g)) (h2 : PGs X es (tDGs X.K X.mg js gs)) (hs : (assignEach (e :: es) X.env).map (·.2) = assign e X.env :: (assignEach es X.env).map (·.2) := by rfl) : PGs X (e :: es) (tDGs X.K X.mg (is ++ js) (gsC g gs)) :=
  pickGs fun v σ H Q ⟨Z, m, ρ, h, ds, ρ', at', r, e, q⟩ => ⟨_, pgs_cons h1 h2 hs, by
    cases ds with
    | nil => cases e
    | cons d ds =>
      obtain ⟨u, t, rfl, ra, rb⟩ := r.of_cons
      have e : (match g d ρ with | some ρ' => gs ds ρ' | none => none) = some ρ' := e
      cases e1 : g d ρ with
      | none => rw [e1] at e; cases e
      | some ρ1 =>
        rw [e1] at e
        refine ⟨u, t, rfl, Z, m, ρ, h, d, ρ1, at', ra, e1, fun σ1 en1 k1 => ?_⟩
        exact ⟨Z, m, ρ1, h, ds, ρ', ⟨at'.hk, en1⟩, rb, e, fun σ2 en2 k2 => q σ2 en2 fun vs hv => (k2 vs fun i hi => hv i (List.mem_append_right _ hi)).trans (k1 vs fun i hi => hv i (List.mem_append_left _ hi))⟩⟩
theorem sg_tup {k : Nat} {n : Nat} (hc : X.calm = true) (h : PGs X es (tDGs X.K X.mg is gs)) (hl : ∀ xs ρ ρ', gs xs ρ = some ρ' → xs.length = n) (hn : (assignEach es X.env).length = n := by rfl) (hst : (assignEach es X.env).findIdx? (·.1) = none := by rfl) :
    PG X (.Tuple es k pos) (tDG X.K X.mg is (gT gs)) :=
  pickG fun v σ H Q ⟨Z, m, ρ, c, d, ρ', at', r, e, q⟩ => ⟨_, pg_tup hc h hn hst, by
    cases d with
    | tup xs =>
      obtain ⟨a, vs, rfl, g1, g2⟩ := rep_tup r
      exact ⟨a, vs, rfl, hide_sub.sqt g1, by rw [g2.length]; exact hl xs ρ ρ' e, Z, m, ρ, c, xs, ρ', at', g2, e, q⟩
    | _ => cases e⟩
end
theorem gl_nil : ∀ xs ρ ρ', gsN xs ρ = some ρ' → xs.length = 0 := fun xs ρ ρ' e => by
  cases xs with
  | nil => rfl
  | cons _ _ => cases e
theorem gl_cons {g : GD} {gs : GsD} {n : Nat} (h : ∀ xs ρ ρ', gs xs ρ = some ρ' → xs.length = n) : ∀ xs ρ ρ', gsC g gs xs ρ = some ρ' → xs.length = n + 1 := fun xs ρ ρ' e => by
  cases xs with
  | nil => cases e
  | cons x r =>
    have e : (match g x ρ with | some ρ' => gs r ρ' | none => none) = some ρ' := e
    split at e
    · rw [List.length_cons, h _ _ _ e]
    · cases e

/-! ### statements -/
def sE (f : ED) (k : D → SD) : SD := fun ρ h => match f ρ h with
  | .ok d h1 => k d ρ h1
  | .exc c h1 => .exc c ρ h1
  | .bad => .bad
def sB (b : BD) (k : Bool → SD) : SD := fun ρ h => match b ρ h with
  | .ok d h1 => k d ρ h1
  | .exc c h1 => .exc c ρ h1
  | .bad => .bad
def sNil : SD := fun ρ h => .ok .nx ρ h
def sBrk : SD := fun ρ h => .ok .bk ρ h
def sCnt : SD := fun ρ h => .ok .ct ρ h
def sRetN : SD := fun ρ h => .ok (.rt .non) ρ h
def sSeq (a b : SD) : SD := fun ρ h => match a ρ h with
  | .ok .nx ρ1 h1 => b ρ1 h1
  | r => r
def sRet (f : ED) : SD := sE f fun d ρ h => .ok (.rt d) ρ h
def sExpr (f : ED) : SD := sE f fun _ => sNil
def sAsg (f : ED) (g : GD) : SD := sE f fun d ρ h => match g d ρ with
  | some ρ' => .ok .nx ρ' h
  | none => .bad
def sIf (b : BD) (s t : SD) : SD := sB b fun k => if k = true then s else t
theorem pickS {X : Cx} {e : Stmt} {t : TS} (h : ∀ σ H E, t E σ H → ∃ t', PS X e t' ∧ t' E σ H) : PS X e t := ⟨fun pins s σ H E I q => by
  obtain ⟨t', p, q'⟩ := h σ H E q
  exact p.run pins s σ H E I q'⟩
theorem pickSs {X : Cx} {e : List Stmt} {t : TS} (h : ∀ σ H E, t E σ H → ∃ t', PSs X e t' ∧ t' E σ H) : PSs X e t := ⟨fun pins s σ H E I q => by
  obtain ⟨t', p, q'⟩ := h σ H E q
  exact p.run pins s σ H E I q'⟩
section
variable {K : PySem.W.Frag} {mg : Str → Option Value} {Z m m1 : List Addr} {H H1 : Hp} {h : CH} {W : WX} {ρ : Env} {σ : L2.St} {E E' : Ends}
theorem PostS.from {r : RS} (ex : Ext Z m H m1 H1) (p : PostS K mg W Z m H r E) : PostS K mg W Z m1 H1 r E := by
  cases r with
  | ok f ρ h =>
    cases f with
    | nx => exact fun σ' m' H' e => p σ' m' H' (ex.trans e)
    | bk => exact fun σ' m' H' e => p σ' m' H' (ex.trans e)
    | ct => exact fun σ' m' H' e => p σ' m' H' (ex.trans e)
    | rt d => exact fun σ' m' H' e => p σ' m' H' (ex.trans e)
  | exc c ρ h => exact fun σ' m' H' cls e => p σ' m' H' cls (ex.trans e)
  | bad => exact p
/-- an expression, then what follows -/
theorem PostS.ofE {f : ED} {k : D → SD} (at' : At K mg Z m ρ h σ H) (p : PostS K mg W Z m H (sE f k ρ h) E) :
    Post K mg W σ Z m H (f ρ h) (fun v H' => ∃ d m' h', Ext Z m H m' H' ∧ At K mg Z m' ρ h' σ H' ∧ Rep K mg m' (hide (Z ++ m') H') d v ∧ PostS K mg W Z m' H' (k d ρ h') E) := by
  unfold sE at p
  cases e : f ρ h with
  | ok d h1 =>
    rw [e] at p
    exact fun v m' H' ex hk r => ⟨d, m', h1, ex, ⟨hk, ex.env at'.en⟩, r, PostS.from ex p⟩
  | exc c h1 =>
    rw [e] at p
    exact fun m' H' cls ex hk hc => p σ m' H' cls ex hk (ex.env at'.en) hc
  | bad => rw [e] at p; exact p
theorem PostS.ofB {f : BD} {k : Bool → SD} (at' : At K mg Z m ρ h σ H) (p : PostS K mg W Z m H (sB f k ρ h) E) :
    PostB K mg W σ Z m H (f ρ h) (fun d H' => ∃ m' h', Ext Z m H m' H' ∧ At K mg Z m' ρ h' σ H' ∧ PostS K mg W Z m' H' (k d ρ h') E) := by
  unfold sB at p
  cases e : f ρ h with
  | ok d h1 =>
    rw [e] at p
    intro v m' H' ex hk r
    subst r
    exact ⟨m', h1, ex, ⟨hk, ex.env at'.en⟩, PostS.from ex p⟩
  | exc c h1 =>
    rw [e] at p
    exact fun m' H' cls ex hk hc => p σ m' H' cls ex hk (ex.env at'.en) hc
  | bad => rw [e] at p; exact p
/-- one statement of two -/
theorem PostS.seq {a b : SD} (p : PostS K mg W Z m H (sSeq a b ρ h) E) : PostS K mg W Z m H (a ρ h) { E with nx := tDS K mg W b E } := by
  unfold sSeq at p
  cases e : a ρ h with
  | ok f ρ1 h1 =>
    rw [e] at p
    cases f with
    | nx => exact fun σ' m' H' ex hk en => ⟨Z, m', ρ1, h1, ⟨hk, en⟩, PostS.from ex p⟩
    | bk => exact p
    | ct => exact p
    | rt d => exact p
  | exc c ρ1 h1 => rw [e] at p; exact p
  | bad => rw [e] at p; exact p
end
section
variable {X : Cx} {W : WX} {e o : Expr} {es : List Expr} {pos : Pos} {st : Stmt} {sts ths els : List Stmt} {f : ED} {b : BD} {a c : SD} {g : GD} {is : List Nat}
theorem ss_nil : PSs X [] (tDS X.K X.mg W sNil) := pickSs fun σ H E ⟨Z, m, ρ, h, at', p⟩ => ⟨_, pss_nil, p σ m H Ext.refl at'.hk at'.en⟩
theorem ss_cons (h1 : PS X st (tDS X.K X.mg W a)) (h2 : PSs X sts (tDS X.K X.mg W c)) : PSs X (st :: sts) (tDS X.K X.mg W (sSeq a c)) :=
  pickSs fun σ H E ⟨Z, m, ρ, h, at', p⟩ => ⟨_, pss_cons h1 h2, Z, m, ρ, h, at', PostS.seq p⟩
theorem ss_one (h1 : PS X st (tDS X.K X.mg W a)) : PSs X [st] (tDS X.K X.mg W a) := pss_one h1
theorem ss_pass : PS X (.Pass pos) (tDS X.K X.mg W sNil) := pickS fun σ H E ⟨Z, m, ρ, h, at', p⟩ => ⟨_, ps_pass, p σ m H Ext.refl at'.hk at'.en⟩
theorem ss_break : PS X (.Break pos) (tDS X.K X.mg W sBrk) := pickS fun σ H E ⟨Z, m, ρ, h, at', p⟩ => ⟨_, ps_break, p σ m H Ext.refl at'.hk at'.en⟩
theorem ss_continue : PS X (.Continue pos) (tDS X.K X.mg W sCnt) := pickS fun σ H E ⟨Z, m, ρ, h, at', p⟩ => ⟨_, ps_continue, p σ m H Ext.refl at'.hk at'.en⟩
theorem ss_retN : PS X (.Return none pos) (tDS X.K X.mg W sRetN) := pickS fun σ H E ⟨Z, m, ρ, h, at', p⟩ => ⟨_, ps_retN, p _ m H Ext.refl at'.hk mk_non⟩
theorem ss_ret (he : PE X e (tD X.K X.mg W f)) : PS X (.Return (some e) pos) (tDS X.K X.mg W (sRet f)) :=
  pickS fun σ H E ⟨Z, m, ρ, h, at', p⟩ => ⟨_, ps_ret he, Z, m, ρ, h, at', (PostS.ofE at' p).imp fun v H' ⟨d, m', h', ex, at2, r, q⟩ => q v m' H' Ext.refl at2.hk r⟩
theorem ss_expr (he : PE X e (tD X.K X.mg W f)) (hs : swapsWith e none pos.line X.env = pure false := by rfl) : PS X (.Expr e pos) (tDS X.K X.mg W (sExpr f)) :=
  pickS fun σ H E ⟨Z, m, ρ, h, at', p⟩ => ⟨_, ps_expr he hs, Z, m, ρ, h, at', (PostS.ofE at' p).imp fun v H' ⟨d, m', h', ex, at2, r, q⟩ => q σ m' H' Ext.refl at2.hk at2.en⟩
theorem ss_if {cnd : Expr} (hc : PT X cnd (tDB X.K X.mg W b)) (ha : PSs X ths (tDS X.K X.mg W a)) (hb : PSs X els (tDS X.K X.mg W c)) : PS X (.If cnd ths els pos) (tDS X.K X.mg W (sIf b a c)) :=
  pickS fun σ H E ⟨Z, m, ρ, h, at', p⟩ => ⟨_, ps_if hc ha hb, Z, m, ρ, h, at', (PostS.ofB at' p).imp fun k H' ⟨m', h', ex, at2, q⟩ => by
    cases k with
    | true => exact ⟨Z, m', ρ, h', at2, q⟩
    | false => exact ⟨Z, m', ρ, h', at2, q⟩⟩
theorem ss_asg {tg : Expr} (he : PE X e (tD X.K X.mg W f)) (hg : PG X tg (tDG X.K X.mg is g)) (hs : swapsWithSole [tg] e pos.line X.env = pure false := by rfl) (hw : swappedStores [tg] e X.env = pure none := by rfl)
    (h1 : (assignEach [tg] X.env).map (·.2) = [assign tg X.env] := by rfl) : PS X (.Assign [tg] e pos) (tDS X.K X.mg W (sAsg f g)) :=
  pickS fun σ H E ⟨Z, m, ρ, h, at', p⟩ => ⟨_, ps_asg he hg hs hw h1, Z, m, ρ, h, at', (PostS.ofE at' p).imp fun v H' ⟨d, m', h', ex, at2, r, q⟩ => by
    split at q
    · rename_i ρ' hr
      exact ⟨Z, m', ρ, h', d, ρ', at2, r, hr, fun σ' en _ => q σ' m' H' Ext.refl at2.hk en⟩
    · exact q.elim⟩
end

/-! ### what is walked -/
/-- the items; the cell, if a cell is walked -/
abbrev ITD := Env → M (List D × Option Nat)
def gd (o : Option Nat) (ds : List D) (h : CH) : Prop := match o with
  | none => True
  | some n => h[n]? = some (.lst ds)
structure Wk (K : PySem.W.Frag) (mg : Str → Option Value) (J : It) (ds : List D) (o : Option Nat) (m0 : List Addr) (S0 : Hp) : Prop where
  go : ∀ Z m h H (i : Nat) d, (∀ (n : Nat) a, m0[n]? = some a → m[n]? = some a) → Sub S0 (hide (Z ++ m) H) → HeapOk K mg Z m h H → gd o ds h → ds[i]? = some d → J.go i H ∧ ∀ x H', J.yld i H x H' → H' = H ∧ Rep K mg m (hide (Z ++ m) H) d x
  stop : ∀ Z m h H, (∀ (n : Nat) a, m0[n]? = some a → m[n]? = some a) → Sub S0 (hide (Z ++ m) H) → HeapOk K mg Z m h H → gd o ds h → J.stop ds.length H
def tDI (K : PySem.W.Frag) (mg : Str → Option Value) (W : WX) (f : ITD) : TI := fun σ H R => ∃ Z m ρ h, At K mg Z m ρ h σ H ∧ match f ρ h with
  | .ok (ds, o) h1 => ∀ J m1 H1, Ext Z m H m1 H1 → HeapOk K mg Z m1 h1 H1 → Wk K mg J ds o m1 (hide (Z ++ m1) H1) → R J H1
  | .exc c h1 => ∀ m' H' cls, Ext Z m H m' H' → HeapOk K mg Z m' h1 H' → mg c = some cls → W cls none σ H'
  | .bad => False
def chars (x : Str) : List D := x.cps.toList.map fun c => .str ⟨#[c]⟩
def itOf (d : D) (h : CH) : R (List D × Option Nat) :=
  match d with
  | .str x => .ok (chars x, none) h
  | .ref n => match h[n]? with
    | some (.lst xs) => .ok (xs, some n) h
    | _ => .bad
  | .tup xs => .ok (xs, none) h
  | .lst xs => .ok (xs, none) h
  | .scr xs => .ok (xs, none) h
  | _ => .bad
def iE (f : ED) : ITD := fun ρ => M.bind (f ρ) itOf
def rangeD (lo hi : Int) : List D := (List.range (hi - lo).toNat).map fun (k : Nat) => .int (lo + (k : Int))
def inR (i : Int) : Prop := -(2 ^ 62) ≤ i ∧ i < 2 ^ 62
noncomputable instance (i : Int) : Decidable (inR i) := Classical.propDecidable _
def rng1 : List D → Option Int
  | [.int j] => some j
  | _ => none
def rng2 : List D → Option (Int × Int)
  | [.int i, .int j] => some (i, j)
  | _ => none
theorem rng1_eq {ds : List D} {j : Int} (e : rng1 ds = some j) : ds = [.int j] := by
  unfold rng1 at e
  split at e <;> cases e
  rfl
theorem rng2_eq {ds : List D} {j : Int × Int} (e : rng2 ds = some j) : ds = [.int j.1, .int j.2] := by
  unfold rng2 at e
  split at e <;> cases e
  rfl
noncomputable def iR1 (fs : AD) : ITD := fun ρ => M.bind (fs ρ) fun ds h => match rng1 ds with
  | some j => if inR j then .ok (rangeD 0 j, none) h else .bad
  | none => .bad
noncomputable def iR2 (fs : AD) : ITD := fun ρ => M.bind (fs ρ) fun ds h => match rng2 ds with
  | some r => if inR r.1 ∧ inR r.2 then .ok (rangeD r.1 r.2, none) h else .bad
  | none => .bad
theorem pickI {X : Cx} {tg e : Expr} {t : TI} (h : ∀ σ H R, t σ H R → ∃ t', PI X tg e t' ∧ t' σ H R) : PI X tg e t := ⟨fun pins s σ H R I q => by
  obtain ⟨t', p, q'⟩ := h σ H R q
  exact p.run pins s σ H R I q'⟩
section
variable {K : PySem.W.Frag} {mg : Str → Option Value} {m : List Addr} {S : Hp}
theorem wk_list {a : Addr} {vs : List V} {ds : List D} (g1 : SqL K S a vs) (g2 : RepL K mg m S ds vs) : Wk K mg (Itl K a) ds none m S where
  go := fun Z m' h' H' i d pre st hk _ hd => by
    have s1 := (st.trans hide_sub).sql g1
    obtain ⟨v, e1, r⟩ := g2.get hd
    exact ⟨⟨vs, v, s1, e1⟩, fun x H2 y => by
      obtain ⟨rfl, y⟩ := y
      have := y vs s1
      rw [e1] at this
      cases this
      exact ⟨rfl, Rep.mono pre st _ _ r⟩⟩
  stop := fun Z m' h' H' pre st hk _ => ⟨vs, (st.trans hide_sub).sql g1, by rw [g2.length]; exact Nat.le_refl _⟩
theorem wk_tup {a : Addr} {vs : List V} {ds : List D} (g1 : SqT K S a vs) (g2 : RepL K mg m S ds vs) : Wk K mg (Itt K a) ds none m S where
  go := fun Z m' h' H' i d pre st hk _ hd => by
    have s1 := (st.trans hide_sub).sqt g1
    obtain ⟨v, e1, r⟩ := g2.get hd
    exact ⟨⟨vs, v, s1, e1⟩, fun x H2 y => by
      obtain ⟨rfl, y⟩ := y
      have := y vs s1
      rw [e1] at this
      cases this
      exact ⟨rfl, Rep.mono pre st _ _ r⟩⟩
  stop := fun Z m' h' H' pre st hk _ => ⟨vs, (st.trans hide_sub).sqt g1, by rw [g2.length]; exact Nat.le_refl _⟩
theorem wk_cell {a : Addr} {n : Nat} {ds : List D} (g1 : m[n]? = some a) : Wk K mg (Itl K a) ds (some n) m S where
  go := fun Z m' h' H' i d pre st hk g hd => by
    obtain ⟨vs, e1, r⟩ := hk.cell n _ a g (pre n a g1)
    obtain ⟨v, e2, r2⟩ := r.get hd
    exact ⟨⟨vs, v, SqL.of e1, e2⟩, fun x H2 y => by
      obtain ⟨rfl, y⟩ := y
      have := y vs (SqL.of e1)
      rw [e2] at this
      cases this
      exact ⟨rfl, r2⟩⟩
  stop := fun Z m' h' H' pre st hk g => by
    obtain ⟨vs, e1, r⟩ := hk.cell n _ a g (pre n a g1)
    exact ⟨vs, SqL.of e1, by rw [r.length]; exact Nat.le_refl _⟩
theorem wk_str {x : Str} (hx : PyData.strOk x = true) : Wk K mg (Its x) (chars x) none m S where
  go := fun Z m' h' H' i d pre st hk _ hd => by
    unfold chars at hd
    rw [List.getElem?_map] at hd
    cases e : x.cps.toList[i]? with
    | none => rw [e] at hd; cases hd
    | some c =>
      rw [e] at hd
      cases hd
      have e' : x.cps[i]? = some c := by simpa using e
      refine ⟨(by show i < x.cps.size; have := (List.getElem?_eq_some_iff.mp e).1; simpa using this), fun v H2 y => ?_⟩
      obtain ⟨rfl, c', h1, rfl⟩ := y
      rw [e'] at h1
      cases h1
      exact ⟨rfl, mk_str (ok_one hx (List.mem_of_getElem? e))⟩
  stop := fun Z m' h' H' pre st hk _ => by
    show x.cps.size ≤ (chars x).length
    unfold chars
    simp
theorem wk_range (lo hi : Int) : Wk K mg (Itr lo (hi - lo).toNat) (rangeD lo hi) none m S where
  go := fun Z m' h' H' i d pre st hk _ hd => by
    unfold rangeD at hd
    rw [List.getElem?_map] at hd
    cases e : (List.range (hi - lo).toNat)[i]? with
    | none => rw [e] at hd; cases hd
    | some k =>
      rw [e] at hd
      cases hd
      obtain ⟨h1, h2⟩ := List.getElem?_eq_some_iff.mp e
      simp at h1 h2
      subst h2
      refine ⟨(by show i < (hi - lo).toNat; omega), fun v H2 y => ?_⟩
      obtain ⟨rfl, rfl⟩ := y
      exact ⟨rfl, mk_int _⟩
  stop := fun Z m' h' H' pre st hk _ => by
    show (hi - lo).toNat ≤ (rangeD lo hi).length
    unfold rangeD
    simp
end
end FK

/-! part: FK6 -/
set_option Elab.async false
set_option linter.all false
set_option maxRecDepth 100000
set_option maxHeartbeats 4000000
/-! FK6: what a for walks, for, while, list comprehensions. -/
namespace FK
open PySem PySem.Spec L2

section
variable {X : Cx} {W : WX} {tg e a b : Expr} {f g : ED} {fs : AD} {p pos : Pos}
theorem itOf_heap {d : D} {h h' : CH} {r} (e : itOf d h = .ok r h') : h' = h := by
  unfold itOf at e
  split at e
  · cases e; rfl
  · split at e <;> cases e; rfl
  · cases e; rfl
  · cases e; rfl
  · cases e; rfl
  · cases e
theorem si_of (he : PE X e (tD X.K X.mg W f)) : PI X tg e (tDI X.K X.mg W (iE f)) := by
  refine pickI fun σ H R ⟨Z, m, ρ, h, at', p⟩ => ?_
  unfold iE M.bind at p
  cases e1 : f ρ h with
  | bad => rw [e1] at p; exact p.elim
  | exc c h1 =>
    rw [e1] at p
    refine ⟨_, pi_list he, Z, m, ρ, h, at', ?_⟩
    rw [e1]
    exact p
  | ok d h1 =>
    rw [e1] at p
    dsimp only at p
    unfold itOf at p
    cases d with
    | str x =>
      refine ⟨_, pi_str he, Z, m, ρ, h, at', ?_⟩
      rw [e1]
      intro v m1 H1 ex hk r
      obtain ⟨rfl, k⟩ := rep_str r
      exact ⟨x, rfl, p _ m1 H1 ex hk (wk_str k)⟩
    | tup xs =>
      refine ⟨_, pi_tup he, Z, m, ρ, h, at', ?_⟩
      rw [e1]
      intro v m1 H1 ex hk r
      obtain ⟨l, vs, rfl, g1, g2⟩ := rep_tup r
      exact ⟨l, rfl, ⟨vs, hide_sub.sqt g1⟩, p _ m1 H1 ex hk (wk_tup g1 g2)⟩
    | lst xs =>
      refine ⟨_, pi_list he, Z, m, ρ, h, at', ?_⟩
      rw [e1]
      intro v m1 H1 ex hk r
      unfold Rep at r
      obtain ⟨l, vs, rfl, g1, g2⟩ := r
      exact ⟨l, rfl, ⟨vs, SqL.of (hide_sub _ _ g1)⟩, p _ m1 H1 ex hk (wk_list (SqL.of g1) g2)⟩
    | scr xs =>
      refine ⟨_, pi_list he, Z, m, ρ, h, at', ?_⟩
      rw [e1]
      intro v m1 H1 ex hk r
      unfold Rep at r
      obtain ⟨l, vs, rfl, g1, g2⟩ := r
      exact ⟨l, rfl, ⟨vs, hide_sub.sql g1⟩, p _ m1 H1 ex hk (wk_list g1 g2)⟩
    | ref n =>
      dsimp only at p
      cases e2 : h1[n]? with
      | none => rw [e2] at p; exact p.elim
      | some c =>
        cases c with
        | ins _ _ _ => rw [e2] at p; exact p.elim
        | lst xs =>
          rw [e2] at p
          refine ⟨_, pi_list he, Z, m, ρ, h, at', ?_⟩
          rw [e1]
          intro v m1 H1 ex hk r
          unfold Rep at r
          obtain ⟨l, g1, rfl⟩ := r
          obtain ⟨vs, g2, g3⟩ := hk.cell n _ l e2 g1
          exact ⟨l, rfl, ⟨vs, SqL.of g2⟩, p _ m1 H1 ex hk (wk_cell g1)⟩
    | non => exact p.elim
    | bl _ => exact p.elim
    | int _ => exact p.elim
    | obj _ _ _ => exact p.elim
theorem si_range1 (hg : Gl X "range") (hm : X.mg "range" = none) (ha : PA X [a] (tDL X.K X.mg W fs)) (hs : starEach [a] X.env = [(false, eval a X.env)] := by rfl) : PI X tg (.Call (.Name "range" p) [a] [] pos) (tDI X.K X.mg W (iR1 fs)) := by
  refine pickI fun σ H R ⟨Z, m, ρ, h, at', p⟩ => ⟨_, pi_range1 hg hm ha hs, Z, m, ρ, h, at', ?_⟩
  unfold iR1 M.bind at p
  cases e1 : fs ρ h with
  | bad => rw [e1] at p; exact p.elim
  | exc c h1 => rw [e1] at p; exact p
  | ok ds h1 =>
    rw [e1] at p
    dsimp only at p
    intro vs m1 H1 ex hk r
    cases e2 : rng1 ds with
    | none => rw [e2] at p; exact p.elim
    | some j =>
      rw [e2] at p
      dsimp only at p
      obtain rfl := rng1_eq e2
      obtain ⟨v, rfl, g⟩ := repL_one r
      obtain rfl := rep_int g
      by_cases hj : inR j
      · rw [if_pos hj] at p
        refine ⟨_, rfl, hj.1, hj.2, ?_⟩
        have w := wk_range (K := X.K) (mg := X.mg) (m := m1) (S := hide (Z ++ m1) H1) 0 j
        rw [Int.sub_zero] at w
        exact p _ m1 H1 ex hk w
      · rw [if_neg hj] at p; exact p.elim
theorem si_range2 (hg : Gl X "range") (hm : X.mg "range" = none) (ha : PA X [a, b] (tDL X.K X.mg W fs)) (hs : starEach [a, b] X.env = [(false, eval a X.env), (false, eval b X.env)] := by rfl) (hs2 : starEach [b] X.env = [(false, eval b X.env)] := by rfl) :
    PI X tg (.Call (.Name "range" p) [a, b] [] pos) (tDI X.K X.mg W (iR2 fs)) := by
  refine pickI fun σ H R ⟨Z, m, ρ, h, at', p⟩ => ⟨_, pi_range2 hg hm ha hs hs2, Z, m, ρ, h, at', ?_⟩
  unfold iR2 M.bind at p
  cases e1 : fs ρ h with
  | bad => rw [e1] at p; exact p.elim
  | exc c h1 => rw [e1] at p; exact p
  | ok ds h1 =>
    rw [e1] at p
    dsimp only at p
    intro vs m1 H1 ex hk r
    cases e2 : rng2 ds with
    | none => rw [e2] at p; exact p.elim
    | some j =>
      rw [e2] at p
      dsimp only at p
      obtain rfl := rng2_eq e2
      obtain ⟨v, u, rfl, g, g'⟩ := repL_two r
      obtain rfl := rep_int g
      obtain rfl := rep_int g'
      by_cases hj : inR j.1 ∧ inR j.2
      · rw [if_pos hj] at p
        exact ⟨_, _, rfl, ⟨hj.1.1, hj.1.2, hj.2.1, hj.2.2⟩, p _ m1 H1 ex hk (wk_range j.1 j.2)⟩
      · rw [if_neg hj] at p; exact p.elim
end

/-! ### for -/
def forL (g : GD) (body : SD) : List D → SD
  | [] => sNil
  | d :: ds => fun ρ h => match g d ρ with
    | none => .bad
    | some ρ1 => match body ρ1 h with
      | .ok .nx ρ2 h2 => forL g body ds ρ2 h2
      | .ok .ct ρ2 h2 => forL g body ds ρ2 h2
      | .ok .bk ρ2 h2 => .ok .nx ρ2 h2
      | r => r
open Classical in
/-- over a cell: it must stand as it stood, turn by turn -/
noncomputable def forC (n : Nat) (all : List D) (g : GD) (body : SD) : List D → SD
  | [] => fun ρ h => if h[n]? = some (.lst all) then .ok .nx ρ h else .bad
  | d :: ds => fun ρ h => if h[n]? = some (.lst all) then (match g d ρ with
    | none => .bad
    | some ρ1 => match body ρ1 h with
      | .ok .nx ρ2 h2 => forC n all g body ds ρ2 h2
      | .ok .ct ρ2 h2 => forC n all g body ds ρ2 h2
      | .ok .bk ρ2 h2 => .ok .nx ρ2 h2
      | r => r) else .bad
noncomputable def forX (o : Option Nat) (all : List D) (g : GD) (body : SD) : List D → SD := match o with
  | none => forL g body
  | some n => forC n all g body
noncomputable def sFor (it : ITD) (g : GD) (body : SD) : SD := fun ρ h => match it ρ h with
  | .ok (ds, o) h1 => forX o ds g body ds ρ h1
  | .exc c h1 => .exc c ρ h1
  | .bad => .bad
section
variable {K : PySem.W.Frag} {mg : Str → Option Value} {Z m : List Addr} {H : Hp} {h : CH} {W : WX} {ρ : Env} {E : Ends} {o : Option Nat} {all : List D} {g : GD} {body : SD}
theorem forX_nil (p : PostS K mg W Z m H (forX o all g body [] ρ h) E) : gd o all h ∧ PostS K mg W Z m H (.ok .nx ρ h) E := by
  cases o with
  | none => exact ⟨trivial, p⟩
  | some n =>
    unfold forX at p
    dsimp only at p
    unfold forC at p
    split at p
    · rename_i hn; exact ⟨hn, p⟩
    · exact p.elim
theorem turn_post {r : RS} {nextS : Env → CH → RS} (p : PostS K mg W Z m H (match r with | .ok .nx ρ2 h2 => nextS ρ2 h2 | .ok .ct ρ2 h2 => nextS ρ2 h2 | .ok .bk ρ2 h2 => .ok .nx ρ2 h2 | r => r) E)
    (N : L2.St → Hp → Prop) (hN : ∀ ρ2 h2 σ' m' H', Ext Z m H m' H' → HeapOk K mg Z m' h2 H' → REnv K mg m' (hide (Z ++ m') H') ρ2 σ' → PostS K mg W Z m' H' (nextS ρ2 h2) E → N σ' H') : PostS K mg W Z m H r { E with nx := N, ct := N, bk := E.nx } := by
  cases r with
  | ok f ρ2 h2 =>
    cases f with
    | nx => exact fun σ' m' H' ex hk en => hN ρ2 h2 σ' m' H' ex hk en (PostS.from ex p)
    | ct => exact fun σ' m' H' ex hk en => hN ρ2 h2 σ' m' H' ex hk en (PostS.from ex p)
    | bk => exact p
    | rt d => exact p
  | exc c ρ2 h2 => exact p
  | bad => exact p
theorem forX_cons {d : D} {ds : List D} (p : PostS K mg W Z m H (forX o all g body (d :: ds) ρ h) E) (N : L2.St → Hp → Prop)
    (hN : ∀ ρ2 h2 σ' m' H', Ext Z m H m' H' → HeapOk K mg Z m' h2 H' → REnv K mg m' (hide (Z ++ m') H') ρ2 σ' → PostS K mg W Z m' H' (forX o all g body ds ρ2 h2) E → N σ' H') :
    gd o all h ∧ ∃ ρ1, g d ρ = some ρ1 ∧ PostS K mg W Z m H (body ρ1 h) { E with nx := N, ct := N, bk := E.nx } := by
  cases o with
  | none =>
    refine ⟨trivial, ?_⟩
    unfold forX at p
    dsimp only at p
    unfold forL at p
    cases e : g d ρ with
    | none => rw [e] at p; exact p.elim
    | some ρ1 =>
      rw [e] at p
      exact ⟨ρ1, rfl, turn_post p N hN⟩
  | some n =>
    unfold forX at p
    dsimp only at p
    unfold forC at p
    split at p
    · rename_i hn
      refine ⟨hn, ?_⟩
      cases e : g d ρ with
      | none => rw [e] at p; exact p.elim
      | some ρ1 =>
        rw [e] at p
        exact ⟨ρ1, rfl, turn_post p N hN⟩
    · exact p.elim
end
section
variable {X : Cx} {W : WX} {tg iter : Expr} {body : List Stmt} {it : ITD} {g : GD} {is : List Nat} {bd : SD} {pos : Pos} {b : BD} {cnd : Expr}
theorem ss_for (hp : PassesOwn (model X.prog X.w) X.A X.env X.xe) (hc : X.calm = true) (hi : PI X tg iter (tDI X.K X.mg W it)) (hg : PG X tg (tDG X.K X.mg is g)) (hb : PSs X body (tDS X.K X.mg W bd))
    (hs : ∀ x, foldedSetIterable iter X.env x = pure x := by intro _; rfl) : PS X (.For tg iter body [] pos) (tDS X.K X.mg W (sFor it g bd)) := by
  refine pickS fun σ H E ⟨Z, m, ρ, h, at', p⟩ => ⟨_, ps_for hp hc hi hg hb hs, Z, m, ρ, h, at', ?_⟩
  unfold sFor at p
  cases e1 : it ρ h with
  | bad => rw [e1] at p; exact p.elim
  | exc c h1 =>
    rw [e1] at p
    exact fun m' H' cls ex hk hc => p σ m' H' cls ex hk (ex.env at'.en) hc
  | ok r h1 =>
    obtain ⟨ds, o⟩ := r
    rw [e1] at p
    dsimp only at p ⊢
    intro J m1 H1 ex1 hk1 wk
    refine ⟨fun i k σ H => k = ds.length - i ∧ i ≤ ds.length ∧ ∃ m ρ h, Ext Z m1 H1 m H ∧ HeapOk X.K X.mg Z m h H ∧ REnv X.K X.mg m (hide (Z ++ m) H) ρ σ ∧ PostS X.K X.mg W Z m H (forX o ds g bd (ds.drop i) ρ h) E,
      ⟨ds.length, rfl, Nat.zero_le _, m1, ρ, h1, Ext.refl, hk1, ex1.env at'.en, PostS.from ex1 p⟩, ?_⟩
    rintro i k σ2 H2 ⟨rfl, hi, m2, ρ2, h2, ex2, hk2, en2, p2⟩
    by_cases hlt : i < ds.length
    · right
      rw [List.drop_eq_getElem_cons hlt] at p2
      obtain ⟨gd2, ρ3, e3, p3⟩ := forX_cons p2 (fun σ' H' => ds.length - (i + 1) = ds.length - (i + 1) ∧ i + 1 ≤ ds.length ∧ ∃ m ρ h, Ext Z m1 H1 m H' ∧ HeapOk X.K X.mg Z m h H' ∧ REnv X.K X.mg m (hide (Z ++ m) H') ρ σ' ∧ PostS X.K X.mg W Z m H' (forX o ds g bd (ds.drop (i + 1)) ρ h) E)
        fun ρ4 h4 σ4 m4 H4 ex4 hk4 en4 p4 => ⟨rfl, hlt, m4, ρ4, h4, ex2.trans ex4, hk4, en4, p4⟩
      have hd : ds[i]? = some ds[i] := List.getElem?_eq_getElem hlt
      obtain ⟨go, yl⟩ := wk.go Z m2 h2 H2 i _ ex2.pre ex2.st hk2 gd2 hd
      refine ⟨go, _, fun σ' H' q => ⟨ds.length - (i + 1), by omega, q⟩, fun x H' y => ?_⟩
      obtain ⟨rfl, rx⟩ := yl x H' y
      exact ⟨Z, m2, ρ2, h2, _, ρ3, ⟨hk2, en2⟩, rx, e3, fun σ3 en3 _ => ⟨Z, m2, ρ3, h2, ⟨hk2, en3⟩, p3⟩⟩
    · left
      have e : i = ds.length := by omega
      subst e
      rw [List.drop_length] at p2
      obtain ⟨gd2, p3⟩ := forX_nil p2
      exact ⟨wk.stop Z m2 h2 H2 ex2.pre ex2.st hk2 gd2, p3 σ2 m2 H2 Ext.refl hk2 en2⟩

/-! ### while -/
def whL (b : BD) (body : SD) : Nat → SD
  | 0 => fun _ _ => .bad
  | n + 1 => sB b fun k => if k = true then (fun ρ h => match body ρ h with
      | .ok .nx ρ2 h2 => whL b body n ρ2 h2
      | .ok .ct ρ2 h2 => whL b body n ρ2 h2
      | .ok .bk ρ2 h2 => .ok .nx ρ2 h2
      | r => r) else sNil
theorem ss_while (n : Nat) (hp : PassesOwn (model X.prog X.w) X.A X.env X.xe) (hc : PT X cnd (tDB X.K X.mg W b)) (hb : PSs X body (tDS X.K X.mg W bd)) : PS X (.While cnd body [] pos) (tDS X.K X.mg W (whL b bd n)) := by
  refine pickS fun σ H E ⟨Z, m, ρ, h, at', p⟩ => ⟨_, ps_while hp hc hb, ?_⟩
  refine ⟨fun k σ H => ∃ m ρ h, HeapOk X.K X.mg Z m h H ∧ REnv X.K X.mg m (hide (Z ++ m) H) ρ σ ∧ PostS X.K X.mg W Z m H (whL b bd k ρ h) E, ⟨n, m, ρ, h, at'.hk, at'.en, p⟩, ?_⟩
  rintro k σ2 H2 ⟨m2, ρ2, h2, hk2, en2, p2⟩
  cases k with
  | zero => exact p2.elim
  | succ k =>
    refine ⟨Z, m2, ρ2, h2, ⟨hk2, en2⟩, (PostS.ofB ⟨hk2, en2⟩ p2).imp fun t H3 ⟨m3, h3, ex3, at3, q⟩ => ?_⟩
    cases t with
    | true =>
      rw [if_pos rfl] at q ⊢
      refine ⟨fun σ' H' => ∃ m ρ h, HeapOk X.K X.mg Z m h H' ∧ REnv X.K X.mg m (hide (Z ++ m) H') ρ σ' ∧ PostS X.K X.mg W Z m H' (whL b bd k ρ h) E, fun σ' H' q => ⟨k, Nat.lt_succ_self _, q⟩, ?_⟩
      exact ⟨Z, m3, ρ2, h3, at3, turn_post q _ fun ρ4 h4 σ4 m4 H4 ex4 hk4 en4 p4 => ⟨m4, ρ4, h4, hk4, en4, p4⟩⟩
    | false =>
      rw [if_neg Bool.false_ne_true] at q ⊢
      exact q σ2 m3 H3 Ext.refl at3.hk at3.en
end

/-! ### list comprehensions -/
def wipeE (ρ : Env) : List Nat → Env
  | [] => ρ
  | v :: vs => (wipeE ρ vs).set v none
/-- one item: nothing, or what comes of it -/
def lcT (g : GD) (b : BD) (f : ED) (ρ : Env) (d : D) : M (Option D) := fun h => match g d ρ with
  | none => .bad
  | some ρ1 => match b ρ1 h with
    | .ok true h1 => (match f ρ1 h1 with
      | .ok x h2 => .ok (some x) h2
      | _ => .bad)
    | .ok false h1 => .ok none h1
    | _ => .bad
def lcL (g : GD) (b : BD) (f : ED) (ρ : Env) : List D → M (List D)
  | [] => M.pure []
  | d :: ds => M.bind (lcT g b f ρ d) fun o => M.bind (lcL g b f ρ ds) fun xs => M.pure (o.toList ++ xs)
open Classical in
noncomputable def lcC (n : Nat) (all : List D) (g : GD) (b : BD) (f : ED) (ρ : Env) : List D → M (List D)
  | [] => fun h => if h[n]? = some (.lst all) then .ok [] h else .bad
  | d :: ds => fun h => if h[n]? = some (.lst all) then M.bind (lcT g b f ρ d) (fun o => M.bind (lcC n all g b f ρ ds) fun xs => M.pure (o.toList ++ xs)) h else .bad
noncomputable def lcX (o : Option Nat) (all : List D) (g : GD) (b : BD) (f : ED) (ρ : Env) : List D → M (List D) := match o with
  | none => lcL g b f ρ
  | some n => lcC n all g b f ρ
def bYes : BD := fun _ => M.pure true
def lcEnd (xs : List D) : M D := fun h => if xs.length ≤ sizeLine then .ok (.lst xs) h else .bad
def lcEndC (xs : List D) : M D := fun h => if xs.length ≤ sizeLine then .ok (.ref h.length) (h ++ [.lst xs]) else .bad
/-- [f for g in it if b] -/
noncomputable def eLc (fin : List D → M D) (it : ITD) (g : GD) (b : BD) (f : ED) (vs : List Nat) : ED := fun ρ => M.bind (it ρ) fun r => M.bind (lcX r.2 r.1 g b f (wipeE ρ vs) r.1) fin
end FK

/-! part: FK7 -/
set_option Elab.async false
set_option linter.all false
set_option maxRecDepth 100000
set_option maxHeartbeats 4000000
/-! FK7: list comprehensions are what the model does. -/
namespace FK
open PySem PySem.Spec L2

theorem wipe_sub {σ : L2.St} : ∀ {ws vs : List Nat}, (∀ i ∈ ws, i ∈ vs) → wipe (wipe σ ws) vs = wipe σ vs
  | [], vs, _ => rfl
  | w :: ws, vs, h => by
    show wipe ((wipe σ ws).set w none) vs = wipe σ vs
    rw [wipe_set (h w List.mem_cons_self), wipe_sub fun i hi => h i (List.mem_cons_of_mem _ hi)]
section
variable {K : PySem.W.Frag} {mg : Str → Option Value} {Z m : List Addr} {S H : Hp} {h : CH} {L : Addr}
theorem REnv.wipe {ρ : Env} {σ : L2.St} (r : REnv K mg m S ρ σ) : ∀ vs : List Nat, REnv K mg m S (wipeE ρ vs) (L2.wipe σ vs)
  | [] => r
  | v :: vs => REnv.unset v (REnv.wipe r vs)
theorem sub_hide1 : Sub (hide (L :: Z ++ m) H) (hide (Z ++ m) H) := fun a o e => by
  obtain ⟨h1, h2⟩ := hide_some e
  exact hide_of (fun z => h1 (List.mem_cons_of_mem _ z)) h2
theorem sub_lay {o : HO} (hl : H L = none) : Sub (hide (Z ++ m) H) (hide (L :: Z ++ m) (upd H L o)) := fun a u e => by
  obtain ⟨h1, h2⟩ := hide_some e
  have ne := ne_of_none h2 hl
  refine hide_of (fun z => ?_) (by rw [upd_ne ne]; exact h2)
  rcases List.mem_cons.mp z with z | z
  · exact ne z
  · exact h1 z
/-- a thing laid and hidden -/
theorem HeapOk.lay1 (hk : HeapOk K mg Z m h H) {o : HO} (hl : H L = none) : HeapOk K mg (L :: Z) m h (upd H L o) := by
  refine ⟨hk.len, hk.nd, fun a ha hz => ?_, fun a ha => ?_, fun n c a h1 h2 => ?_⟩
  · rcases List.mem_cons.mp hz with z | z
    · exact mem_not_new hk hl (by rw [← z]; exact ha)
    · exact hk.dj a ha z
  · rcases List.mem_cons.mp ha with z | z
    · exact ⟨o, by rw [z, upd_same]⟩
    · obtain ⟨u, e⟩ := hk.ex a z
      exact ⟨u, by rw [upd_ne (ne_of_none e hl)]; exact e⟩
  · have ne : a ≠ L := fun z => mem_not_new hk hl (by rw [← z]; exact List.mem_of_getElem? h2)
    exact CellR.mono (fun _ _ e => e) (sub_lay hl) (upd_ne ne) (hk.cell n c a h1 h2)
theorem HeapOk.un1 (hk : HeapOk K mg (L :: Z) m h H) : HeapOk K mg Z m h H :=
  ⟨hk.len, hk.nd, fun a ha hz => hk.dj a ha (List.mem_cons_of_mem _ hz), fun a ha => hk.ex a (List.mem_cons_of_mem _ ha), fun n c a h1 h2 => CellR.mono (fun _ _ e => e) sub_hide1 rfl (hk.cell n c a h1 h2)⟩
/-- the hidden thing is changed -/
theorem HeapOk.turn1 (hk : HeapOk K mg (L :: Z) m h H) {o : HO} (hZ : L ∉ Z) : HeapOk K mg (L :: Z) m h (upd H L o) ∧ Sub (hide (L :: Z ++ m) H) (hide (L :: Z ++ m) (upd H L o)) := by
  have st : Sub (hide (L :: Z ++ m) H) (hide (L :: Z ++ m) (upd H L o)) := fun a u e => by
    obtain ⟨h1, h2⟩ := hide_some e
    have ne : a ≠ L := fun z => h1 (by rw [z]; exact List.mem_cons_self)
    exact hide_of h1 (by rw [upd_ne ne]; exact h2)
  refine ⟨⟨hk.len, hk.nd, hk.dj, fun a ha => ?_, fun n c a h1 h2 => ?_⟩, st⟩
  · by_cases e : a = L
    · exact ⟨o, by rw [e, upd_same]⟩
    · rw [upd_ne e]; exact hk.ex a ha
  · have ne : a ≠ L := fun z => hk.dj a (List.mem_of_getElem? h2) (by rw [z]; exact List.mem_cons_self)
    exact CellR.mono (fun _ _ e => e) st (upd_ne ne) (hk.cell n c a h1 h2)
/-- the hidden list becomes a cell -/
theorem HeapOk.adopt (hk : HeapOk K mg (L :: Z) m h H) {ds : List D} {vs : List V} (hL : H L = some (.lst vs)) (r : RepL K mg m (hide (L :: Z ++ m) H) ds vs) (hZ : L ∉ Z) : HeapOk K mg Z (m ++ [L]) (h ++ [.lst ds]) H := by
  have eq : hide (Z ++ (m ++ [L])) H = hide (L :: Z ++ m) H := by
    funext a
    unfold hide
    have : a ∈ Z ++ (m ++ [L]) ↔ a ∈ L :: Z ++ m := by
      simp only [List.mem_append, List.mem_cons, List.cons_append, List.mem_singleton, List.not_mem_nil, or_false]
      constructor
      · rintro (z | z | z)
        · exact .inr (.inl z)
        · exact .inr (.inr z)
        · exact .inl z
      · rintro (z | z | z)
        · exact .inr (.inr z)
        · exact .inl z
        · exact .inr (.inl z)
    by_cases z : a ∈ L :: Z ++ m
    · rw [if_pos z, if_pos (this.mpr z)]
    · rw [if_neg z, if_neg fun q => z (this.mp q)]
  have nm : L ∉ m := fun z => hk.dj L z List.mem_cons_self
  have pre : ∀ (n : Nat) a, m[n]? = some a → (m ++ [L])[n]? = some a := fun n a e => by rw [List.getElem?_append_left (List.getElem?_eq_some_iff.mp e).1]; exact e
  refine ⟨by rw [List.length_append, List.length_append, hk.len]; rfl, ?_, fun a ha => ?_, fun a ha => hk.ex a (List.mem_cons_of_mem _ ha), fun n c a h1 h2 => ?_⟩
  · rw [List.nodup_append]
    exact ⟨hk.nd, by simp, fun a ha b hb e => nm (by simp at hb; rw [← hb, ← e]; exact ha)⟩
  · rcases List.mem_append.mp ha with z | z
    · exact fun z' => hk.dj a z (List.mem_cons_of_mem _ z')
    · have e : a = L := by simpa using z
      rw [e]; exact hZ
  · rw [eq]
    by_cases hn : n < m.length
    · rw [List.getElem?_append_left hn] at h2
      rw [List.getElem?_append_left (by rw [← hk.len]; exact hn)] at h1
      exact CellR.mono pre Sub.refl rfl (hk.cell n c a h1 h2)
    · have e : n = m.length := by
        have := (List.getElem?_eq_some_iff.mp h2).1
        simp at this
        omega
      subst e
      simp at h2
      rw [hk.len] at h1
      simp at h1
      subst h1 h2
      exact ⟨vs, hL, RepL.mono pre Sub.refl _ _ r⟩
end
abbrev WF : WX := fun _ _ _ _ => False
theorem bind_assoc {α β γ : Type} (x : M α) (f : α → M β) (g : β → M γ) (h : CH) : M.bind (M.bind x f) g h = M.bind x (fun a => M.bind (f a) g) h := by
  unfold M.bind
  cases x h <;> rfl
theorem bind_congr {α β : Type} {x y : M α} {k : α → M β} {h : CH} (e : x h = y h) : M.bind x k h = M.bind y k h := by unfold M.bind; rw [e]
theorem bind_ok {α β : Type} {x : M α} {k : α → M β} {h h1 : CH} {a : α} (e : x h = .ok a h1) : M.bind x k h = k a h1 := by unfold M.bind; rw [e]
theorem bind_exc {α β : Type} {x : M α} {k : α → M β} {h h1 : CH} {c : Str} (e : x h = .exc c h1) : M.bind x k h = .exc c h1 := by unfold M.bind; rw [e]
theorem bind_bad {α β : Type} {x : M α} {k : α → M β} {h : CH} (e : x h = .bad) : M.bind x k h = .bad := by unfold M.bind; rw [e]
theorem lcT_noexc {g : GD} {b : BD} {f : ED} {ρ : Env} {d : D} {h h' : CH} {c : Str} : lcT g b f ρ d h ≠ .exc c h' := fun e => by
  unfold lcT at e
  split at e
  · cases e
  · split at e
    · split at e <;> cases e
    · cases e
    · cases e
theorem lcL_noexc {g : GD} {b : BD} {f : ED} {ρ : Env} : ∀ {ds : List D} {h h' : CH} {c : Str}, lcL g b f ρ ds h ≠ .exc c h'
  | [], h, h', c, e => by cases e
  | d :: ds, h, h', c, e => by
    unfold lcL M.bind at e
    cases e1 : lcT g b f ρ d h with
    | exc _ _ => exact lcT_noexc e1
    | bad => rw [e1] at e; cases e
    | ok o h1 =>
      rw [e1] at e
      dsimp only at e
      cases e2 : lcL g b f ρ ds h1 with
      | exc _ _ => exact lcL_noexc e2
      | bad => rw [e2] at e; cases e
      | ok xs h2 => rw [e2] at e; cases e
theorem lcX_noexc {o : Option Nat} {all : List D} {g : GD} {b : BD} {f : ED} {ρ : Env} : ∀ {ds : List D} {h h' : CH} {c : Str}, lcX o all g b f ρ ds h ≠ .exc c h' := by
  cases o with
  | none => exact lcL_noexc
  | some n =>
    intro ds
    show ∀ {h h' : CH} {c : Str}, lcC n all g b f ρ ds h ≠ .exc c h'
    induction ds with
    | nil =>
      intro h h' c e
      unfold lcC at e
      split at e <;> cases e
    | cons d ds ih =>
      intro h h' c e
      unfold lcC at e
      split at e
      · unfold M.bind at e
        cases e1 : lcT g b f ρ d h with
        | exc _ _ => exact lcT_noexc e1
        | bad => rw [e1] at e; cases e
        | ok o h1 =>
          rw [e1] at e
          dsimp only at e
          cases e2 : lcC n all g b f ρ ds h1 with
          | exc _ _ => exact ih e2
          | bad => rw [e2] at e; cases e
          | ok xs h2 => rw [e2] at e; cases e
      · cases e
theorem lcX_nil {o : Option Nat} {all : List D} {g : GD} {b : BD} {f : ED} {ρ : Env} {α : Type} {k : List D → M α} {h : CH} (e : M.bind (lcX o all g b f ρ []) k h ≠ .bad) : gd o all h ∧ M.bind (lcX o all g b f ρ []) k h = k [] h := by
  cases o with
  | none => exact ⟨trivial, rfl⟩
  | some n =>
    unfold lcX M.bind at e ⊢
    dsimp only at e ⊢
    unfold lcC at e ⊢
    by_cases hn : h[n]? = some (.lst all)
    · rw [if_pos hn]; exact ⟨hn, rfl⟩
    · rw [if_neg hn] at e; exact absurd rfl e
theorem lcX_cons {o : Option Nat} {all : List D} {g : GD} {b : BD} {f : ED} {ρ : Env} {α : Type} {k : List D → M α} {h : CH} {d : D} {ds : List D} (e : M.bind (lcX o all g b f ρ (d :: ds)) k h ≠ .bad) :
    gd o all h ∧ M.bind (lcX o all g b f ρ (d :: ds)) k h = M.bind (lcT g b f ρ d) (fun y => M.bind (lcX o all g b f ρ ds) fun xs => k (y.toList ++ xs)) h := by
  have step : ∀ r : M (List D), M.bind (M.bind (lcT g b f ρ d) fun y => M.bind r fun xs => M.pure (y.toList ++ xs)) k h = M.bind (lcT g b f ρ d) (fun y => M.bind r fun xs => k (y.toList ++ xs)) h := fun r => by
    rw [bind_assoc]
    unfold M.bind
    cases lcT g b f ρ d h with
    | ok y h1 =>
      dsimp only
      cases r h1 <;> rfl
    | _ => rfl
  cases o with
  | none => exact ⟨trivial, step _⟩
  | some n =>
    by_cases hn : h[n]? = some (.lst all)
    · refine ⟨hn, ?_⟩
      have e2 : lcX (some n) all g b f ρ (d :: ds) h = M.bind (lcT g b f ρ d) (fun o => M.bind (lcC n all g b f ρ ds) fun xs => M.pure (o.toList ++ xs)) h := by
        exact if_pos hn
      rw [← step]
      exact bind_congr e2
    · exfalso
      apply e
      have e2 : lcX (some n) all g b f ρ (d :: ds) h = .bad := if_neg hn
      exact bind_bad e2
theorem not_bad {α β : Type} {K : PySem.W.Frag} {mg : Str → Option Value} {rel : List Addr → Hp → α → β → Prop} {W : WX} {σ : L2.St} {Z m : List Addr} {H : Hp} {r : R α} {Q : β → Hp → Prop} (p : PostG K mg rel W σ Z m H r Q) : r ≠ .bad := fun e => by rw [e] at p; exact p
/-- how a comprehension's list is handed on -/
def FinOk (fin : List D → M D) : Prop := fin = lcEnd ∨ fin = lcEndC
theorem fin_len {fin : List D → M D} (hf : FinOk fin) {xs : List D} {h : CH} (e : fin xs h ≠ .bad) : xs.length ≤ sizeLine := by
  rcases hf with rfl | rfl
  · unfold lcEnd at e
    split at e
    · assumption
    · exact absurd rfl e
  · unfold lcEndC at e
    split at e
    · assumption
    · exact absurd rfl e
section
variable {X : Cx} {W : WX}
theorem lc_den {it : ITD} {g : GD} {b : BD} {f : ED} {vs is : List Nat} {fin : List D → M D} (hf : FinOk fin) (his : ∀ i ∈ is, i ∈ vs) {K : PySem.W.Frag} {mg : Str → Option Value} {σ : L2.St} {H : Hp} {Q : VK} (h : tD K mg W (eLc fin it g b f vs) σ H Q) :
    tLc (tDI K mg W it) (tDG K mg is g) (tDB K mg WF b) (tD K mg WF f) vs σ H Q := by
  obtain ⟨Z, m, ρ, c, at', p⟩ := h
  refine ⟨Z, m, ρ, c, at', ?_⟩
  unfold eLc at p
  cases e1 : it ρ c with
  | bad => rw [bind_bad e1] at p; exact p.elim
  | exc _ _ => rw [bind_exc e1] at p; exact p
  | ok r h1 =>
    obtain ⟨ds, o⟩ := r
    rw [bind_ok e1] at p
    dsimp only at p ⊢
    intro J m1 H1 ex1 hk1 wk L hL
    have p1 := PostG.from ex1 p
    have hZ : L ∉ Z := fun z => hk1.out hL (List.mem_append_left _ z)
    refine ⟨fun i k H2 => k = ds.length - i ∧ i ≤ ds.length ∧ ∃ m2 h2 acc vs', Ext Z m1 H1 m2 H2 ∧ HeapOk K mg (L :: Z) m2 h2 H2 ∧ Sub (hide (Z ++ m1) H1) (hide (L :: Z ++ m2) H2) ∧ H2 L = some (.lst vs') ∧ RepL K mg m2 (hide (L :: Z ++ m2) H2) acc vs' ∧
      REnv K mg m2 (hide (L :: Z ++ m2) H2) (wipeE ρ vs) (L2.wipe σ vs) ∧ PostG K mg (Rep K mg) W σ Z m1 H1 (M.bind (lcX o ds g b f (wipeE ρ vs) (ds.drop i)) (fun xs => fin (acc ++ xs)) h2) Q, ⟨ds.length, rfl, Nat.zero_le _, m1, h1, [], [], ?_, hk1.lay1 hL, sub_lay hL, upd_same, RepL.nil, ?_, ?_⟩, ?_⟩
    · exact Ext.laid hk1 hL
    · exact REnv.wipe (REnv.mono (fun _ _ e => e) (sub_lay hL) _ _ (ex1.env at'.en)) vs
    · exact p1
    · rintro i k H2 ⟨rfl, hi, m2, h2, acc, vs', ex2, hk2, st2, hL2, ra, en2, p2⟩
      by_cases hlt : i < ds.length
      · right
        rw [List.drop_eq_getElem_cons hlt] at p2
        obtain ⟨gd2, e2⟩ := lcX_cons (not_bad p2)
        rw [e2] at p2
        have hd : ds[i]? = some ds[i] := List.getElem?_eq_getElem hlt
        obtain ⟨go, yl⟩ := wk.go (L :: Z) m2 h2 H2 i _ ex2.pre st2 hk2 gd2 hd
        generalize hdd : ds[i] = d at p2 yl
        refine ⟨go, fun H5 => i + 1 ≤ ds.length ∧ ∃ m2 h2 acc vs', Ext Z m1 H1 m2 H5 ∧ HeapOk K mg (L :: Z) m2 h2 H5 ∧ Sub (hide (Z ++ m1) H1) (hide (L :: Z ++ m2) H5) ∧ H5 L = some (.lst vs') ∧ RepL K mg m2 (hide (L :: Z ++ m2) H5) acc vs' ∧
          REnv K mg m2 (hide (L :: Z ++ m2) H5) (wipeE ρ vs) (L2.wipe σ vs) ∧ PostG K mg (Rep K mg) W σ Z m1 H1 (M.bind (lcX o ds g b f (wipeE ρ vs) (ds.drop (i + 1))) (fun xs => fin (acc ++ xs)) h2) Q, fun H5 q => ⟨ds.length - (i + 1), by omega, rfl, q⟩, fun x H3 y => ?_⟩
        obtain ⟨rfl, rx⟩ := yl x H3 y
        -- the turn of d
        have p2' := not_bad p2
        unfold M.bind lcT at p2 p2'
        cases eg : g d (wipeE ρ vs) with
        | none => rw [eg] at p2'; exact absurd rfl p2'
        | some ρ1 =>
          rw [eg] at p2 p2'
          dsimp only at p2 p2'
          refine ⟨L :: Z, m2, wipeE ρ vs, h2, d, ρ1, ⟨hk2, en2⟩, rx, eg, fun σ2 en3 kept => ⟨(kept vs his).trans (wipe_sub fun _ z => z), ?_⟩⟩
          -- along the block: the hidden list stays
          have along : ∀ {m3 H4}, Ext (L :: Z) m2 H3 m3 H4 → Ext Z m1 H1 m3 H4 ∧ Sub (hide (Z ++ m1) H1) (hide (L :: Z ++ m3) H4) ∧ H4 L = some (.lst vs') := fun {m3 H4} ex => by
            have st3 := st2.trans ex.st
            refine ⟨⟨fun n a q => ex.pre n a (ex2.pre n a q), st3.trans sub_hide1, fun a ha => (ex.zs a (List.mem_cons_of_mem _ ha)).trans (ex2.zs a ha)⟩, st3, ?_⟩
            rw [ex.zs L List.mem_cons_self]; exact hL2
          refine ⟨L :: Z, m2, ρ1, h2, ⟨hk2, en3⟩, ?_⟩
          cases eb : b ρ1 h2 with
          | bad => rw [eb] at p2'; exact absurd rfl p2'
          | exc _ _ => rw [eb] at p2'; exact absurd rfl p2'
          | ok kk h3 =>
            intro kk' m3 H4 ex3 hk3 ek
            subst ek
            rw [eb] at p2 p2'
            obtain ⟨a1, a2, a3⟩ := along ex3
            cases kk' with
            | false =>
              rw [if_neg Bool.false_ne_true]
              exact ⟨hlt, m3, h3, acc, vs', a1, hk3, a2, a3, ex3.repL ra, ex3.env en2, p2⟩
            | true =>
              rw [if_pos rfl]
              dsimp only at p2 p2'
              refine ⟨L :: Z, m3, ρ1, h3, ⟨hk3, ex3.env en3⟩, ?_⟩
              cases ef : f ρ1 h3 with
              | bad => rw [ef] at p2'; exact absurd rfl p2'
              | exc _ _ => rw [ef] at p2'; exact absurd rfl p2'
              | ok x4 h4 =>
                intro y4 m4 H5 ex4 hk4 r4
                rw [ef] at p2 p2'
                have ex34 := ex3.trans ex4
                obtain ⟨b1, b2, b3⟩ := along ex34
                have ra4 := ex34.repL ra
                have p3 : PostG K mg (Rep K mg) W σ Z m1 H1 (M.bind (lcX o ds g b f (wipeE ρ vs) (ds.drop (i + 1))) (fun xs => fin ((acc ++ [x4]) ++ xs)) h4) Q := by
                  have q : PostG K mg (Rep K mg) W σ Z m1 H1 (M.bind (lcX o ds g b f (wipeE ρ vs) (ds.drop (i + 1))) (fun xs => fin (acc ++ ([x4] ++ xs))) h4) Q := p2
                  simpa only [List.append_assoc] using q
                have hlen : acc.length < sizeLine := by
                  have nb := not_bad p3
                  unfold M.bind at nb
                  cases ex5 : lcX o ds g b f (wipeE ρ vs) (ds.drop (i + 1)) h4 with
                  | bad => rw [ex5] at nb; exact absurd rfl nb
                  | exc _ _ => exact absurd ex5 lcX_noexc
                  | ok xs h5 =>
                    rw [ex5] at nb
                    have := fin_len hf nb
                    rw [List.length_append, List.length_append, List.length_singleton] at this
                    omega
                obtain ⟨t1, t2⟩ := hk4.turn1 (o := .lst (vs' ++ [y4])) hZ
                refine ⟨vs', b3, by rw [ra4.length]; exact hlen, hlt, m4, h4, acc ++ [x4], vs' ++ [y4], ?_, t1, b2.trans t2, upd_same, RepL.mono (fun _ _ e => e) t2 _ _ (ra4.append (RepL.one r4)), REnv.mono (fun _ _ e => e) t2 _ _ (ex34.env en2), p3⟩
                refine ⟨b1.pre, fun a u e => ?_, fun a ha => ?_⟩
                · have q := (b2.trans t2) a u e
                  exact sub_hide1 _ _ q
                · rw [upd_ne (fun z => hZ (by rw [← z]; exact ha))]; exact b1.zs a ha
      · left
        have e : i = ds.length := by omega
        subst e
        rw [List.drop_length] at p2
        obtain ⟨gd2, e2⟩ := lcX_nil (not_bad p2)
        rw [e2, List.append_nil] at p2
        refine ⟨wk.stop (L :: Z) m2 h2 H2 ex2.pre st2 hk2 gd2, ?_⟩
        have hLm : L ∉ Z ++ m2 := fun z => by
          rcases List.mem_append.mp z with z | z
          · exact hZ z
          · exact hk2.dj L z List.mem_cons_self
        rcases hf with rfl | rfl
        · unfold lcEnd at p2
          split at p2
          · refine p2 (.ref L) m2 H2 ex2 hk2.un1 ?_
            unfold Rep
            exact ⟨L, vs', rfl, hide_of hLm hL2, RepL.mono (fun _ _ e => e) sub_hide1 _ _ ra⟩
          · exact p2.elim
        · unfold lcEndC at p2
          split at p2
          · refine p2 (.ref L) (m2 ++ [L]) H2 ⟨fun n a q => ?_, fun a u q => ?_, ex2.zs⟩ (hk2.adopt hL2 ra hZ) ?_
            · rw [List.getElem?_append_left (List.getElem?_eq_some_iff.mp (ex2.pre n a q)).1]; exact ex2.pre n a q
            · obtain ⟨q1, q2⟩ := hide_some (st2 a u q)
              refine hide_of (fun z => q1 ?_) q2
              rcases List.mem_append.mp z with z | z
              · exact List.mem_append_left _ (List.mem_cons_of_mem _ z)
              · rcases List.mem_append.mp z with z | z
                · exact List.mem_append_right _ z
                · have e : a = L := by simpa using z
                  rw [e]; exact List.mem_append_left _ List.mem_cons_self
            · unfold Rep
              exact ⟨L, by rw [← hk2.len]; simp, rfl⟩
          · exact p2.elim
theorem sl_yes : PTs X [] (tDB X.K X.mg W bYes) := ⟨fun pins s σ H Q I ⟨Z, m, ρ, h, at', p⟩ => pts_nil.run pins s σ H Q I (p true m H Ext.refl at'.hk rfl)⟩
theorem sl_one {c : Expr} {b : BD} (h : PT X c (tDB X.K X.mg W b)) : PTs X [c] (tDB X.K X.mg W b) := pts_one h
theorem se_lc {elt tg iter : Expr} {ifs : List Expr} {scope : Scope} {own : List (Str × Nat)} {pos : Pos} {it : ITD} {g : GD} {is : List Nat} {b : BD} {f : ED} {fin : List D → M D} {vs : List Nat} (hf : FinOk fin) (hc : X.calm = true) (hN : X.N.Nodup) (hi : PI X tg iter (tDI X.K X.mg W it)) (ok : BlkOk X.N X.env.scope scope own)
    (hg : ∀ (s : Shared) (H : Hp) (C : Addr) (cl : List (Str × Addr)) (fp : List Addr), PG (X.blk s H scope (compEnvC scope cl C X.env) fp) tg (tDG X.K X.mg is g)) (ht : ∀ (s : Shared) (H : Hp) (C : Addr) (cl : List (Str × Addr)) (fp : List Addr), PTs (X.blk s H scope (compEnvC scope cl C X.env) fp) ifs (tDB X.K X.mg WF b))
    (he : ∀ (s : Shared) (H : Hp) (C : Addr) (cl : List (Str × Addr)) (fp : List Addr), PE (X.blk s H scope (compEnvC scope cl C X.env) fp) elt (tD X.K X.mg WF f)) (his : ∀ i ∈ is, i ∈ own.map (·.2)) (hv : own.map (·.2) = vs := by rfl) (hs : ∀ x, foldedSetIterable iter X.env x = pure x := by intro _; rfl) :
    PE X (.ListComp elt [⟨tg, iter, ifs, 0⟩] scope pos) (tD X.K X.mg W (eLc fin it g b f vs)) :=
  by
  subst hv
  exact pick fun σ H Q h => ⟨_, pe_lc hc hN hi ok hg ht he hs, lc_den hf his h⟩
theorem ss_setLc {i : Nat} {y : Str} {py : Pos} {elt tg iter : Expr} {ifs : List Expr} {scope : Scope} {own : List (Str × Nat)} {pos spos : Pos} {it : ITD} {g : GD} {is : List Nat} {b : BD} {f : ED} {fin : List D → M D} {vs : List Nat} (hf : FinOk fin) (hc : X.calm = true) (hN : X.N.Nodup) (hy : X.N[i]? = some y) (hyl : X.env.scope.names.lookup y = some .local)
    (hsw : swapsWith (.ListComp elt [⟨tg, iter, ifs, 0⟩] scope pos) (some (.Name y py)) spos.line X.env = pure true) (hi : PI X tg iter (tDI X.K X.mg W it)) (ok : BlkOk X.N X.env.scope scope own)
    (hg : ∀ (s : Shared) (H : Hp) (C : Addr) (cl : List (Str × Addr)) (fp : List Addr), PG (X.blk s H scope (compEnvC scope cl C X.env) fp) tg (tDG X.K X.mg is g)) (ht : ∀ (s : Shared) (H : Hp) (C : Addr) (cl : List (Str × Addr)) (fp : List Addr), PTs (X.blk s H scope (compEnvC scope cl C X.env) fp) ifs (tDB X.K X.mg WF b))
    (he : ∀ (s : Shared) (H : Hp) (C : Addr) (cl : List (Str × Addr)) (fp : List Addr), PE (X.blk s H scope (compEnvC scope cl C X.env) fp) elt (tD X.K X.mg WF f)) (his : ∀ i ∈ is, i ∈ own.map (·.2)) (hv : own.map (·.2) = vs := by rfl) (hs : ∀ x, foldedSetIterable iter X.env x = pure x := by intro _; rfl) :
    PS X (.Assign [.Name y py] (.ListComp elt [⟨tg, iter, ifs, 0⟩] scope pos) spos) (tDS X.K X.mg W (sAsg (eLc fin it g b f vs) (gN i))) :=
  by
  subst hv
  exact pickS fun σ H E ⟨Z, m, ρ, h, at', p⟩ => ⟨_, ps_setLc hc hN hy hyl hsw hi ok hg ht he hs, lc_den hf his ⟨Z, m, ρ, h, at', (PostS.ofE at' p).imp fun v H' ⟨d, m', h', ex, at2, r, q⟩ => by
    exact q _ m' H' Ext.refl at2.hk (REnv.set r i at2.en)⟩⟩
end
end FK

/-! part: FK8 -/
set_option Elab.async false
set_option linter.all false
set_option maxRecDepth 100000
set_option maxHeartbeats 4000000
/-! FK8: defs and their calls. -/
namespace FK
open PySem PySem.Spec L2
open PyProof.Rows (envOfC)

abbrev FD := List D → M D
/-- a def: np parameters, N slots -/
def fnD (N : Nat) (body : SD) : FD := fun ds h => match body (ds.map some ++ List.replicate (N - ds.length) none) h with
  | .ok (.rt d) _ h' => .ok d h'
  | .ok .nx _ h' => .ok .non h'
  | .ok _ _ _ => .bad
  | .exc c _ h' => .exc c h'
  | .bad => .bad
abbrev WE (E : XK) : WX := fun c d _ H => E c d H
def spF (K : PySem.W.Frag) (mg : Str → Option Value) (n : Nat) (F : FD) : Sp := fun vs H Q E => ∃ Z m h ds, HeapOk K mg Z m h H ∧ RepL K mg m (hide (Z ++ m) H) ds vs ∧ ds.length = n ∧ Post K mg (WE E) [] Z m H (F ds h) Q
section
variable {P : Program} {w : World} {K : PySem.W.Frag} {mg : Str → Option Value} {base : Heap}
theorem fn_ok {x qual : Str} {st : Stmt} {f : Addr} {fd : FuncData} {N ps : List Str} {k : Nat} {body : SD} (F : Fun K x qual st f fd) (S : FnScope N ps (defScope st))
    (hbody : ∀ (cdv : Value) (A : Around) (outer : List PySem.Env) (s : Shared) (H : Hp) (E : XK), Room k (A.deeper (envOfC qual (defScope st) s.heap.objs.size f cdv)) →
      PSs (cxOf (L2.CX P w) P w K mg base N qual (defScope st) f cdv A outer s H E) (defBody st) (tDS K mg (WE E) body)) : FnOk P w K mg base (L2.CX P w) (k + 1) f fd ps (spF K mg ps.length (fnD N.length body)) := by
  refine F.okX S (fun vs H Q E ⟨Z, m, h, ds, hk, r, e, p⟩ => r.length.trans e) (fun cdv A outer s H vs Q E hr ⟨Z, m, h, ds, hk, r, e, p⟩ => ⟨_, hbody cdv A outer s H E hr, Z, m, ds.map some ++ List.replicate (N.length - vs.length) none, h, ⟨hk, ?_⟩, ?_⟩)
  · exact REnv.start (ds := ds) (N.length - vs.length) r
  · unfold fnD at p
    rw [r.length]
    cases q : body (ds.map some ++ List.replicate (N.length - ds.length) none) h with
    | ok fl ρ' h' =>
      rw [q] at p
      cases fl with
      | rt d => exact p
      | nx => exact fun σ' m' H' ex hk' en => p _ m' H' ex hk' mk_non
      | bk => exact p.elim
      | ct => exact p.elim
    | exc c ρ' h' => rw [q] at p; exact fun σ' m' H' cls ex hk' en hc => p m' H' cls ex hk' hc
    | bad => rw [q] at p; exact p
end

/-! ### no cells in a datum; cells made data -/
mutual
def D.nr : D → Bool
  | .tup xs => D.nrL xs
  | .lst xs => D.nrL xs
  | .scr xs => D.nrL xs
  | .obj _ _ xs => D.nrL xs
  | .ref _ => false
  | _ => true
def D.nrL : List D → Bool
  | [] => true
  | d :: ds => D.nr d && D.nrL ds
end
mutual
/-- texts, numbers, tuples alone -/
def D.flat : D → Bool
  | .tup xs => D.flatL xs
  | .lst _ => false
  | .scr _ => false
  | .obj _ _ _ => false
  | .ref _ => false
  | _ => true
def D.flatL : List D → Bool
  | [] => true
  | d :: ds => D.flat d && D.flatL ds
end
def mapO {α β : Type} (f : α → Option β) : List α → Option (List β)
  | [] => some []
  | a :: r => match f a, mapO f r with
    | some b, some s => some (b :: s)
    | _, _ => none
def fzF : Nat → CH → D → Option D
  | 0, _, _ => none
  | n + 1, h, d => if d.nr = true then some d else match d with
    | .tup xs => (mapO (fzF n h) xs).map .tup
    | .lst xs => (mapO (fzF n h) xs).map .lst
    | .obj c ns xs => (mapO (fzF n h) xs).map (.obj c ns)
    | .ref k => match h[k]? with
      | some (.lst xs) => (mapO (fzF n h) xs).map .lst
      | some (.ins c ns xs) => (mapO (fzF n h) xs).map (.obj c ns)
      | none => none
    | _ => none
/-- a datum with its cells' contents in it -/
def fz (h : CH) (d : D) : Option D := fzF 12 h d
section
variable {K : PySem.W.Frag} {mg : Str → Option Value} {Z m m' : List Addr} {S S' H : Hp} {h : CH}
mutual
theorem Rep.nr (hs : Sub S S') : ∀ (d : D) (v : V), Rep K mg m S d v → d.nr = true → Rep K mg m' S' d v
  | .non, v, h, _ => by simpa [Rep] using h
  | .bl b, v, h, _ => by simpa [Rep] using h
  | .int b, v, h, _ => by simpa [Rep] using h
  | .str b, v, h, _ => by simpa [Rep] using h
  | .tup xs, v, h, q => by
    unfold Rep at h ⊢
    obtain ⟨a, vs, e, g, r⟩ := h
    exact ⟨a, vs, e, hs.sqt g, RepL.nr hs xs vs r (by simpa [D.nr] using q)⟩
  | .lst xs, v, h, q => by
    unfold Rep at h ⊢
    obtain ⟨a, vs, e, g, r⟩ := h
    exact ⟨a, vs, e, hs _ _ g, RepL.nr hs xs vs r (by simpa [D.nr] using q)⟩
  | .scr xs, v, h, q => by
    unfold Rep at h ⊢
    obtain ⟨a, vs, e, g, r⟩ := h
    exact ⟨a, vs, e, hs.sql g, RepL.nr hs xs vs r (by simpa [D.nr] using q)⟩
  | .obj c ns xs, v, h, q => by
    unfold Rep at h ⊢
    obtain ⟨a, C, dx, fs, e, g, e2, e3, r⟩ := h
    exact ⟨a, C, dx, fs, e, hs _ _ g, e2, e3, RepL.nr hs xs _ r (by simpa [D.nr] using q)⟩
  | .ref n, v, h, q => by simp [D.nr] at q
theorem RepL.nr (hs : Sub S S') : ∀ (ds : List D) (vs : List V), RepL K mg m S ds vs → D.nrL ds = true → RepL K mg m' S' ds vs
  | [], vs, h, _ => by rw [h.of_nil]; exact RepL.nil
  | d :: ds, vs, h, q => by
    obtain ⟨v, r, rfl, a, b⟩ := h.of_cons
    have q' : d.nr = true ∧ D.nrL ds = true := by simpa [D.nrL] using q
    exact RepL.cons (Rep.nr hs d v a q'.1) (RepL.nr hs ds r b q'.2)
end
mutual
theorem D.nr_flat : ∀ d : D, d.flat = true → d.nr = true
  | .non, _ => rfl
  | .bl _, _ => rfl
  | .int _, _ => rfl
  | .str _, _ => rfl
  | .tup xs, h => by
    show D.nrL xs = true
    exact D.nrL_flat xs (by simpa [D.flat] using h)
  | .lst _, h => by simp [D.flat] at h
  | .scr _, h => by simp [D.flat] at h
  | .obj _ _ _, h => by simp [D.flat] at h
  | .ref _, h => by simp [D.flat] at h
theorem D.nrL_flat : ∀ ds : List D, D.flatL ds = true → D.nrL ds = true
  | [], _ => rfl
  | d :: ds, h => by
    have h' : d.flat = true ∧ D.flatL ds = true := by simpa [D.flatL] using h
    show (D.nr d && D.nrL ds) = true
    rw [D.nr_flat d h'.1, D.nrL_flat ds h'.2]
    rfl
end
/-- tuples of S are tuples of S' -/
def SubT (K : PySem.W.Frag) (S S' : Hp) : Prop := ∀ a xs, SqT K S a xs → SqT K S' a xs
mutual
theorem Rep.flat (hs : SubT K S S') : ∀ (d : D) (v : V), Rep K mg m S d v → d.flat = true → Rep K mg m' S' d v
  | .non, v, h, _ => by simpa [Rep] using h
  | .bl b, v, h, _ => by simpa [Rep] using h
  | .int b, v, h, _ => by simpa [Rep] using h
  | .str b, v, h, _ => by simpa [Rep] using h
  | .tup xs, v, h, q => by
    unfold Rep at h ⊢
    obtain ⟨a, vs, e, g, r⟩ := h
    exact ⟨a, vs, e, hs _ _ g, RepL.flat hs xs vs r (by simpa [D.flat] using q)⟩
  | .lst xs, v, h, q => by simp [D.flat] at q
  | .scr xs, v, h, q => by simp [D.flat] at q
  | .obj c ns xs, v, h, q => by simp [D.flat] at q
  | .ref n, v, h, q => by simp [D.flat] at q
theorem RepL.flat (hs : SubT K S S') : ∀ (ds : List D) (vs : List V), RepL K mg m S ds vs → D.flatL ds = true → RepL K mg m' S' ds vs
  | [], vs, h, _ => by rw [h.of_nil]; exact RepL.nil
  | d :: ds, vs, h, q => by
    obtain ⟨v, r, rfl, a, b⟩ := h.of_cons
    have q' : d.flat = true ∧ D.flatL ds = true := by simpa [D.flatL] using q
    exact RepL.cons (Rep.flat hs d v a q'.1) (RepL.flat hs ds r b q'.2)
end
theorem sub_out (hk : HeapOk K mg Z m h H) : Sub (hide (Z ++ m) H) (hide Z H) := fun a o e => by
  obtain ⟨h1, h2⟩ := hide_some e
  exact hide_of (fun z => h1 (List.mem_append_left _ z)) h2
theorem mapO_rep {n : Nat} {f : D → Option D} (hf : ∀ d v d', f d = some d' → Rep K mg m S d v → Rep K mg m' S' d' v ∧ d'.nr = true) : ∀ {ds ds' : List D} {vs : List V}, mapO f ds = some ds' → RepL K mg m S ds vs → RepL K mg m' S' ds' vs ∧ D.nrL ds' = true
  | [], ds', vs, e, r => by
    cases e
    rw [r.of_nil]
    exact ⟨RepL.nil, rfl⟩
  | d :: ds, ds', vs, e, r => by
    unfold mapO at e
    cases e1 : f d with
    | none => rw [e1] at e; cases e
    | some b =>
      cases e2 : mapO f ds with
      | none => rw [e1, e2] at e; cases e
      | some s =>
        rw [e1, e2] at e
        cases e
        obtain ⟨v, t, rfl, ra, rb⟩ := r.of_cons
        obtain ⟨g1, g2⟩ := hf d v b e1 ra
        obtain ⟨g3, g4⟩ := mapO_rep (n := n) hf e2 rb
        exact ⟨RepL.cons g1 g3, by show (D.nr b && D.nrL s) = true; rw [g2, g4]; rfl⟩
theorem fzF_rep (hk : HeapOk K mg Z m h H) : ∀ (n : Nat) (d : D) (v : V) (d' : D), fzF n h d = some d' → Rep K mg m (hide (Z ++ m) H) d v → Rep K mg m' (hide Z H) d' v ∧ d'.nr = true
  | 0, d, v, d', e, _ => by cases e
  | n + 1, d, v, d', e, r => by
    have ih := fun d v d' => fzF_rep hk n d v d'
    have st := sub_out hk
    unfold fzF at e
    split at e
    · rename_i hn
      cases e
      exact ⟨Rep.nr st _ v r hn, hn⟩
    · cases d with
      | tup xs =>
        dsimp only at e
        cases e1 : mapO (fzF n h) xs with
        | none => rw [e1] at e; cases e
        | some ys =>
          rw [e1] at e
          cases e
          unfold Rep at r
          obtain ⟨a, vs, rfl, g, rr⟩ := r
          obtain ⟨g1, g2⟩ := mapO_rep (n := n) (fun d v d' q r => ih d v d' q r) e1 rr
          refine ⟨?_, g2⟩
          unfold Rep
          exact ⟨a, vs, rfl, st.sqt g, g1⟩
      | lst xs =>
        dsimp only at e
        cases e1 : mapO (fzF n h) xs with
        | none => rw [e1] at e; cases e
        | some ys =>
          rw [e1] at e
          cases e
          unfold Rep at r
          obtain ⟨a, vs, rfl, g, rr⟩ := r
          obtain ⟨g1, g2⟩ := mapO_rep (n := n) (fun d v d' q r => ih d v d' q r) e1 rr
          refine ⟨?_, g2⟩
          unfold Rep
          exact ⟨a, vs, rfl, st _ _ g, g1⟩
      | obj c ns xs =>
        dsimp only at e
        cases e1 : mapO (fzF n h) xs with
        | none => rw [e1] at e; cases e
        | some ys =>
          rw [e1] at e
          cases e
          unfold Rep at r
          obtain ⟨a, C, dx, fs, rfl, g, e2, e3, rr⟩ := r
          obtain ⟨g1, g2⟩ := mapO_rep (n := n) (fun d v d' q r => ih d v d' q r) e1 rr
          refine ⟨?_, g2⟩
          unfold Rep
          exact ⟨a, C, dx, fs, rfl, st _ _ g, e2, e3, g1⟩
      | ref k =>
        dsimp only at e
        unfold Rep at r
        obtain ⟨a, hm, rfl⟩ := r
        have nz : a ∉ Z := hk.dj a (List.mem_of_getElem? hm)
        cases ec : h[k]? with
        | none => rw [ec] at e; cases e
        | some c =>
          rw [ec] at e
          have cr := hk.cell k c a ec hm
          cases c with
          | lst xs =>
            dsimp only at e
            cases e1 : mapO (fzF n h) xs with
            | none => rw [e1] at e; cases e
            | some ys =>
              rw [e1] at e
              cases e
              obtain ⟨vs, h1, h2⟩ := cr
              obtain ⟨g1, g2⟩ := mapO_rep (n := n) (fun d v d' q r => ih d v d' q r) e1 h2
              refine ⟨?_, g2⟩
              unfold Rep
              exact ⟨a, vs, rfl, hide_of nz h1, g1⟩
          | ins c ns xs =>
            dsimp only at e
            cases e1 : mapO (fzF n h) xs with
            | none => rw [e1] at e; cases e
            | some ys =>
              rw [e1] at e
              cases e
              obtain ⟨C, dx, fs, h1, e2, e3, h4⟩ := cr
              obtain ⟨g1, g2⟩ := mapO_rep (n := n) (fun d v d' q r => ih d v d' q r) e1 h4
              refine ⟨?_, g2⟩
              unfold Rep
              exact ⟨a, C, dx, fs, rfl, hide_of nz h1, e2, e3, g1⟩
      | _ => cases e
theorem fz_rep (hk : HeapOk K mg Z m h H) {d : D} {v : V} {d' : D} (e : fz h d = some d') (r : Rep K mg m (hide (Z ++ m) H) d v) : Rep K mg m' (hide Z H) d' v ∧ d'.nr = true := fzF_rep hk 12 d v d' e r
theorem HeapOk.empty (hex : ∀ a ∈ Z, ∃ o, H a = some o) : HeapOk K mg Z [] [] H := ⟨rfl, List.nodup_nil, fun a h => absurd h (by simp), hex, fun n c a h1 h2 => by simp at h2⟩
end

/-! ### calls -/
/-- the callee works on the caller's cells -/
def callH (n : Nat) (F : FD) (ds : List D) : M D := fun h => if ds.length = n then F ds h else .bad
/-- a list or an instance of the callee's own, with plain things in it -/
def own (h : CH) (d : D) : Option D := match d with
  | .ref k => match h[k]? with
    | some (.lst xs) => if D.flatL xs = true then some (.lst xs) else none
    | some (.ins c ns xs) => if D.flatL xs = true then some (.obj c ns xs) else none
    | none => none
  | _ => none
/-- the callee has cells of its own; it sees the caller's as they are -/
def callP (n : Nat) (F : FD) (ds : List D) : M D := fun h =>
  if ds.length = n then
    (if D.nrL ds = true then
      (match F ds [] with
        | .ok d h' => match fz h' d with
          | some d' => .ok d' h
          | none => .bad
        | .exc c _ => .exc c h
        | .bad => .bad)
    else match mapO (fz h) ds with
      | some es => (match F es [] with
        | .ok d h' => if d.flat = true then .ok d h else (match own h' d with
          | some d' => .ok d' h
          | none => .bad)
        | .exc c _ => .exc c h
        | .bad => .bad)
      | none => .bad)
  else .bad
/-- .. and a list that it made becomes a cell of the caller -/
def callN (n : Nat) (F : FD) (ds : List D) : M D := fun h =>
  if ds.length = n ∧ D.nrL ds = true then
    (match F ds [] with
      | .ok (.ref k) h' => (match h'[k]? with
        | some (.lst xs) => if D.nrL xs = true then .ok (.ref h.length) (h ++ [.lst xs]) else .bad
        | _ => .bad)
      | .exc c _ => .exc c h
      | _ => .bad)
  else .bad
section
variable {K : PySem.W.Frag} {mg : Str → Option Value} {Z m : List Addr} {H : Hp} {h : CH} {W : WX} {σ : L2.St} {Q : VK} {n : Nat} {F : FD} {ds : List D} {vs : List V}
theorem callH_sp (hk : HeapOk K mg Z m h H) (r : RepL K mg m (hide (Z ++ m) H) ds vs) (p : Post K mg W σ Z m H (callH n F ds h) Q) : spF K mg n F vs H Q (fun c d H' => W c d σ H') := by
  unfold callH at p
  split at p
  · rename_i hn
    refine ⟨Z, m, h, ds, hk, r, hn, ?_⟩
    cases e : F ds h with
    | ok d h1 => rw [e] at p; exact p
    | exc c h1 => rw [e] at p; exact p
    | bad => rw [e] at p; exact p
  · exact p.elim
theorem callP_sp (hk : HeapOk K mg Z m h H) (r : RepL K mg m (hide (Z ++ m) H) ds vs) (p : Post K mg W σ Z m H (callP n F ds h) Q) : spF K mg n F vs H Q (fun c d H' => W c d σ H') := by
  unfold callP at p
  split at p
  · rename_i hn
    split at p
    · rename_i hnr
      have eqz : hide ((Z ++ m) ++ []) H = hide (Z ++ m) H := by rw [List.append_nil]
      refine ⟨Z ++ m, [], [], ds, HeapOk.empty fun a ha => hk.there ha, by rw [eqz]; exact RepL.nr Sub.refl ds vs r hnr, hn, ?_⟩
      -- behind the callee
      have back : ∀ {m2 H2}, Ext (Z ++ m) [] H m2 H2 → Ext Z m H m H2 ∧ HeapOk K mg Z m h H2 := fun {m2 H2} ex => by
        have st : Sub (hide (Z ++ m) H) (hide (Z ++ m) H2) := fun a o e => by
          have q := ex.st a o (by rw [eqz]; exact e)
          obtain ⟨q1, q2⟩ := hide_some q
          exact hide_of (fun z => q1 (List.mem_append_left _ z)) q2
        refine ⟨⟨fun _ _ e => e, st, fun a ha => ex.zs a (List.mem_append_left _ ha)⟩, hk.len, hk.nd, hk.dj, fun a ha => by rw [ex.zs a (List.mem_append_left _ ha)]; exact hk.ex a ha, fun k c a h1 h2 => ?_⟩
        exact CellR.mono (fun _ _ e => e) st (ex.zs a (List.mem_append_right _ (List.mem_of_getElem? h2))) (hk.cell k c a h1 h2)
      cases e : F ds [] with
      | ok d hc =>
        rw [e] at p
        dsimp only at p
        intro v m2 H2 ex hk2 r2
        obtain ⟨b1, b2⟩ := back ex
        cases e2 : fz hc d with
        | none => rw [e2] at p; exact p.elim
        | some d' =>
          rw [e2] at p
          obtain ⟨q1, q2⟩ := fz_rep (m' := m) hk2 e2 r2
          exact p v m H2 b1 b2 q1
      | exc c hc =>
        rw [e] at p
        intro m2 H2 cls ex hk2 hcls
        obtain ⟨b1, b2⟩ := back ex
        exact p m H2 cls b1 b2 hcls
      | bad => rw [e] at p; exact p
    · split at p
      · rename_i es hes
        have eqz : hide (Z ++ []) H = hide Z H := by rw [List.append_nil]
        obtain ⟨g1, g2⟩ := mapO_rep (n := 0) (m' := []) (S' := hide Z H) (fun d v d' q r => fz_rep hk q r) hes r
        have elen : es.length = ds.length := by rw [← g1.length, r.length]
        refine ⟨Z, [], [], es, HeapOk.empty hk.ex, by rw [eqz]; exact g1, elen.trans hn, ?_⟩
        have back : ∀ {m2 h2 H2}, Ext Z [] H m2 H2 → HeapOk K mg Z m2 h2 H2 → Ext Z m H m H2 ∧ HeapOk K mg Z m h H2 ∧ SubT K (hide (Z ++ m2) H2) (hide (Z ++ m) H2) := fun {m2 h2 H2} ex hk2 => by
          have old : ∀ a o, a ∉ Z → H a = some o → H2 a = some o := fun a o nz e => (hide_some (ex.st a o (by rw [eqz]; exact hide_of nz e))).2
          have st : Sub (hide (Z ++ m) H) (hide (Z ++ m) H2) := fun a o e => by
            obtain ⟨q1, q2⟩ := hide_some e
            exact hide_of q1 (old a o (fun z => q1 (List.mem_append_left _ z)) q2)
          have cells : ∀ a ∈ m, H2 a = H a := fun a ha => by
            obtain ⟨o, e⟩ := hk.there (List.mem_append_right Z ha)
            rw [old a o (hk.dj a ha) e, e]
          have hkm : HeapOk K mg Z m h H2 := ⟨hk.len, hk.nd, hk.dj, fun a ha => by rw [ex.zs a ha]; exact hk.ex a ha, fun k c a h1 h2 => CellR.mono (fun _ _ e => e) st (cells a (List.mem_of_getElem? h2)) (hk.cell k c a h1 h2)⟩
          refine ⟨⟨fun _ _ e => e, st, ex.zs⟩, hkm, fun a xs q => ?_⟩
          have nm : ∀ {u : HO}, hide (Z ++ m2) H2 a = some u → (∀ ys, u ≠ .lst ys) → (∀ C dx fs, u ≠ .ins C dx fs) → hide (Z ++ m) H2 a = some u := fun {u} e n1 n2 => by
            obtain ⟨q1, q2⟩ := hide_some e
            refine hide_of (fun z => ?_) q2
            rcases List.mem_append.mp z with z | z
            · exact q1 (List.mem_append_left _ z)
            · obtain ⟨k, hk', ek⟩ := List.mem_iff_getElem.mp z
              have hc : k < h.length := by rw [← hk.len]; exact hk'
              have cr := hkm.cell k _ a (List.getElem?_eq_getElem hc) (by rw [List.getElem?_eq_getElem hk', ek])
              generalize h[k] = c at cr
              cases c with
              | lst xs => obtain ⟨vs, g, _⟩ := cr; rw [q2] at g; cases g; exact n1 _ rfl
              | ins c ns xs => obtain ⟨_, _, _, g, _⟩ := cr; rw [q2] at g; cases g; exact n2 _ _ _ rfl
          rcases q with (q | ⟨o, q⟩) | q
          · exact .inl (.inl (nm q (fun _ z => by cases z) fun _ _ _ z => by cases z))
          · exact .inl (.inr ⟨o, nm q (fun _ z => by cases z) fun _ _ _ z => by cases z⟩)
          · exact .inr q
        cases e : F es [] with
        | ok d hc =>
          rw [e] at p
          dsimp only at p
          intro v m2 H2 ex hk2 r2
          obtain ⟨b1, b2, b3⟩ := back ex hk2
          split at p
          · rename_i hfl
            exact p v m H2 b1 b2 (Rep.flat b3 d v r2 hfl)
          · have fresh : ∀ a, a ∈ m2 → a ∉ Z ++ m := fun a ha z => by
              rcases List.mem_append.mp z with z | z
              · exact hk2.dj a ha z
              · obtain ⟨o, e⟩ := hk.there (List.mem_append_right Z z)
                have q := ex.st a o (by rw [eqz]; exact hide_of (hk.dj a z) e)
                exact (hide_some q).1 (List.mem_append_right _ ha)
            cases eo : own hc d with
            | none => rw [eo] at p; exact p.elim
            | some d' =>
              rw [eo] at p
              refine p v m H2 b1 b2 ?_
              unfold own at eo
              split at eo
              · rename_i k hnf
                unfold Rep at r2
                obtain ⟨a, hm, rfl⟩ := r2
                have hma := List.mem_of_getElem? hm
                split at eo
                · rename_i xs hx
                  split at eo
                  · rename_i hfx
                    cases eo
                    obtain ⟨vs, h1, h2⟩ := hk2.cell k _ a hx hm
                    unfold Rep
                    exact ⟨a, vs, rfl, hide_of (fresh a hma) h1, RepL.flat b3 xs vs h2 hfx⟩
                  · cases eo
                · rename_i c ns xs hx
                  split at eo
                  · rename_i hfx
                    cases eo
                    obtain ⟨C, dx, fs, h1, e2, e3, h4⟩ := hk2.cell k _ a hx hm
                    unfold Rep
                    exact ⟨a, C, dx, fs, rfl, hide_of (fresh a hma) h1, e2, e3, RepL.flat b3 xs _ h4 hfx⟩
                  · cases eo
                · cases eo
              · cases eo
        | exc c hc =>
          rw [e] at p
          intro m2 H2 cls ex hk2 hcls
          obtain ⟨b1, b2, _⟩ := back ex hk2
          exact p m H2 cls b1 b2 hcls
        | bad => rw [e] at p; exact p
      · exact p.elim
  · exact p.elim
theorem callN_sp (hk : HeapOk K mg Z m h H) (r : RepL K mg m (hide (Z ++ m) H) ds vs) (p : Post K mg W σ Z m H (callN n F ds h) Q) : spF K mg n F vs H Q (fun c d H' => W c d σ H') := by
  unfold callN at p
  split at p
  · rename_i hn
    obtain ⟨hn, hnr⟩ := hn
    have eqz : hide ((Z ++ m) ++ []) H = hide (Z ++ m) H := by rw [List.append_nil]
    refine ⟨Z ++ m, [], [], ds, HeapOk.empty fun a ha => hk.there ha, by rw [eqz]; exact RepL.nr Sub.refl ds vs r hnr, hn, ?_⟩
    have st0 : ∀ {m2 H2}, Ext (Z ++ m) [] H m2 H2 → Sub (hide (Z ++ m) H) (hide ((Z ++ m) ++ m2) H2) := fun {m2 H2} ex a o e => ex.st a o (by rw [eqz]; exact e)
    cases e : F ds [] with
    | ok d hc =>
      rw [e] at p
      intro v m2 H2 ex hk2 r2
      split at p
      · rename_i k hh he
        cases he
        split at p
        · rename_i xs hx
          split at p
          · rename_i hnx
            unfold Rep at r2
            obtain ⟨a, hm, rfl⟩ := r2
            have hma := List.mem_of_getElem? hm
            have hza : a ∉ Z ++ m := hk2.dj a hma
            have sub1 : Sub (hide ((Z ++ m) ++ m2) H2) (hide (Z ++ (m ++ [a])) H2) := fun b o e => by
              obtain ⟨q1, q2⟩ := hide_some e
              refine hide_of (fun z => q1 ?_) q2
              rcases List.mem_append.mp z with z | z
              · exact List.mem_append_left _ (List.mem_append_left _ z)
              · rcases List.mem_append.mp z with z | z
                · exact List.mem_append_left _ (List.mem_append_right _ z)
                · rw [List.mem_singleton.mp z]; exact List.mem_append_right _ hma
            have sub2 : Sub (hide (Z ++ m) H) (hide (Z ++ (m ++ [a])) H2) := (st0 ex).trans sub1
            have pre : ∀ (n : Nat) b, m[n]? = some b → (m ++ [a])[n]? = some b := fun n b e => by
              obtain ⟨q, _⟩ := List.getElem?_eq_some_iff.mp e
              rw [List.getElem?_append_left q]; exact e
            refine p (.ref a) (m ++ [a]) H2 ⟨pre, sub2, fun b hb => ex.zs b (List.mem_append_left _ hb)⟩ ⟨by simp [hk.len], ?_, fun b hb z => ?_, fun b hb => by rw [ex.zs b (List.mem_append_left _ hb)]; exact hk.ex b hb, fun j c b h1 h2 => ?_⟩ ?_
            · refine List.nodup_append.mpr ⟨hk.nd, by simp, fun x hx y hy => ?_⟩
              rw [List.mem_singleton.mp hy]
              intro z
              subst z
              exact hza (List.mem_append_right _ hx)
            · rcases List.mem_append.mp hb with q | q
              · exact hk.dj b q z
              · rw [List.mem_singleton.mp q] at z; exact hza (List.mem_append_left _ z)
            · by_cases hj : j < m.length
              · rw [List.getElem?_append_left hj] at h2
                rw [List.getElem?_append_left (by rw [← hk.len]; exact hj)] at h1
                exact CellR.mono pre sub2 (ex.zs b (List.mem_append_right _ (List.mem_of_getElem? h2))) (hk.cell j c b h1 h2)
              · have hj2 : j = m.length := by
                  obtain ⟨q, _⟩ := List.getElem?_eq_some_iff.mp h2
                  simp at q
                  omega
                subst hj2
                rw [List.getElem?_append_right (Nat.le_refl _), Nat.sub_self] at h2
                rw [hk.len, List.getElem?_append_right (Nat.le_refl _), Nat.sub_self] at h1
                cases h1
                cases h2
                obtain ⟨ws, g1, g2⟩ := hk2.cell k _ a hx hm
                exact ⟨ws, g1, RepL.nr sub1 xs ws g2 hnx⟩
            · unfold Rep
              exact ⟨a, by rw [← hk.len, List.getElem?_append_right (Nat.le_refl _), Nat.sub_self]; rfl, rfl⟩
          · exact p.elim
        · exact p.elim
      · rename_i he; cases he
      · exact p.elim
    | exc c hc =>
      rw [e] at p
      intro m2 H2 cls ex hk2 hcls
      have st : Sub (hide (Z ++ m) H) (hide (Z ++ m) H2) := fun a o e => by
        obtain ⟨q1, q2⟩ := hide_some (st0 ex a o e)
        exact hide_of (fun z => q1 (List.mem_append_left _ z)) q2
      exact p m H2 cls ⟨fun _ _ e => e, st, fun a ha => ex.zs a (List.mem_append_left _ ha)⟩ ⟨hk.len, hk.nd, hk.dj, fun a ha => by rw [ex.zs a (List.mem_append_left _ ha)]; exact hk.ex a ha, fun k c a h1 h2 => CellR.mono (fun _ _ e => e) st (ex.zs a (List.mem_append_right _ (List.mem_of_getElem? h2))) (hk.cell k c a h1 h2)⟩ hcls
    | bad => rw [e] at p; exact p
  · exact p.elim
end
/-- how a call is made: callH, callP or callN -/
def CallOk (c : Nat → FD → List D → M D) : Prop := c = callH ∨ c = callP ∨ c = callN
theorem call_sp {c : Nat → FD → List D → M D} (hc : CallOk c) {K : PySem.W.Frag} {mg : Str → Option Value} {Z m : List Addr} {H : Hp} {h : CH} {W : WX} {σ : L2.St} {Q : VK} {n : Nat} {F : FD} {ds : List D} {vs : List V} (hk : HeapOk K mg Z m h H) (r : RepL K mg m (hide (Z ++ m) H) ds vs)
    (p : Post K mg W σ Z m H (c n F ds h) Q) : spF K mg n F vs H Q (fun c d H' => W c d σ H') := by
  rcases hc with rfl | rfl | rfl
  · exact callH_sp hk r p
  · exact callP_sp hk r p
  · exact callN_sp hk r p
/-- denL with the slots kept -/
theorem denS {W : WX} {fs : AD} {r : List V → Hp → Prop} {op : List D → M D} {K : PySem.W.Frag} {mg : Str → Option Value} {σ : L2.St} {H : Hp} {Q : VK} (h : tD K mg W (eCall op fs) σ H Q)
    (hr : ∀ vs H1, (∃ Z m h ds, HeapOk K mg Z m h H1 ∧ RepL K mg m (hide (Z ++ m) H1) ds vs ∧ Post K mg W σ Z m H1 (op ds h) Q) → r vs H1) : tDL K mg W fs σ H (fun vs H1 => r vs H1) := by
  obtain ⟨Z, m, ρ, c, at', p⟩ := h
  exact ⟨Z, m, ρ, c, at', (PostG.bind p).imp fun v H' ⟨d, m', h', ex, hk, rp, _, q⟩ => hr _ _ ⟨Z, m', h', d, hk, rp, q⟩⟩
section
variable {X : Cx} {W : WX} {x : Str} {p pos : Pos} {e : Expr} {es : List Expr} {fs : AD} {f : Addr} {fd : FuncData} {ps : List Str} {k n : Nat} {F : FD} {c : Nat → FD → List D → M D}
theorem se_fn (hc : CallOk c) (tk : Takes X W) (G : FnOk X.prog X.w X.K X.mg X.base (L2.CX X.prog X.w) k f fd ps (spF X.K X.mg n F)) (hr : Room k X.A) (hg : Gl X x) (hm : X.mg x = some (.ref f)) (hk : PySem.W.keepIn X.K (.ref f) = true) (hb : Binds X.K fd ps [])
    (ha : PA X (e :: es) (tDL X.K X.mg W fs)) (hdb : (x == ("__debug__" : Str)) = false := by decide) (he : starEach (e :: es) X.env = (false, eval e X.env) :: starEach es X.env := by rfl) (hpl : (backTo pos (starEach es X.env)).any (·.1) = false := by rfl) :
    PE X (.Call (.Name x p) (e :: es) [] pos) (tD X.K X.mg W (eCall (c n F) fs)) :=
  pick fun σ H Q h => ⟨_, pe_callSD (E := fun σ => L2.WE W σ) G hr hg hm hk hb .nil (fun σ => passAt tk σ) ha hdb he hpl, denS h fun vs H1 ⟨Z, m, c', ds, hk', r, p⟩ => by
    rw [List.append_nil]
    exact call_sp hc hk' r p⟩
end
end FK

/-! part: FK9 -/
set_option Elab.async false
set_option linter.all false
set_option maxRecDepth 100000
set_option maxHeartbeats 4000000
/-! FK9: methods of lists and texts, what is left of the built-ins, the law's end. -/
namespace FK
open PySem PySem.Spec L2

section
variable {K : PySem.W.Frag} {mg : Str → Option Value} {Z m : List Addr} {H : Hp} {h : CH}
theorem nodup_at {α : Type} : ∀ {l : List α} {i j : Nat} {x : α}, l.Nodup → l[i]? = some x → l[j]? = some x → i = j := fun {l i j x} hN a b => L2.nd_ix hN a b
/-- a cell is changed -/
theorem Ext.setc (hk : HeapOk K mg Z m h H) {n : Nat} {a : Addr} {o : HO} (hm : m[n]? = some a) : Ext Z m H m (upd H a o) := by
  have ha : a ∈ Z ++ m := List.mem_append_right _ (List.mem_of_getElem? hm)
  refine ⟨fun _ _ e => e, fun b u e => ?_, fun b hb => upd_ne fun z => ?_⟩
  · obtain ⟨h1, h2⟩ := hide_some e
    exact hide_of h1 (by rw [upd_ne fun z => h1 (by rw [z]; exact ha)]; exact h2)
  · subst z
    exact hk.dj b (List.mem_of_getElem? hm) hb
theorem HeapOk.setc (hk : HeapOk K mg Z m h H) {n : Nat} {a : Addr} {o : HO} {c : Cell} (hm : m[n]? = some a) (hc : CellR K mg m (hide (Z ++ m) (upd H a o)) (upd H a o) a c) : HeapOk K mg Z m (h.set n c) (upd H a o) := by
  have ex := Ext.setc (o := o) hk hm
  refine ⟨by rw [List.length_set]; exact hk.len, hk.nd, hk.dj, fun b hb => by rw [ex.zs b hb]; exact hk.ex b hb, fun k c' b h1 h2 => ?_⟩
  by_cases e : k = n
  · subst e
    rw [hm] at h2
    cases h2
    have hlt : k < h.length := by rw [← hk.len]; exact (List.getElem?_eq_some_iff.mp hm).1
    rw [List.getElem?_set_self hlt] at h1
    cases h1
    exact hc
  · rw [List.getElem?_set_ne (Ne.symm e)] at h1
    have ne : b ≠ a := fun z => e (nodup_at hk.nd (by rw [← z]; exact h2) hm)
    exact CellR.mono ex.pre ex.st (upd_ne ne) (hk.cell k c' b h1 h2)
end

/-! ### methods -/
/-- of a text -/
def eMs (op : Str → List D → M D) (f : ED) (fs : AD) : ED := fun ρ => M.bind (f ρ) fun x h => match x with
  | .str a => M.bind (fs ρ) (op a) h
  | _ => .bad
/-- of a list (of a cell, as a rule) -/
def eMl (op : D → List D → M D) (f : ED) (fs : AD) : ED := fun ρ => M.bind (f ρ) fun x h => match vw h x with
  | .lst _ => M.bind (fs ρ) (op x) h
  | _ => .bad
section
variable (K : PySem.W.Frag) (mg : Str → Option Value) (W : WX)
def rMs (op : Str → List D → M D) : V → List V → Hp → VK → Prop := fun vx vs H Q => ∃ Z m h σ a ds, vx = .str a ∧ PyData.strOk a = true ∧ HeapOk K mg Z m h H ∧ RepL K mg m (hide (Z ++ m) H) ds vs ∧ Post K mg W σ Z m H (op a ds h) Q
end
section
variable {X : Cx} {W : WX} {o e : Expr} {es : List Expr} {f : ED} {fs : AD} {name : Str} {apos cpos : Pos} {id : String}
theorem se_ms {op : Str → List D → M D} (slot : Slot "str" name id) (hty : typeOf (.builtin id) = pure (.type "method_descriptor")) (hm : MtR X id (rMs X.K X.mg W op)) (ho : PE X o (tD X.K X.mg W f)) (ha : PA X (e :: es) (tDL X.K X.mg W fs))
    (hbase : attributeBase o name X.env (eval o X.env) = eval o X.env := by rfl)
    (hfew : ((backTo cpos (starEach (e :: es) X.env)).all (fun x => !x.1) && (backToKw cpos (keywordEach [] X.env)).all (fun x => x.1.isSome)
      && decide ((e :: es).length + ([] : List Keyword).length + (if ([] : List Keyword).isEmpty then 0 else 1) < 30)) = true := by rfl)
    (hline : (apos.endLine == cpos.line) = true := by rfl) (hs : starEach (e :: es) X.env = (false, eval e X.env) :: starEach es X.env := by rfl) (hplain : (backTo cpos (starEach es X.env)).any (·.1) = false := by rfl) :
    PE X (.Call (.Attribute o name apos) (e :: es) [] cpos) (tD X.K X.mg W (eMs op f fs)) :=
  pick fun σ H Q ⟨Z, m, ρ, c, at', p⟩ => ⟨_, pe_bm PySem.F.plainAttrs_str slot hty hm ho ha hbase hfew hline hs hplain, by
    refine ⟨Z, m, ρ, c, at', (PostG.bind p).imp fun v H1 ⟨x, m1, h1, ex1, hk1, r1, _, q1⟩ => ?_⟩
    cases x with
    | str a =>
      obtain ⟨rfl, k⟩ := rep_str r1
      refine ⟨rfl, Z, m1, ρ, h1, ⟨hk1, ex1.env at'.en⟩, (PostG.bind q1).imp fun vs H2 ⟨ds, m2, h2, ex2, hk2, r2, _, q2⟩ => ?_⟩
      exact ⟨Z, m2, h2, σ, a, ds, rfl, k, hk2, r2, q2⟩
    | _ => exact q1.elim⟩
theorem se_ml {op : D → List D → M D} (slot : Slot "list" name id) (hty : typeOf (.builtin id) = pure (.type "method_descriptor")) (hm : MtR X id (rDM X.K X.mg W op)) (ho : PE X o (tD X.K X.mg W f)) (ha : PA X (e :: es) (tDL X.K X.mg W fs))
    (hbase : attributeBase o name X.env (eval o X.env) = eval o X.env := by rfl)
    (hfew : ((backTo cpos (starEach (e :: es) X.env)).all (fun x => !x.1) && (backToKw cpos (keywordEach [] X.env)).all (fun x => x.1.isSome)
      && decide ((e :: es).length + ([] : List Keyword).length + (if ([] : List Keyword).isEmpty then 0 else 1) < 30)) = true := by rfl)
    (hline : (apos.endLine == cpos.line) = true := by rfl) (hs : starEach (e :: es) X.env = (false, eval e X.env) :: starEach es X.env := by rfl) (hplain : (backTo cpos (starEach es X.env)).any (·.1) = false := by rfl) :
    PE X (.Call (.Attribute o name apos) (e :: es) [] cpos) (tD X.K X.mg W (eMl op f fs)) :=
  pick fun σ H Q ⟨Z, m, ρ, c, at', p⟩ => ⟨_, pe_bm PySem.F.plainAttrs_list slot hty hm ho ha hbase hfew hline hs hplain, by
    refine ⟨Z, m, ρ, c, at', (PostG.bind p).imp fun v H1 ⟨x, m1, h1, ex1, hk1, r1, _, q1⟩ => ?_⟩
    cases hv : vw h1 x with
    | lst xs =>
      rw [hv] at q1
      obtain ⟨a, vs, rfl, g1, g2⟩ := hk1.rlst r1 hv
      refine ⟨.inl ⟨rfl, vs, SqL.of g1⟩, Z, m1, ρ, h1, ⟨hk1, ex1.env at'.en⟩, (PostG.bind q1).imp fun vs H2 ⟨ds, m2, h2, ex2, hk2, r2, _, q2⟩ => ?_⟩
      exact ⟨Z, m2, h2, σ, x, ds, hk2, ex2.rep r1, r2, q2⟩
    | _ => rw [hv] at q1; exact q1.elim⟩
def dApp (x : D) (ds : List D) : M D := fun h =>
  match x, ds with
  | .ref n, [d] => match h[n]? with
    | some (.lst xs) => if xs.length < sizeLine then .ok .non (h.set n (.lst (xs ++ [d]))) else .bad
    | _ => .bad
  | _, _ => .bad
theorem mt_dApp : MtR X "list.append" (rDM X.K X.mg W dApp) := by
  intro pins s σ H vx vs v us Q I rx rxs ⟨Z, m, h, σ', x, ds, hk, r1, r2, p⟩
  unfold dApp at p
  split at p
  · split at p
    · rename_i hc
      split at p
      · rename_i hz
        unfold Rep at r1
        obtain ⟨a, g1, rfl⟩ := r1
        obtain ⟨vs', g2, g3⟩ := hk.cell _ _ a hc g1
        obtain ⟨y, rfl, ry⟩ := repL_one r2
        refine mt_append pins s σ H _ _ v us Q I rx rxs ⟨a, vs', y, rfl, rfl, g2, by rw [g3.length]; exact hz, ?_⟩
        have ex := Ext.setc (o := .lst (vs' ++ [y])) hk g1
        exact p .non m _ ex (hk.setc g1 ⟨_, upd_same, ex.repL (g3.append (RepL.one ry))⟩) mk_non
      · exact p.elim
    · exact p.elim
  · exact p.elim
/-- xs.append(e) -/
theorem se_app (ho : PE X o (tD X.K X.mg W f)) (ha : PA X (e :: es) (tDL X.K X.mg W fs))
    (hbase : attributeBase o "append" X.env (eval o X.env) = eval o X.env := by rfl)
    (hfew : ((backTo cpos (starEach (e :: es) X.env)).all (fun x => !x.1) && (backToKw cpos (keywordEach [] X.env)).all (fun x => x.1.isSome)
      && decide ((e :: es).length + ([] : List Keyword).length + (if ([] : List Keyword).isEmpty then 0 else 1) < 30)) = true := by rfl)
    (hline : (apos.endLine == cpos.line) = true := by rfl) (hs : starEach (e :: es) X.env = (false, eval e X.env) :: starEach es X.env := by rfl) (hplain : (backTo cpos (starEach es X.env)).any (·.1) = false := by rfl) :
    PE X (.Call (.Attribute o "append" apos) (e :: es) [] cpos) (tD X.K X.mg W (eMl dApp f fs)) :=
  se_ml PySem.F.slot_list_append PySem.F.type_list_append mt_dApp ho ha hbase hfew hline hs hplain
def dRfind (a : Str) (ds : List D) : M D := fun h =>
  match ds with
  | [.str b] => .ok (.int (Txt.rfind a b)) h
  | _ => .bad
theorem mt_dRfind : MtR X "str.rfind" (rMs X.K X.mg W dRfind) := by
  intro pins s σ H vx vs v us Q I rx rxs ⟨Z, m, h, σ', a, ds, ea, ka, hk, r2, p⟩
  unfold dRfind at p
  split at p
  · obtain ⟨y, rfl, ry⟩ := repL_one r2
    obtain ⟨rfl, _⟩ := rep_str ry
    exact mt_rfind pins s σ H _ _ v us Q I rx rxs ⟨a, _, ea, rfl, put_int hk p⟩
  · exact p.elim
theorem se_rfind (ho : PE X o (tD X.K X.mg W f)) (ha : PA X (e :: es) (tDL X.K X.mg W fs))
    (hbase : attributeBase o "rfind" X.env (eval o X.env) = eval o X.env := by rfl)
    (hfew : ((backTo cpos (starEach (e :: es) X.env)).all (fun x => !x.1) && (backToKw cpos (keywordEach [] X.env)).all (fun x => x.1.isSome)
      && decide ((e :: es).length + ([] : List Keyword).length + (if ([] : List Keyword).isEmpty then 0 else 1) < 30)) = true := by rfl)
    (hline : (apos.endLine == cpos.line) = true := by rfl) (hs : starEach (e :: es) X.env = (false, eval e X.env) :: starEach es X.env := by rfl) (hplain : (backTo cpos (starEach es X.env)).any (·.1) = false := by rfl) :
    PE X (.Call (.Attribute o "rfind" apos) (e :: es) [] cpos) (tD X.K X.mg W (eMs dRfind f fs)) :=
  se_ms PySem.F.slot_str_rfind PySem.F.type_str_rfind mt_dRfind ho ha hbase hfew hline hs hplain
def dNeg (d : D) : M D := fun h =>
  match d with
  | .int i => .ok (.int (-i)) h
  | _ => .bad
theorem se_neg {a : Expr} {pos : Pos} (ha : PE X a (tD X.K X.mg W f)) : PE X (.UnaryOp .USub a pos) (tD X.K X.mg W (e1 dNeg f)) :=
  pick fun σ H Q h => ⟨_, pe_un un_neg ha, den1 (r := rU fun i => .int (-i)) h fun v H Q ⟨Z, m, c, σ', x, hk, r, p⟩ => by
    cases x with
    | int i => exact ⟨i, rep_int r, put_int hk p⟩
    | _ => exact p.elim⟩
end

/-! ### room, and the context of a body -/
theorem u60 {A : Around} {k : Nat} (r : Room k A) : A.units + 60 < cLine := by have := r.un; omega
theorem u61 {A : Around} {k : Nat} (r : Room k A) : A.units + 61 < cLine := by have := r.un; omega
theorem u0 {A : Around} {k : Nat} (r : Room k A) : A.units < cLine := r.units0

/-! ### a def where it stands -/
structure DefAt (K : PySem.W.Frag) (mg : Str → Option Value) (x : Str) (st : Stmt) (ps : List Str) (a : Addr) (fd : FuncData) : Prop where
  F : Fun K x x st a fd
  m : mg x = some (.ref a)
  b : Binds K fd ps []
theorem se_def {X : Cx} {W : WX} {x : Str} {p pos : Pos} {e : Expr} {es : List Expr} {fs : AD} {st : Stmt} {f : Addr} {fd : FuncData} {ps : List Str} {k j n : Nat} {F : FD} (c : Nat → FD → List D → M D) (hc : CallOk c) (tk : Takes X W) (d : DefAt X.K X.mg x st ps f fd)
    (G : FnOk X.prog X.w X.K X.mg X.base (L2.CX X.prog X.w) k f fd ps (spF X.K X.mg n F)) (hr : Room j X.A) (ha : PA X (e :: es) (tDL X.K X.mg W fs)) (hkj : k ≤ j := by decide) (hg : Gl X x := by rfl)
    (hdb : (x == ("__debug__" : Str)) = false := by decide) (he : starEach (e :: es) X.env = (false, eval e X.env) :: starEach es X.env := by rfl) (hpl : (backTo pos (starEach es X.env)).any (·.1) = false := by rfl) :
    PE X (.Call (.Name x p) (e :: es) [] pos) (tD X.K X.mg W (eCall (c n F) fs)) :=
  se_fn hc tk G (hr.mono hkj) hg d.m d.F.kp d.b ha hdb he hpl
abbrev scrD (ns : List Int) : D := .scr (ns.map D.int)
theorem repL_scr {K : PySem.W.Frag} {mg : Str → Option Value} {m : List Addr} {S : Hp} : ∀ ns : List Int, RepL K mg m S (ns.map D.int) (ns.map V.int)
  | [] => RepL.nil
  | n :: ns => RepL.cons (mk_int n) (repL_scr ns)
/-- the end of a law: its def gives True at each script -/
theorem law_walk {l : PySem.W.OpenLaw} {k : Nat} {q : Program} {loose : List Str} {XP : (Str → Option Value) → Heap → Prop} {YP : World → Heap → Prop} {d : DefRec} {K : Params → PySem.W.Frag} {x : Str} {F : FD} (hn : l.most = some 63) (hdf : d.params.defaults = []) (hr : Room k callerA)
    (hY : ∀ (w : World) (h : Heap), YP w h → (K w.params).In h)
    (hF : ∀ (w : World) (mg : Str → Option Value) (fa : Addr) (h : Heap), (K w.params).In h → h.Ns mainGlobals mg → mg d.name = some (.ref fa) →
      ∃ fd : FuncData, (∀ (s : Shared) (u : Value), BindsTo s fd ⟨[u], []⟩ [(x, u)]) ∧ ∀ base : Heap, (K w.params).In base → base.Ns mainGlobals mg → FnOk l.prog w (K w.params) mg base (L2.CX l.prog w) k fa fd [x] (spF (K w.params) mg 1 F))
    (hT : ∀ ns : List Int, ns.length ≤ 63 → ∃ h, F [scrD ns] [] = .ok (.bl true) h) :
    PySem.W.WalkO q loose XP YP l.row.toRowW d [] (fun f vs => PySem.call f vs) := by
  refine L2.walk_of (n := 63) (k := k) (x := x) (CX := fun w => L2.CX l.prog w) (sp := fun w vs H Q E => ∃ (a : Addr) (ns : List Int), vs = [.ref a] ∧ SqL (K w.params) H a (ns.map V.int) ∧ ns.length ≤ 63 ∧ ∀ H', Q (.bl true) H') hn (by decide) hdf hr hY (fun w mg fa h k1 k2 k3 => ?_) (fun w H a ns h1 h2 h3 => ⟨a, ns, rfl, h3, h1, fun _ => rfl⟩) (fun w H s e s' c => ?_)
  · obtain ⟨fd, b, G⟩ := hF w mg fa h k1 k2 k3
    refine ⟨fd, b, fun base c1 c2 => (G base c1 c2).imp fun vs H Q E ⟨a, ns, e, hs, hl, hq⟩ => ?_⟩
    subst e
    refine ⟨[], [], [], [scrD ns], HeapOk.empty (fun a h => absurd h (by simp)), RepL.one ?_, rfl, ?_⟩
    · unfold Rep
      refine ⟨a, ns.map V.int, rfl, Sub.sql (fun b o e => ?_) hs, repL_scr ns⟩
      exact hide_of (by simp) e
    · obtain ⟨h', e⟩ := hT ns hl
      rw [e]
      intro v m' H' _ _ r
      rw [rep_bl r]
      exact hq H'
  · obtain ⟨_, _, _, _, _, _, _, _, _, _, _, _, z⟩ := c
    exact z
end FK

/-! part: FKA -/
set_option Elab.async false
set_option linter.all false
set_option maxRecDepth 100000
set_option maxHeartbeats 4000000
/-! FKA: short words for what is built in. -/
namespace FK
open PySem PySem.Spec L2
section
variable {X : Cx} {W : WX} {p pos : Pos} {e : Expr} {es : List Expr} {fs : AD}
theorem sb_len (hm : X.mg "len" = none) (ha : PA X (e :: es) (tDL X.K X.mg W fs)) (hg : Gl X "len" := by rfl) (he : starEach (e :: es) X.env = (false, eval e X.env) :: starEach es X.env := by rfl) (hpl : (backTo pos (starEach es X.env)).any (·.1) = false := by rfl) :
    PE X (.Call (.Name "len" p) (e :: es) [] pos) (tD X.K X.mg W (eCall dLen fs)) := se_callB call_dLen hg hm PySem.boot_len ha (by decide) (by decide) he hpl
theorem sb_ord (hm : X.mg "ord" = none) (ha : PA X (e :: es) (tDL X.K X.mg W fs)) (hg : Gl X "ord" := by rfl) (he : starEach (e :: es) X.env = (false, eval e X.env) :: starEach es X.env := by rfl) (hpl : (backTo pos (starEach es X.env)).any (·.1) = false := by rfl) :
    PE X (.Call (.Name "ord" p) (e :: es) [] pos) (tD X.K X.mg W (eCall dOrd fs)) := se_callB call_dOrd hg hm PyProof.Rows.boot_ord ha (by decide) (by decide) he hpl
theorem sb_max2 (hc : X.calm = true) (hm : X.mg "max" = none) (ha : PA X (e :: es) (tDL X.K X.mg W fs)) (hg : Gl X "max" := by rfl) (he : starEach (e :: es) X.env = (false, eval e X.env) :: starEach es X.env := by rfl) (hpl : (backTo pos (starEach es X.env)).any (·.1) = false := by rfl) :
    PE X (.Call (.Name "max" p) (e :: es) [] pos) (tD X.K X.mg W (eCall dMax2 fs)) := se_callB (call_dMax2 hc) hg hm PyProof.Rows.boot_max ha (by decide) (by decide) he hpl
theorem sb_min2 (hc : X.calm = true) (hm : X.mg "min" = none) (ha : PA X (e :: es) (tDL X.K X.mg W fs)) (hg : Gl X "min" := by rfl) (he : starEach (e :: es) X.env = (false, eval e X.env) :: starEach es X.env := by rfl) (hpl : (backTo pos (starEach es X.env)).any (·.1) = false := by rfl) :
    PE X (.Call (.Name "min" p) (e :: es) [] pos) (tD X.K X.mg W (eCall dMin2 fs)) := se_callB (call_dMin2 hc) hg hm PyProof.Rows.boot_min ha (by decide) (by decide) he hpl
theorem sb_int (hm : X.mg "int" = none) (ha : PA X (e :: es) (tDL X.K X.mg W fs)) (hg : Gl X "int" := by rfl) (he : starEach (e :: es) X.env = (false, eval e X.env) :: starEach es X.env := by rfl) (hpl : (backTo pos (starEach es X.env)).any (·.1) = false := by rfl) :
    PE X (.Call (.Name "int" p) (e :: es) [] pos) (tD X.K X.mg W (eCall dInt fs)) := se_callTy call_dInt hg hm PyProof.Rows.boot_int ha (by decide) (by decide) he hpl
theorem sb_tuple (hm : X.mg "tuple" = none) (ha : PA X (e :: es) (tDL X.K X.mg W fs)) (hg : Gl X "tuple" := by rfl) (he : starEach (e :: es) X.env = (false, eval e X.env) :: starEach es X.env := by rfl) (hpl : (backTo pos (starEach es X.env)).any (·.1) = false := by rfl) :
    PE X (.Call (.Name "tuple" p) (e :: es) [] pos) (tD X.K X.mg W (eCall dTuple fs)) := se_callTy call_dTuple hg hm PyProof.Rows.boot_tuple ha (by decide) (by decide) he hpl
theorem sb_list (hm : X.mg "list" = none) (ha : PA X (e :: es) (tDL X.K X.mg W fs)) (hg : Gl X "list" := by rfl) (he : starEach (e :: es) X.env = (false, eval e X.env) :: starEach es X.env := by rfl) (hpl : (backTo pos (starEach es X.env)).any (·.1) = false := by rfl) :
    PE X (.Call (.Name "list" p) (e :: es) [] pos) (tD X.K X.mg W (eCall dList fs)) := se_callTy call_dList hg hm PyProof.Rows.boot_list ha (by decide) (by decide) he hpl
theorem sb_listC (hm : X.mg "list" = none) (ha : PA X (e :: es) (tDL X.K X.mg W fs)) (hg : Gl X "list" := by rfl) (he : starEach (e :: es) X.env = (false, eval e X.env) :: starEach es X.env := by rfl) (hpl : (backTo pos (starEach es X.env)).any (·.1) = false := by rfl) :
    PE X (.Call (.Name "list" p) (e :: es) [] pos) (tD X.K X.mg W (eCall dListC fs)) := se_callTy call_dListC hg hm PyProof.Rows.boot_list ha (by decide) (by decide) he hpl
end
end FK

/-! part: FKB -/
set_option Elab.async false
set_option linter.all false
set_option maxRecDepth 100000
set_option maxHeartbeats 4000000
/-! FKB: module constants; join, split; all, any; str of an int. -/
namespace FK
open PySem PySem.Spec L2
/-- a name of the module -/
theorem se_globI {X : Cx} {W : WX} {x : Str} {i : Int} {pos : Pos} (hm : ∃ t, X.mg x = some (.int i t)) (hg : Gl X x := by rfl) (hd : (x == ("__debug__" : Str)) = false := by decide) : PE X (.Name x pos) (tD X.K X.mg W (eC (.int i))) :=
  pick fun σ H Q h => ⟨_, pe_glob (v := .int i) hg hm.choose_spec ⟨hm.choose, rfl⟩ hd, by
    obtain ⟨Z, m, ρ, c, at', p⟩ := h
    exact put_int at'.hk p⟩
theorem se_globB {X : Cx} {W : WX} {x : Str} {i : Bool} {pos : Pos} (hm : X.mg x = some (.bool i)) (hg : Gl X x := by rfl) (hd : (x == ("__debug__" : Str)) = false := by decide) : PE X (.Name x pos) (tD X.K X.mg W (eC (.bl i))) :=
  pick fun σ H Q h => ⟨_, pe_glob (v := .bl i) hg hm rfl hd, by
    obtain ⟨Z, m, ρ, c, at', p⟩ := h
    exact put_bl at'.hk p⟩
def strsD : List D → Option (List Str)
  | [] => some []
  | .str x :: r => (strsD r).map (x :: ·)
  | _ => none
def blsD : List D → Option (List Bool)
  | [] => some []
  | .bl x :: r => (blsD r).map (x :: ·)
  | _ => none
section
variable {K : PySem.W.Frag} {mg : Str → Option Value} {m : List Addr} {S : Hp}
theorem repL_strs : ∀ {ds : List D} {vs : List V} {ys : List Str}, strsD ds = some ys → RepL K mg m S ds vs → vs = ys.map V.str ∧ ∀ y ∈ ys, PyData.strOk y = true
  | [], vs, ys, e, r => by cases e; rw [RepL.of_nil r]; exact ⟨rfl, fun y h => by cases h⟩
  | d :: ds, vs, ys, e, r => by
    obtain ⟨v, us, rfl, r1, r2⟩ := RepL.of_cons r
    cases d with
    | str x =>
      unfold strsD at e
      cases e' : strsD ds with
      | none => rw [e'] at e; cases e
      | some zs =>
        rw [e'] at e
        cases e
        obtain ⟨rfl, o⟩ := repL_strs e' r2
        obtain ⟨rfl, o1⟩ := rep_str r1
        exact ⟨rfl, fun y h => by
          rcases List.mem_cons.mp h with rfl | h
          · exact o1
          · exact o y h⟩
    | _ => cases e
theorem repL_bls : ∀ {ds : List D} {vs : List V} {ys : List Bool}, blsD ds = some ys → RepL K mg m S ds vs → vs = ys.map V.bl
  | [], vs, ys, e, r => by cases e; rw [RepL.of_nil r]; rfl
  | d :: ds, vs, ys, e, r => by
    obtain ⟨v, us, rfl, r1, r2⟩ := RepL.of_cons r
    cases d with
    | bl x =>
      unfold blsD at e
      cases e' : blsD ds with
      | none => rw [e'] at e; cases e
      | some zs =>
        rw [e'] at e
        cases e
        rw [repL_bls e' r2, rep_bl r1]
        rfl
    | _ => cases e
theorem repL_mkStrs : ∀ {ys : List Str}, (∀ y ∈ ys, PyData.strOk y = true) → RepL K mg m S (ys.map D.str) (ys.map V.str)
  | [], _ => RepL.nil
  | y :: ys, h => RepL.cons (mk_str (h y List.mem_cons_self)) (repL_mkStrs fun z hz => h z (List.mem_cons_of_mem _ hz))
end
theorem join_mem {a : Str} : ∀ {ys : List Str} {c : Nat}, c ∈ (Str.join a ys).cps.toList → c ∈ a.cps.toList ∨ ∃ y ∈ ys, c ∈ y.cps.toList
  | [], c, h => by
    exfalso
    have : (Str.join a []).cps.toList = [] := rfl
    rw [this] at h
    cases h
  | [y], c, h => .inr ⟨y, List.mem_cons_self, h⟩
  | y :: z :: ys, c, h => by
    have e : (Str.join a (y :: z :: ys)).cps.toList = y.cps.toList ++ a.cps.toList ++ (Str.join a (z :: ys)).cps.toList := by
      show ((y.cps ++ a.cps) ++ (Str.join a (z :: ys)).cps).toList = _
      rw [Array.toList_append, Array.toList_append]
    rw [e] at h
    rcases List.mem_append.mp h with h | h
    · rcases List.mem_append.mp h with h | h
      · exact .inr ⟨y, List.mem_cons_self, h⟩
      · exact .inl h
    · rcases join_mem h with h | ⟨w, hw, h⟩
      · exact .inl h
      · exact .inr ⟨w, List.mem_cons_of_mem _ hw, h⟩
theorem mem_join {a : Str} : ∀ {ys : List Str} {y : Str} {c : Nat}, y ∈ ys → c ∈ y.cps.toList → c ∈ (Str.join a ys).cps.toList
  | [y], _, c, h, hc => by
    rw [List.mem_singleton.mp h] at hc
    exact hc
  | y :: z :: ys, w, c, h, hc => by
    have e : (Str.join a (y :: z :: ys)).cps.toList = y.cps.toList ++ a.cps.toList ++ (Str.join a (z :: ys)).cps.toList := by
      show ((y.cps ++ a.cps) ++ (Str.join a (z :: ys)).cps).toList = _
      rw [Array.toList_append, Array.toList_append]
    rw [e]
    rcases List.mem_cons.mp h with rfl | h
    · exact List.mem_append_left _ (List.mem_append_left _ hc)
    · exact List.mem_append_right _ (mem_join h hc)
theorem ok_join {a : Str} {ys : List Str} (ha : PyData.strOk a = true) (hy : ∀ y ∈ ys, PyData.strOk y = true) : PyData.strOk (Txt.join a ys) = true := by
  rw [TL.join_eq]
  refine ok_iff.mpr fun c h => ?_
  rcases join_mem h with h | ⟨y, hm, h⟩
  · exact ok_iff.mp ha c h
  · exact ok_iff.mp (hy y hm) c h
theorem ok_split {a b : Str} (ha : PyData.strOk a = true) : ∀ y ∈ Txt.split a b, PyData.strOk y = true := fun y hy => by
  refine ok_iff.mpr fun c h => ok_iff.mp ha c ?_
  have := mem_join (a := b) hy h
  rwa [StrLaws.join_split] at this
def dJoin (a : Str) (ds : List D) : M D := fun h =>
  match ds with
  | [d] => match seq h d with
    | some xs => match strsD xs with
      | some ys => if (ys.map (·.length)).sum + ys.length * a.length ≤ 16777216 then .ok (.str (Txt.join a ys)) h else .bad
      | none => .bad
    | none => .bad
  | _ => .bad
def dSplit (a : Str) (ds : List D) : M D := fun h =>
  match ds with
  | [.str b] => if (b.length == 0) = false ∧ a.length + 2 ≤ sizeLine then .ok (.lst ((Txt.split a b).map D.str)) h else .bad
  | _ => .bad
def dAll (ds : List D) : M D := fun h =>
  match ds with
  | [d] => match lstOf h d with
    | some xs => match blsD xs with
      | some bs => .ok (.bl (bs.all id)) h
      | none => .bad
    | none => .bad
  | _ => .bad
def dAny (ds : List D) : M D := fun h =>
  match ds with
  | [d] => match lstOf h d with
    | some xs => match blsD xs with
      | some bs => .ok (.bl (bs.any id)) h
      | none => .bad
    | none => .bad
  | _ => .bad
section
variable {X : Cx} {W : WX}
theorem mt_dJoin : MtR X "str.join" (rMs X.K X.mg W dJoin) := by
  intro pins s σ H vx vs v us Q I rx rxs ⟨Z, m, h, σ', a, ds, ea, ka, hk, r2, p⟩
  unfold dJoin at p
  split at p
  · rename_i d
    obtain ⟨y, rfl, ry⟩ := repL_one r2
    split at p
    · rename_i xs ex
      obtain ⟨a', vs', rfl, g1, g2⟩ := hk.rseq ry ex
      split at p
      · rename_i ys ey
        obtain ⟨rfl, o⟩ := repL_strs ey g2
        split at p
        · rename_i hz
          exact mt_join pins s σ H _ _ v us Q I rx rxs ⟨a, a', ys, ea, rfl, g1, hz, put_str hk (ok_join ka o) p⟩
        · exact p.elim
      · exact p.elim
    · exact p.elim
  · exact p.elim
theorem mt_dSplit : MtR X "str.split" (rMs X.K X.mg W dSplit) := by
  intro pins s σ H vx vs v us Q I rx rxs ⟨Z, m, h, σ', a, ds, ea, ka, hk, r2, p⟩
  unfold dSplit at p
  split at p
  · rename_i b
    obtain ⟨y, rfl, ry⟩ := repL_one r2
    obtain ⟨rfl, _⟩ := rep_str ry
    split at p
    · rename_i hz
      exact mt_split pins s σ H _ _ v us Q I rx rxs ⟨a, b, ea, rfl, hz.1, hz.2, put_lst hk (repL_mkStrs (ok_split ka)) p⟩
    · exact p.elim
  · exact p.elim
theorem call_dAll (hc : X.calm = true) : CallR X (.builtin "all") (rDL X.K X.mg W dAll) := by
  intro pins s σ H vs us Q I r ⟨Z, m, h, σ', ds, hk, r2, p⟩
  unfold dAll at p
  split at p
  · rename_i d
    obtain ⟨y, rfl, ry⟩ := repL_one r2
    split at p
    · rename_i xs ex
      obtain ⟨a, vs', rfl, g1, g2⟩ := hk.rlstOf ry ex
      split at p
      · rename_i bs eb
        obtain rfl := repL_bls eb g2
        exact cr_all hc pins s σ H _ us Q I r ⟨a, bs, rfl, SqL.of g1, put_bl hk p⟩
      · exact p.elim
    · exact p.elim
  · exact p.elim
theorem call_dAny (hc : X.calm = true) : CallR X (.builtin "any") (rDL X.K X.mg W dAny) := by
  intro pins s σ H vs us Q I r ⟨Z, m, h, σ', ds, hk, r2, p⟩
  unfold dAny at p
  split at p
  · rename_i d
    obtain ⟨y, rfl, ry⟩ := repL_one r2
    split at p
    · rename_i xs ex
      obtain ⟨a, vs', rfl, g1, g2⟩ := hk.rlstOf ry ex
      split at p
      · rename_i bs eb
        obtain rfl := repL_bls eb g2
        exact cr_any hc pins s σ H _ us Q I r ⟨a, bs, rfl, SqL.of g1, put_bl hk p⟩
      · exact p.elim
    · exact p.elim
  · exact p.elim
theorem ok_ofString (s : String) : PyData.strOk (Str.ofString s) = true := by
  rw [Str.ofString_eq_toList]
  refine ok_iff.mpr fun c h => ?_
  simp only [List.mem_map] at h
  obtain ⟨d, _, rfl⟩ := h
  have := d.valid
  show d.val.toNat < 0x110000
  rcases this with h | h
  · have : d.val.toNat < 0xd800 := h
    omega
  · exact h.2
theorem call_dStr : CallR X (.type "str") (rDL X.K X.mg W dStr) := by
  intro pins s σ H vs us Q I r ⟨Z, m, h, σ', ds, hk, r2, p⟩
  unfold dStr at p
  split at p
  · rename_i i
    obtain ⟨y, rfl, ry⟩ := repL_one r2
    obtain rfl := rep_int ry
    split at p
    · rename_i hz
      exact call_str_int pins s σ H _ us Q I r ⟨i, rfl, hz, put_str hk (ok_ofString _) p⟩
    · exact p.elim
  · exact p.elim
end
end FK

/-! part: FKC -/
set_option Elab.async false
set_option linter.all false
set_option maxRecDepth 100000
set_option maxHeartbeats 4000000
/-! FKC: short words for more of what is built in. -/
namespace FK
open PySem PySem.Spec L2
section
variable {X : Cx} {W : WX} {p pos apos cpos : Pos} {e o : Expr} {es : List Expr} {fs : AD} {f : ED}
theorem sb_all (hc : X.calm = true) (hm : X.mg "all" = none) (ha : PA X (e :: es) (tDL X.K X.mg W fs)) (hg : Gl X "all" := by rfl) (he : starEach (e :: es) X.env = (false, eval e X.env) :: starEach es X.env := by rfl) (hpl : (backTo pos (starEach es X.env)).any (·.1) = false := by rfl) :
    PE X (.Call (.Name "all" p) (e :: es) [] pos) (tD X.K X.mg W (eCall dAll fs)) := se_callB (call_dAll hc) hg hm PyProof.Rows.boot_all ha (by decide) (by decide) he hpl
theorem sb_any (hc : X.calm = true) (hm : X.mg "any" = none) (ha : PA X (e :: es) (tDL X.K X.mg W fs)) (hg : Gl X "any" := by rfl) (he : starEach (e :: es) X.env = (false, eval e X.env) :: starEach es X.env := by rfl) (hpl : (backTo pos (starEach es X.env)).any (·.1) = false := by rfl) :
    PE X (.Call (.Name "any" p) (e :: es) [] pos) (tD X.K X.mg W (eCall dAny fs)) := se_callB (call_dAny hc) hg hm PyProof.Rows.boot_any ha (by decide) (by decide) he hpl
theorem sb_str (hm : X.mg "str" = none) (ha : PA X (e :: es) (tDL X.K X.mg W fs)) (hg : Gl X "str" := by rfl) (he : starEach (e :: es) X.env = (false, eval e X.env) :: starEach es X.env := by rfl) (hpl : (backTo pos (starEach es X.env)).any (·.1) = false := by rfl) :
    PE X (.Call (.Name "str" p) (e :: es) [] pos) (tD X.K X.mg W (eCall dStr fs)) := se_callTy (call_dStr) hg hm PyProof.Rows.boot_str ha (by decide) (by decide) he hpl
theorem se_join (ho : PE X o (tD X.K X.mg W f)) (ha : PA X (e :: es) (tDL X.K X.mg W fs))
    (hbase : attributeBase o "join" X.env (eval o X.env) = eval o X.env := by rfl)
    (hfew : ((backTo cpos (starEach (e :: es) X.env)).all (fun x => !x.1) && (backToKw cpos (keywordEach [] X.env)).all (fun x => x.1.isSome)
      && decide ((e :: es).length + ([] : List Keyword).length + (if ([] : List Keyword).isEmpty then 0 else 1) < 30)) = true := by rfl)
    (hline : (apos.endLine == cpos.line) = true := by rfl) (hs : starEach (e :: es) X.env = (false, eval e X.env) :: starEach es X.env := by rfl) (hplain : (backTo cpos (starEach es X.env)).any (·.1) = false := by rfl) :
    PE X (.Call (.Attribute o "join" apos) (e :: es) [] cpos) (tD X.K X.mg W (eMs dJoin f fs)) :=
  se_ms PySem.F.slot_str_join PySem.F.type_str_join mt_dJoin ho ha hbase hfew hline hs hplain
theorem se_split (ho : PE X o (tD X.K X.mg W f)) (ha : PA X (e :: es) (tDL X.K X.mg W fs))
    (hbase : attributeBase o "split" X.env (eval o X.env) = eval o X.env := by rfl)
    (hfew : ((backTo cpos (starEach (e :: es) X.env)).all (fun x => !x.1) && (backToKw cpos (keywordEach [] X.env)).all (fun x => x.1.isSome)
      && decide ((e :: es).length + ([] : List Keyword).length + (if ([] : List Keyword).isEmpty then 0 else 1) < 30)) = true := by rfl)
    (hline : (apos.endLine == cpos.line) = true := by rfl) (hs : starEach (e :: es) X.env = (false, eval e X.env) :: starEach es X.env := by rfl) (hplain : (backTo cpos (starEach es X.env)).any (·.1) = false := by rfl) :
    PE X (.Call (.Attribute o "split" apos) (e :: es) [] cpos) (tD X.K X.mg W (eMs dSplit f fs)) :=
  se_ms PySem.F.slot_str_split PySem.F.type_str_split mt_dSplit ho ha hbase hfew hline hs hplain
end
end FK

/-! part: FKD -/
set_option Elab.async false
set_option linter.all false
set_option maxRecDepth 100000
set_option maxHeartbeats 4000000
/-! FKD: isinstance. -/
namespace FK
open PySem PySem.Spec L2
inductive Ty where
  | non | bool | int | str | tup | lst
def Ty.name : Ty → String
  | .non => "NoneType"
  | .bool => "bool"
  | .int => "int"
  | .str => "str"
  | .tup => "tuple"
  | .lst => "list"
def Ty.is : Ty → Ty → Bool
  | .non, .non => true
  | .bool, .bool => true
  | .bool, .int => true
  | .int, .int => true
  | .str, .str => true
  | .tup, .tup => true
  | .lst, .lst => true
  | _, _ => false
theorem Ty.kit (a b : Ty) : kitB a.name b.name = some (a.is b) := by cases a <;> cases b <;> decide +kernel
def tyD (h : CH) : D → Option Ty
  | .non => some .non
  | .bl _ => some .bool
  | .int _ => some .int
  | .str _ => some .str
  | .tup _ => some .tup
  | .lst _ => some .lst
  | .scr _ => some .lst
  | .ref n => match h[n]? with
    | some (.lst _) => some .lst
    | _ => none
  | .obj _ _ _ => none
def dIsi (T : Ty) (x : D) : M D := fun h => match tyD h x with
  | some a => .ok (.bl (a.is T)) h
  | none => .bad
theorem tyX_seqL {K : PySem.W.Frag} {H : Hp} {a : Addr} {vs : List V} (g : SqL K H a vs) : TyX K H (.ref a) (.type "list") := by
  rcases g with (g | ⟨o, g⟩) | ⟨o, its, n, g1, g2, _⟩
  · exact .base (.lst g)
  · exact .base (.frz g)
  · exact .kList g1 g2
theorem tyX_seqT {K : PySem.W.Frag} {H : Hp} {a : Addr} {vs : List V} (g : SqT K H a vs) : TyX K H (.ref a) (.type "tuple") := by
  rcases g with (g | ⟨o, g⟩) | ⟨o, its, n, g1, g2, _⟩
  · exact .base (.tup g)
  · exact .fTuple g
  · exact .kTuple g1 g2
section
variable {K : PySem.W.Frag} {mg : Str → Option Value} {Z m : List Addr} {H : Hp} {h : CH}
theorem HeapOk.ty (hk : HeapOk K mg Z m h H) {d : D} {v : V} (r : Rep K mg m (hide (Z ++ m) H) d v) {a : Ty} (e : tyD h d = some a) : TyX K H v (.type a.name) := by
  cases d with
  | non => cases e; obtain rfl := rep_non r; exact .base .non
  | bl b => cases e; obtain rfl := rep_bl r; exact .base (.bl b)
  | int b => cases e; obtain rfl := rep_int r; exact .base (.int b)
  | str b => cases e; obtain ⟨rfl, _⟩ := rep_str r; exact .base (.str b)
  | tup xs =>
    cases e
    obtain ⟨p, vs, rfl, g, _⟩ := HeapOk.rtup (h := h) r rfl
    exact tyX_seqT g
  | lst xs =>
    cases e
    obtain ⟨p, vs, rfl, g, _⟩ := hk.rlst r rfl
    exact tyX_seqL (SqL.of g)
  | scr xs =>
    cases e
    obtain ⟨p, vs, rfl, g, _⟩ := HeapOk.rscr (h := h) r rfl
    exact tyX_seqL g
  | obj c ns xs => cases e
  | ref n =>
    unfold tyD at e
    dsimp only at e
    cases ec : h[n]? with
    | none => rw [ec] at e; cases e
    | some c =>
      rw [ec] at e
      cases c with
      | ins c ns xs => cases e
      | lst xs =>
        cases e
        obtain ⟨p, vs, rfl, g, _⟩ := hk.rlst (d := .ref n) (xs := xs) r (by unfold vw; dsimp only; rw [ec])
        exact tyX_seqL (SqL.of g)
end
section
variable {X : Cx} {W : WX} {p p2 pos : Pos} {e : Expr} {f : ED}
theorem se_isi (T : Ty) (hm : X.mg "isinstance" = none) (hmT : X.mg (Str.ofString T.name) = none) (hv : bootBuiltins (Str.ofString T.name) = some (.type T.name)) (he : PE X e (tD X.K X.mg W f)) (hg : Gl X "isinstance" := by rfl) (hgT : Gl X (Str.ofString T.name) := by rfl)
    (hn : Str.ofString T.name ≠ "__name__" := by decide) (hd : (Str.ofString T.name == ("__debug__" : Str)) = false := by decide)
    (hs : starEach (e :: [.Name (Str.ofString T.name) p2]) X.env = (false, eval e X.env) :: starEach [.Name (Str.ofString T.name) p2] X.env := by rfl)
    (hs2 : starEach [.Name (Str.ofString T.name) p2] X.env = (false, eval (.Name (Str.ofString T.name) p2) X.env) :: starEach [] X.env := by rfl)
    (hpl : (backTo pos (starEach [.Name (Str.ofString T.name) p2] X.env)).any (·.1) = false := by rfl) :
    PE X (.Call (.Name "isinstance" p) [e, .Name (Str.ofString T.name) p2] [] pos) (tD X.K X.mg W (e1 (dIsi T) f)) :=
  pick fun σ H Q h => ⟨_, pe_callB call_isi hg hm PyProof.Rows.boot_isinstance (pa_cons he (pa_cons (pe_bltn (v := .ty T.name) hgT hmT hv rfl hn hd) pa_nil hs2) hs) (by decide) (by decide) hs hpl, den1 (r := fun v H Q => rIsi X.K [v, .ty T.name] H Q) h fun v H Q ⟨Z, m, c, σ', x, hk, r, p⟩ => by
    unfold dIsi at p
    split at p
    · rename_i a ea
      exact ⟨v, .ty T.name, _, _, a.is T, rfl, .ty _, hk.ty r ea, kit_ty (Ty.kit a T), put_bl hk p⟩
    · exact p.elim⟩
end
end FK

/-! part: FKO -/
set_option Elab.async false
set_option linter.all false
set_option maxRecDepth 100000
set_option maxHeartbeats 4000000
/-! FKO: instances: attributes read and stored, making. -/
namespace FK
open PySem PySem.Spec L2
def putNs (f : Str) : List Str → List Str
  | [] => [f]
  | g :: r => if g = f then g :: r else g :: putNs f r
def putXs (f : Str) (d : D) : List Str → List D → List D
  | [], _ => [d]
  | g :: r, x :: xs => if g = f then d :: xs else x :: putXs f d r xs
  | _ :: _, [] => [d]
/-- the attribute f of what has the names ns -/
def lookD (f : Str) : List Str → List D → Option D
  | n :: ns, x :: xs => if n = f then some x else lookD f ns xs
  | _, _ => none
section
variable {K : PySem.W.Frag} {mg : Str → Option Value} {m : List Addr} {S : Hp}
theorem rep_look {f : Str} {d : D} : ∀ {fs : List (Str × V)} {xs : List D}, RepL K mg m S xs (fs.map (·.2)) → lookD f (fs.map (·.1)) xs = some d → ∃ v, fs.lookup f = some v ∧ Rep K mg m S d v
  | [], xs, r, e => by cases xs <;> cases e
  | (g, v) :: fs, [], r, e => by cases e
  | (g, v) :: fs, x :: xs, r, e => by
    obtain ⟨v', t, e1, r1, r2⟩ := RepL.of_cons r
    cases e1
    have e : (if g = f then some x else lookD f (fs.map (·.1)) xs) = some d := e
    by_cases h : g = f
    · rw [if_pos h] at e
      cases e
      subst h
      exact ⟨v, by simp [List.lookup], r1⟩
    · rw [if_neg h] at e
      obtain ⟨u, e2, r3⟩ := rep_look r2 e
      refine ⟨u, ?_, r3⟩
      have hb : (f == g) = false := by
        rw [beq_eq_false_iff_ne]
        exact fun z => h z.symm
      simp only [List.lookup, hb]
      exact e2
theorem rep_put {f : Str} {d : D} {v : V} (q : Rep K mg m S d v) : ∀ {fs : List (Str × V)} {xs : List D}, RepL K mg m S xs (fs.map (·.2)) → (putF f v fs).map (·.1) = putNs f (fs.map (·.1)) ∧ RepL K mg m S (putXs f d (fs.map (·.1)) xs) ((putF f v fs).map (·.2))
  | [], xs, r => ⟨rfl, RepL.one q⟩
  | (g, u) :: fs, [], r => by
    have := r.length
    simp at this
  | (g, u) :: fs, x :: xs, r => by
    obtain ⟨v', t, e1, r1, r2⟩ := RepL.of_cons r
    cases e1
    obtain ⟨h1, h2⟩ := rep_put q r2
    show ((if g = f then (g, v) :: fs else (g, u) :: putF f v fs).map (·.1)) = (if g = f then g :: fs.map (·.1) else g :: putNs f (fs.map (·.1))) ∧ RepL K mg m S (if g = f then d :: xs else x :: putXs f d (fs.map (·.1)) xs) ((if g = f then (g, v) :: fs else (g, u) :: putF f v fs).map (·.2))
    by_cases h : g = f
    · rw [if_pos h, if_pos h, if_pos h]
      exact ⟨rfl, RepL.cons q r2⟩
    · rw [if_neg h, if_neg h, if_neg h]
      exact ⟨by rw [List.map_cons, h1], RepL.cons r1 h2⟩
end
/-- what an attribute's use asks of a class -/
def AttrOk (K : PySem.W.Frag) (mg : Str → Option Value) (c f : Str) : Prop := ∀ C, mg c = some (.ref C) → Cls K C ∧ NoAttr K C f
def dFld (cs : List Str) (f : Str) (x : D) : M D := fun h =>
  match x with
  | .ref n => match h[n]? with
    | some (.ins c ns xs) => if c ∈ cs then (match lookD f ns xs with
      | some d => .ok d h
      | none => .bad) else .bad
    | _ => .bad
  | .obj c ns xs => if c ∈ cs then (match lookD f ns xs with
    | some d => .ok d h
    | none => .bad) else .bad
  | _ => .bad
def sFldS (cs : List Str) (f : Str) (eo ev : ED) : SD := sE ev fun d => sE eo fun x ρ h =>
  match x with
  | .ref n => match h[n]? with
    | some (.ins c ns xs) => if c ∈ cs ∧ ns.length < 1000 then .ok .nx ρ (h.set n (.ins c (putNs f ns) (putXs f d ns xs))) else .bad
    | _ => .bad
  | _ => .bad
section
variable {X : Cx} {W : WX} {e o : Expr} {f g : ED} {cs : List Str} {a : Str} {pos p2 : Pos}
theorem se_fld (ht : ∀ c ∈ cs, AttrOk X.K X.mg c a) (he : PE X e (tD X.K X.mg W f)) (hb : attributeBase e a X.env (eval e X.env) = eval e X.env := by rfl) : PE X (.Attribute e a pos) (tD X.K X.mg W (e1 (dFld cs a) f)) :=
  pick fun σ H Q h => ⟨_, pe_fld he hb, den1 (r := fun x H1 Q => ∃ p C dx fs v, x = .ref p ∧ H1 p = some (.ins C dx fs) ∧ Cls X.K C ∧ NoAttr X.K C a ∧ fs.lookup a = some v ∧ Q v H1) h fun v H Q ⟨Z, m, c, σ', x, hk, r, p⟩ => by
    unfold dFld at p
    split at p
    · rename_i n
      split at p
      · rename_i cl ns xs ec
        split at p
        · rename_i hc
          split at p
          · rename_i d ed
            unfold Rep at r
            obtain ⟨q, g1, rfl⟩ := r
            obtain ⟨C, dx, fs, g2, g3, rfl, g5⟩ := hk.cell _ _ q ec g1
            obtain ⟨u, e2, r2⟩ := rep_look g5 ed
            obtain ⟨k1, k2⟩ := ht cl hc C g3
            exact ⟨q, C, dx, fs, u, rfl, g2, k1, k2, e2, put_old hk r2 p⟩
          · exact p.elim
        · exact p.elim
      · exact p.elim
    · rename_i cl ns xs
      split at p
      · rename_i hc
        split at p
        · rename_i d ed
          unfold Rep at r
          obtain ⟨q, C, dx, fs, rfl, g2, g3, rfl, g5⟩ := r
          obtain ⟨u, e2, r2⟩ := rep_look g5 ed
          obtain ⟨k1, k2⟩ := ht cl hc C g3
          exact ⟨q, C, dx, fs, u, rfl, (hide_some g2).2, k1, k2, e2, put_old hk r2 p⟩
        · exact p.elim
      · exact p.elim
    · exact p.elim⟩
theorem ss_fld (ht : ∀ c ∈ cs, AttrOk X.K X.mg c a) (he : PE X o (tD X.K X.mg W f)) (hv : PE X e (tD X.K X.mg W g)) (hs : swapsWith e (some (.Attribute o a p2)) pos.line X.env = pure false := by rfl) :
    PS X (.Assign [.Attribute o a p2] e pos) (tDS X.K X.mg W (sFldS cs a f g)) :=
  pickS fun σ H E ⟨Z, m, ρ, h, at', p⟩ => ⟨_, ps_fld he hv hs, Z, m, ρ, h, at', (PostS.ofE at' p).imp fun y H1 ⟨d, m1, h1, ex1, at1, r1, q1⟩ => ⟨Z, m1, ρ, h1, at1, (PostS.ofE at1 q1).imp fun x H2 ⟨dx', m2, h2, ex2, at2, r2, q2⟩ => by
    split at q2
    · rename_i n
      split at q2
      · rename_i cl ns xs ec
        split at q2
        · rename_i hc
          unfold Rep at r2
          obtain ⟨q, g1, rfl⟩ := r2
          obtain ⟨C, dx, fs, g2, g3, rfl, g5⟩ := at2.hk.cell _ _ q ec g1
          obtain ⟨k1, k2⟩ := ht cl hc.1 C g3
          refine ⟨q, C, dx, fs, rfl, g2, k1, k2, by simpa using hc.2, ?_⟩
          have ex := Ext.setc (o := .ins C dx (putF a y fs)) at2.hk g1
          obtain ⟨j1, j2⟩ := rep_put (f := a) (ex.rep (ex2.rep r1)) (ex.repL g5)
          have hk3 := at2.hk.setc (c := .ins cl (putNs a (fs.map (·.1))) (putXs a d (fs.map (·.1)) xs)) g1 ⟨C, dx, _, upd_same, g3, j1, j2⟩
          exact q2 σ m2 _ ex hk3 (ex.env at2.en)
        · exact q2.elim
      · exact q2.elim
    · exact q2.elim⟩⟩
end
/-! ### making -/
/-- C(..): a new cell, then __init__ on it; G puts self, the arguments and the defaults in order -/
def mkO (c : Str) (G : D → List D → List D) (F : FD) (ds : List D) : M D := fun h =>
  match F (G (.ref h.length) ds) (h ++ [.ins c [] []]) with
  | .ok .non h' => .ok (.ref h.length) h'
  | _ => .bad
/-- behind the positional ones the keywords' values -/
def aApp (fs gs : AD) : AD := fun ρ => M.bind (fs ρ) fun ds => M.bind (gs ρ) fun es => M.pure (ds ++ es)
def XF : XK := fun _ _ _ => False
theorem passF {X : Cx} : Passes (L2.CX X.prog X.w) X XF := fun _ _ _ _ _ _ _ c => by
  obtain ⟨_, _, _, _, _, _, _, _, _, _, _, _, z⟩ := c
  exact z.elim
section
variable {K : PySem.W.Frag} {mg : Str → Option Value} {Z m : List Addr} {H : Hp} {h : CH} {W : WX} {σ : L2.St} {Q : VK} {n : Nat} {F : FD} {ds : List D} {vs zs : List V} {c : Str} {C : Addr} {G : D → List D → List D}
theorem mk_sp (hk : HeapOk K mg Z m h H) (hC : mg c = some (.ref C)) {x dx : Addr} (hx : H x = none) (hdx : H dx = none) (ne : dx ≠ x) {us : List V}
    (hn : (G (.ref h.length) ds).length = n) (r : ∀ m' S', (∀ (i : Nat) a, m[i]? = some a → m'[i]? = some a) → Sub (hide (Z ++ m) H) S' → m'[h.length]? = some x → RepL K mg m' S' (G (.ref h.length) ds) us)
    (p : Post K mg W σ Z m H (mkO c G F ds h) Q) : spF K mg n F us (upd (upd H dx (.own x)) x (.ins C dx [])) (fun v H3 => v = .non ∧ Q (.ref x) H3) XF := by
  have hk1 := hk.laid (o := .own x) hdx
  have ex1 := Ext.laid (o := .own x) hk hdx
  have hx1 : upd H dx (.own x) x = none := by rw [upd_ne (Ne.symm ne)]; exact hx
  have ex2 := Ext.cell (o := .ins C dx []) hk1 hx1
  have hk2 := hk1.new (o := .ins C dx []) (c := .ins c [] []) hx1 ⟨C, dx, [], upd_same, hC, rfl, RepL.nil⟩
  have ex := ex1.trans ex2
  have hml : (m ++ [x])[h.length]? = some x := by
    rw [← hk.len]
    simp
  refine ⟨Z, m ++ [x], h ++ [.ins c [] []], G (.ref h.length) ds, hk2, r _ _ ex.pre ex.st hml, hn, ?_⟩
  unfold mkO at p
  cases e : F (G (.ref h.length) ds) (h ++ [.ins c [] []]) with
  | ok d h' =>
    rw [e] at p
    cases d with
    | non =>
      intro v m3 H3 ex3 hk3 r3
      have := rep_non r3
      subst this
      exact ⟨rfl, p (.ref x) m3 H3 (ex.trans ex3) hk3 (by unfold Rep; exact ⟨x, ex3.pre _ _ hml, rfl⟩)⟩
    | _ => exact p.elim
  | exc c' h' => rw [e] at p; exact p.elim
  | bad => rw [e] at p; exact p.elim
end
/-- the values in order: self, what is written, the defaults -/
structure Arr (K : PySem.W.Frag) (mg : Str → Option Value) (G : D → List D → List D) (gV : List V → List V → List V) (j l n : Nat) : Prop where
  rep : ∀ (m : List Addr) (S : Hp) (self : D) (v : V) (ds es : List D) (vs zs : List V), ds.length = j → es.length = l → Rep K mg m S self v → RepL K mg m S ds vs → RepL K mg m S es zs → RepL K mg m S (G self (ds ++ es)) (gV (v :: vs) zs)
  len : ∀ (self : D) (ds : List D), ds.length = j + l → (G self ds).length = n
section
variable {X : Cx} {W : WX} {x : Str} {p pos : Pos} {e : Expr} {es : List Expr} {kws : List Keyword} {fs gs : AD} {f C : Addr} {fd : FuncData} {ps ks : List Str} {k n j : Nat} {F : FD} {G : D → List D → List D} {g : List Value → List Value → List Value} {gV : List V → List V → List V}
theorem sk_nil : PK X [] (tDL X.K X.mg W aNil) := ⟨fun pos pins s σ H Q I ⟨Z, m, ρ, c, at', p⟩ => pk_nil.run pos pins s σ H Q I (p [] m H Ext.refl at'.hk RepL.nil)⟩
theorem sk_cons {nm : Option Str} {kpos : Pos} {f : ED} (ha : PE X e (tD X.K X.mg W f)) (hr : PK X kws (tDL X.K X.mg W fs)) : PK X (⟨nm, e, kpos⟩ :: kws) (tDL X.K X.mg W (aCons f fs)) :=
  ⟨fun pos pins s σ H Q I ⟨Z, m, ρ, c, at', p⟩ => (pk_cons ha hr).run pos pins s σ H Q I (by
    refine ⟨Z, m, ρ, c, at', (PostG.bind p).imp fun v H1 ⟨d, m1, h1, ex, hk, rp, _, q⟩ => ?_⟩
    refine ⟨Z, m1, ρ, h1, ⟨hk, ex.env at'.en⟩, (PostG.bind q).imp fun u H2 ⟨ds, m2, h2, ex2, hk2, rp2, _, q2⟩ => ?_⟩
    exact q2 _ m2 H2 Ext.refl hk2 (RepL.cons (ex2.rep rp) rp2))⟩
/-- C(k = v, ..) -/
theorem se_mkK0 (M : Mk X.K C f) (Fo : FnOk X.prog X.w X.K X.mg X.base (L2.CX X.prog X.w) k f fd ps (spF X.K X.mg n F)) (hr : Room (k + 1) X.A) (hm : X.mg x = some (.ref C)) (hb : KBn X.K fd ps 1 ks g gV) (A : Arr X.K X.mg G gV 0 ks.length n) (hkw : PK X kws (tDL X.K X.mg W fs)) (hg : Gl X x := by rfl)
    (hall : (backToKw pos (keywordEach kws X.env)).all (·.1.isSome) = true := by rfl) (hks : (backToKw pos (keywordEach kws X.env)).filterMap (·.1) = ks := by rfl) (hlen : ∀ ρ h ds h', fs ρ h = .ok ds h' → ds.length = ks.length)
    (hdb : (x == ("__debug__" : Str)) = false := by decide) (hpl : ((backTo pos (starEach [] X.env)).any (·.1) || (backToKw pos (keywordEach kws X.env)).any (·.1.isNone)) = false := by rfl) :
    PE X (.Call (.Name x p) [] kws pos) (tD X.K X.mg W (eCall (mkO x G F) fs)) :=
  pick fun σ H Q h => ⟨_, pe_makeK0 M Fo hr hg hm hb passF hkw hall hks hdb hpl, by
    obtain ⟨Z, m, ρ, c, at', p⟩ := h
    show tDL X.K X.mg W fs σ H _
    refine ⟨Z, m, ρ, c, at', (PostG.bind p).imp fun zs H2 ⟨ds, m2, h2, ex2, hk2, rp2, e2, q2⟩ => ?_⟩
    have hl := hlen _ _ _ _ e2
    refine ⟨rfl, by rw [rp2.length]; exact hl, fun a dx ha hdx ne => ?_⟩
    refine mk_sp hk2 hm ha hdx ne (A.len _ _ (by omega)) (fun m' S' hm' hs' hx' => ?_) q2
    exact A.rep m' S' (.ref h2.length) (.ref a) [] ds [] zs rfl hl (by unfold Rep; exact ⟨a, hx', rfl⟩) RepL.nil (RepL.mono hm' hs' _ _ rp2)⟩
/-- C(e, .., k = v, ..) -/
theorem se_mkK (MK : Mk X.K C f) (Fo : FnOk X.prog X.w X.K X.mg X.base (L2.CX X.prog X.w) k f fd ps (spF X.K X.mg n F)) (hr : Room (k + 1) X.A) (hm : X.mg x = some (.ref C)) (hb : KBn X.K fd ps (j + 1) ks g gV) (A : Arr X.K X.mg G gV j ks.length n)
    (ha : PA X (e :: es) (tDL X.K X.mg W fs)) (hkw : PK X kws (tDL X.K X.mg W gs)) (hg : Gl X x := by rfl)
    (hall : (backToKw pos (keywordEach kws X.env)).all (·.1.isSome) = true := by rfl) (hks : (backToKw pos (keywordEach kws X.env)).filterMap (·.1) = ks := by rfl) (hlen : ∀ ρ h ds h', fs ρ h = .ok ds h' → ds.length = j) (hlen2 : ∀ ρ h ds h', gs ρ h = .ok ds h' → ds.length = ks.length)
    (hdb : (x == ("__debug__" : Str)) = false := by decide) (he : starEach (e :: es) X.env = (false, eval e X.env) :: starEach es X.env := by rfl)
    (hpl : ((backTo pos (starEach (e :: es) X.env)).any (·.1) || (backToKw pos (keywordEach kws X.env)).any (·.1.isNone)) = false := by rfl) :
    PE X (.Call (.Name x p) (e :: es) kws pos) (tD X.K X.mg W (eCall (mkO x G F) (aApp fs gs))) :=
  pick fun σ H Q h => ⟨_, pe_makeK MK Fo hr hg hm hb passF ha hkw hall hks hdb he hpl, by
    obtain ⟨Z, m, ρ, c, at', p⟩ := h
    show tDL X.K X.mg W fs σ H _
    have p' : Post X.K X.mg W σ Z m H (M.bind (fs ρ) (fun ds => M.bind (gs ρ) fun es => mkO x G F (ds ++ es)) c) Q := by
      have e : M.bind (fs ρ) (fun ds => M.bind (gs ρ) fun es => mkO x G F (ds ++ es)) c = eCall (mkO x G F) (aApp fs gs) ρ c := by
        unfold eCall aApp M.bind
        cases fs ρ c with
        | ok ds h1 =>
          dsimp only
          cases gs ρ h1 <;> rfl
        | _ => rfl
      rw [e]
      exact p
    refine ⟨Z, m, ρ, c, at', (PostG.bind p').imp fun vs H1 ⟨ds, m1, h1, ex1, hk1, rp1, e1, q1⟩ => ?_⟩
    refine ⟨Z, m1, ρ, h1, ⟨hk1, ex1.env at'.en⟩, (PostG.bind q1).imp fun zs H2 ⟨es', m2, h2, ex2, hk2, rp2, e2, q2⟩ => ?_⟩
    have hl1 := hlen _ _ _ _ e1
    have hl2 := hlen2 _ _ _ _ e2
    refine ⟨by rw [rp1.length]; exact hl1, by rw [rp2.length]; exact hl2, fun a dx ha hdx ne => ?_⟩
    refine mk_sp hk2 hm ha hdx ne (A.len _ _ (by rw [List.length_append]; omega)) (fun m' S' hm' hs' hx' => ?_) q2
    exact A.rep m' S' (.ref h2.length) (.ref a) ds es' vs zs hl1 hl2 (by unfold Rep; exact ⟨a, hx', rfl⟩) (RepL.mono hm' hs' _ _ (ex2.repL rp1)) (RepL.mono hm' hs' _ _ rp2)⟩
/-- C(e, ..); dd: the defaults -/
theorem se_mk {dvs : List V} {dd : List D} {dsv : List Value} (M : Mk X.K C f) (Fo : FnOk X.prog X.w X.K X.mg X.base (L2.CX X.prog X.w) k f fd ps (spF X.K X.mg n F)) (hr : Room (k + 1) X.A) (hm : X.mg x = some (.ref C)) (hb : Binds X.K fd ps dsv) (hd : Vals dvs dsv)
    (hdd : ∀ m S, RepL X.K X.mg m S dd dvs) (ha : PA X (e :: es) (tDL X.K X.mg W fs)) (hg : Gl X x := by rfl) (hlen : ∀ ρ h ds h', fs ρ h = .ok ds h' → ds.length + dd.length + 1 = n)
    (hdb : (x == ("__debug__" : Str)) = false := by decide) (he : starEach (e :: es) X.env = (false, eval e X.env) :: starEach es X.env := by rfl) (hpl : (backTo pos (starEach es X.env)).any (·.1) = false := by rfl) :
    PE X (.Call (.Name x p) (e :: es) [] pos) (tD X.K X.mg W (eCall (mkO x (fun s ds => s :: (ds ++ dd)) F) fs)) :=
  pick fun σ H Q h => ⟨_, pe_make M Fo hr hg hm hb hd passF ha hdb he hpl, by
    obtain ⟨Z, m, ρ, c, at', p⟩ := h
    show tDL X.K X.mg W fs σ H _
    refine ⟨Z, m, ρ, c, at', (PostG.bind p).imp fun vs H2 ⟨ds, m2, h2, ex2, hk2, rp2, e2, q2⟩ a dx ha hdx ne => ?_⟩
    have hl := hlen _ _ _ _ e2
    refine mk_sp hk2 hm ha hdx ne (by simp only [List.length_cons, List.length_append]; omega) (fun m' S' hm' hs' hx' => ?_) q2
    exact RepL.cons (by unfold Rep; exact ⟨a, hx', rfl⟩) ((RepL.mono hm' hs' _ _ rp2).append (hdd m' S'))⟩
theorem len_nil {ρ : Env} {h h' : CH} {ds : List D} (e : aNil ρ h = .ok ds h') : ds.length = 0 := by
  unfold aNil M.pure at e
  cases e
  rfl
theorem len_cons {f : ED} {n : Nat} (hf : ∀ ρ h ds h', fs ρ h = .ok ds h' → ds.length = n) {ρ : Env} {h h' : CH} {ds : List D} (e : aCons f fs ρ h = .ok ds h') : ds.length = n + 1 := by
  unfold aCons M.bind at e
  cases e1 : f ρ h with
  | ok d h1 =>
    rw [e1] at e
    dsimp only at e
    cases e2 : fs ρ h1 with
    | ok es h2 =>
      rw [e2] at e
      dsimp only at e
      unfold M.pure at e
      cases e
      rw [List.length_cons, hf _ _ _ _ e2]
    | _ => rw [e2] at e; cases e
  | _ => rw [e1] at e; cases e
end
/-- how many arguments there are -/
def LenA (fs : AD) (n : Nat) : Prop := ∀ ρ h ds h', fs ρ h = .ok ds h' → ds.length = n
theorem LenA.nil : LenA aNil 0 := fun _ _ _ _ e => len_nil e
theorem LenA.cons {f : ED} {fs : AD} {n : Nat} (h : LenA fs n) : LenA (aCons f fs) (n + 1) := fun _ _ _ _ e => len_cons h e
/-! ### arrangement -/
def perm {α : Type} (idx : List Nat) (xs : List α) : List α := idx.filterMap fun i => xs[i]?
theorem Vals.at_ {xs : List V} {us : List Value} (r : Vals xs us) : ∀ i : Nat, (xs[i]? = none ∧ us[i]? = none) ∨ ∃ x u, xs[i]? = some x ∧ us[i]? = some u ∧ RelV x u := by
  induction r with
  | nil => exact fun i => .inl ⟨by simp, by simp⟩
  | cons h t ih =>
    intro i
    cases i with
    | zero => exact .inr ⟨_, _, rfl, rfl, h⟩
    | succ i => simpa using ih i
theorem vals_perm {xs : List V} {us : List Value} (r : Vals xs us) : ∀ idx : List Nat, Vals (perm idx xs) (perm idx us)
  | [] => .nil
  | i :: idx => by
    have ih := vals_perm r idx
    unfold perm at *
    rw [List.filterMap_cons, List.filterMap_cons]
    rcases Vals.at_ r i with ⟨e1, e2⟩ | ⟨x, u, e1, e2, h⟩
    · rw [e1, e2]; exact ih
    · rw [e1, e2]; exact .cons h ih
section
variable {K : PySem.W.Frag} {mg : Str → Option Value} {m : List Addr} {S : Hp}
theorem repL_perm {xs : List D} {vs : List V} (r : RepL K mg m S xs vs) : ∀ idx : List Nat, RepL K mg m S (perm idx xs) (perm idx vs)
  | [] => RepL.nil
  | i :: idx => by
    have ih := repL_perm r idx
    unfold perm at *
    rw [List.filterMap_cons, List.filterMap_cons]
    cases e1 : xs[i]? with
    | some x =>
      obtain ⟨v, e2, h⟩ := RepL.get r e1
      rw [e2]
      exact RepL.cons h ih
    | none =>
      have : vs[i]? = none := by
        rw [List.getElem?_eq_none_iff] at *
        rw [r.length]
        exact e1
      rw [this]
      exact ih
end
theorem len_perm {α : Type} {xs : List α} : ∀ {idx : List Nat}, (∀ i ∈ idx, i < xs.length) → (perm idx xs).length = idx.length
  | [], _ => rfl
  | i :: idx, h => by
    have ih := len_perm (xs := xs) (idx := idx) fun j hj => h j (List.mem_cons_of_mem _ hj)
    unfold perm at *
    rw [List.filterMap_cons, List.getElem?_eq_getElem (h i List.mem_cons_self)]
    show _ + 1 = _ + 1
    rw [ih]
/-- self, j written values, the defaults dm of what lacks, the keywords' values; then in the parameters' order -/
def arrG (idx : List Nat) (j : Nat) (dm : List D) (self : D) (xs : List D) : List D := perm idx ((self :: xs.take j) ++ dm ++ xs.drop j)
/-- what a making of an instance asks (b: the level of __init__) -/
structure MkAt (P : Program) (w : World) (K : PySem.W.Frag) (mg : Str → Option Value) (base : Heap) (x : Str) (b j : Nat) (ks : List Str) (idx : List Nat) (dm : List D) (F : FD) : Prop where
  ex : ∃ (C f : Addr) (fd : FuncData) (ps : List Str) (g : List Value → List Value → List Value) (gV : List V → List V → List V), Mk K C f ∧ FnOk P w K mg base (L2.CX P w) b f fd ps (spF K mg idx.length F) ∧ mg x = some (.ref C) ∧ KBn K fd ps (j + 1) ks g gV ∧
    Arr K mg (arrG idx j dm) gV j ks.length idx.length
/-- .. by positional values alone -/
structure MkPos (P : Program) (w : World) (K : PySem.W.Frag) (mg : Str → Option Value) (base : Heap) (x : Str) (b n : Nat) (dd : List D) (F : FD) : Prop where
  ex : ∃ (C f : Addr) (fd : FuncData) (ps : List Str) (dvs : List V) (dsv : List Value), Mk K C f ∧ FnOk P w K mg base (L2.CX P w) b f fd ps (spF K mg n F) ∧ mg x = some (.ref C) ∧ Binds K fd ps dsv ∧ Vals dvs dsv ∧ ∀ m S, RepL K mg m S dd dvs
section
variable {X : Cx} {W : WX} {x : Str} {p pos : Pos} {e : Expr} {es : List Expr} {kws : List Keyword} {fs gs : AD} {ks : List Str} {b n j l : Nat} {F : FD} {idx : List Nat} {dm dd : List D}
theorem sm_K0 (MA : MkAt X.prog X.w X.K X.mg X.base x b 0 ks idx dm F) (hr : Room l X.A) (hkw : PK X kws (tDL X.K X.mg W fs)) (hlen : LenA fs ks.length) (hbl : b + 1 ≤ l := by decide) (hg : Gl X x := by rfl)
    (hall : (backToKw pos (keywordEach kws X.env)).all (·.1.isSome) = true := by rfl) (hks : (backToKw pos (keywordEach kws X.env)).filterMap (·.1) = ks := by rfl)
    (hdb : (x == ("__debug__" : Str)) = false := by decide) (hpl : ((backTo pos (starEach [] X.env)).any (·.1) || (backToKw pos (keywordEach kws X.env)).any (·.1.isNone)) = false := by rfl) :
    PE X (.Call (.Name x p) [] kws pos) (tD X.K X.mg W (eCall (mkO x (arrG idx 0 dm) F) fs)) := by
  obtain ⟨C, f, fd, ps, g, gV, M, Fo, hm, hb, A⟩ := MA.ex
  exact se_mkK0 M Fo (hr.mono hbl) hm hb A hkw hg hall hks hlen hdb hpl
theorem sm_K (MA : MkAt X.prog X.w X.K X.mg X.base x b j ks idx dm F) (hr : Room l X.A) (ha : PA X (e :: es) (tDL X.K X.mg W fs)) (hkw : PK X kws (tDL X.K X.mg W gs)) (hlen : LenA fs j) (hlen2 : LenA gs ks.length) (hbl : b + 1 ≤ l := by decide) (hg : Gl X x := by rfl)
    (hall : (backToKw pos (keywordEach kws X.env)).all (·.1.isSome) = true := by rfl) (hks : (backToKw pos (keywordEach kws X.env)).filterMap (·.1) = ks := by rfl)
    (hdb : (x == ("__debug__" : Str)) = false := by decide) (he : starEach (e :: es) X.env = (false, eval e X.env) :: starEach es X.env := by rfl)
    (hpl : ((backTo pos (starEach (e :: es) X.env)).any (·.1) || (backToKw pos (keywordEach kws X.env)).any (·.1.isNone)) = false := by rfl) :
    PE X (.Call (.Name x p) (e :: es) kws pos) (tD X.K X.mg W (eCall (mkO x (arrG idx j dm) F) (aApp fs gs))) := by
  obtain ⟨C, f, fd, ps, g, gV, M, Fo, hm, hb, A⟩ := MA.ex
  exact se_mkK M Fo (hr.mono hbl) hm hb A ha hkw hg hall hks hlen hlen2 hdb he hpl
theorem sm_P (MA : MkPos X.prog X.w X.K X.mg X.base x b n dd F) (hr : Room l X.A) (ha : PA X (e :: es) (tDL X.K X.mg W fs)) {q : Nat} (hlen : LenA fs q) (hq : q + dd.length + 1 = n := by rfl) (hbl : b + 1 ≤ l := by decide) (hg : Gl X x := by rfl)
    (hdb : (x == ("__debug__" : Str)) = false := by decide) (he : starEach (e :: es) X.env = (false, eval e X.env) :: starEach es X.env := by rfl) (hpl : (backTo pos (starEach es X.env)).any (·.1) = false := by rfl) :
    PE X (.Call (.Name x p) (e :: es) [] pos) (tD X.K X.mg W (eCall (mkO x (fun s ds => s :: (ds ++ dd)) F) fs)) := by
  obtain ⟨C, f, fd, ps, dvs, dsv, M, Fo, hm, hb, hd, hdd⟩ := MA.ex
  exact se_mk M Fo (hr.mono hbl) hm hb hd hdd ha hg (fun ρ h ds h' e => by rw [hlen ρ h ds h' e]; exact hq) hdb he hpl
end
section
variable {P : Program} {w : World} {K : PySem.W.Frag} {mg : Str → Option Value} {base : Heap} {x qual : Str} {st : Stmt} {f C : Addr} {fd : FuncData} {F : FD}
/-- MkAt of a class whose __init__ has keyword-only defaults alone: n = j + 1 positional values, ms the ones that lack -/
theorem mk_at {b j : Nat} {ks ps : List Str} {idx : List Nat} {dm : List D} {ms : List (Str × V)} {D0 : Addr} {oc doc pm cdv ct : Value} {od an : Option Addr} {osl : Array (Option Value)}
    (l : K.lookup f = some ⟨oc, od, .func (PySem.W.fnOf x qual (defArgs st) (defBody st) (defScope st) .none (.ref D0) doc pm an cdv ct), osl⟩) (c : PySem.W.codeIn K cdv qual = true) (kp : PySem.W.keepIn K (.ref f) = true)
    (M : Mk K C f) {cn : Str} (hC : mg cn = some (.ref C))
    (Fo : FnOk P w K mg base (L2.CX P w) b f (PySem.W.fnOf x qual (defArgs st) (defBody st) (defScope st) .none (.ref D0) doc pm an cdv ct) ps (spF K mg idx.length F))
    (hq : ∀ q ∈ ms, ∃ u, PySem.W.nsIn K D0 q.1 = some (some u) ∧ RelV q.2 u) (hne : ms ≠ [])
    (hidx : ∀ i ∈ idx, i < j + 1 + dm.length + ks.length) (hdm : ∀ m S, RepL K mg m S dm (ms.map (·.2)))
    (h : ∀ (doc pm : Value) (an : Option Addr) (cdv ct : Value) (us mv ws : List Value), us.length = j + 1 → mv.length = ms.length → ws.length = ks.length →
      KwChain D0 ((ms.map (·.1)).zip mv) (bindArgs (PySem.W.fnOf x qual (defArgs st) (defBody st) (defScope st) .none (.ref D0) doc pm an cdv ct) ⟨us, ks.zip ws⟩) (ps.zip (perm idx (us ++ mv ++ ws)))) :
    MkAt P w K mg base cn b j ks idx dm F := by
  obtain ⟨mv, hlm, rk, hks⟩ := kwd_vals (ms := ms) hq
  refine ⟨C, f, _, ps, fun us ws => perm idx (us ++ mv ++ ws), fun vs zs => perm idx (vs ++ ms.map (·.2) ++ zs), M, Fo, hC, ⟨fun s us ws X l1 l2 => BindsTo.of_looks fun M => KwChain.looks X hks (h doc pm an cdv ct us mv ws l1 hlm l2), fun r1 r2 => vals_perm ((r1.append rk).append r2) idx⟩, ⟨fun m S self v ds es vs zs h1 h2 r0 r1 r2 => ?_, fun self ds hl => ?_⟩⟩
  · unfold arrG
    rw [show (ds ++ es).take j = ds by rw [← h1, List.take_left], show (ds ++ es).drop j = es by rw [← h1, List.drop_left]]
    exact repL_perm (((RepL.cons r0 r1).append (hdm m S)).append r2) idx
  · unfold arrG
    refine len_perm fun i hi => ?_
    have := hidx i hi
    simp only [List.length_append, List.length_cons, List.length_take, List.length_drop]
    omega
end
/-- a default that is an empty tuple of the written part -/
theorem rep_tup0 {K : PySem.W.Frag} {mg : Str → Option Value} {m : List Addr} {S : Hp} {T : Addr} {od : Option Addr} {n : Nat} {sl : Array (Option Value)} (e : K.lookup T = some ⟨.type "tuple", od, .seq #[] n, sl⟩) : Rep K mg m S (.tup []) (.ref T) := by
  unfold Rep
  exact ⟨T, [], rfl, .inr ⟨_, #[], n, e, rfl, rfl, by simp, .nil⟩, RepL.nil⟩
end FK

/-! part: FKP -/
set_option Elab.async false
set_option linter.all false
set_option maxRecDepth 100000
set_option maxHeartbeats 4000000
/-! FKP: len(set(xs)), xs a list of tuples of ints. -/
namespace FK
open PySem PySem.Spec L2
def cardL : List (List Int) → Nat
  | [] => 0
  | k :: r => cardL r + if k ∈ r then 0 else 1
theorem nodup_len_le {α : Type} [DecidableEq α] : ∀ {xs ys : List α}, xs.Nodup → (∀ x ∈ xs, x ∈ ys) → xs.length ≤ ys.length
  | [], ys, _, _ => Nat.zero_le _
  | x :: xs, ys, nd, h => by
    rw [List.nodup_cons] at nd
    have hx := h x List.mem_cons_self
    have := nodup_len_le (xs := xs) (ys := ys.erase x) nd.2 fun y hy => (List.mem_erase_of_ne (fun (z : y = x) => nd.1 (by rw [← z]; exact hy))).mpr (h y (List.mem_cons_of_mem _ hy))
    rw [List.length_erase_of_mem hx] at this
    have := List.length_pos_of_mem hx
    rw [List.length_cons]
    omega
theorem cardL_of : ∀ (ks : List (List Int)), ∃ L : List (List Int), L.Nodup ∧ (∀ x, x ∈ L ↔ x ∈ ks) ∧ L.length = cardL ks
  | [] => ⟨[], List.nodup_nil, fun _ => Iff.rfl, rfl⟩
  | k :: r => by
    obtain ⟨L, h1, h2, h3⟩ := cardL_of r
    unfold cardL
    by_cases h : k ∈ r
    · rw [if_pos h]
      refine ⟨L, h1, fun x => ?_, h3⟩
      rw [h2 x, List.mem_cons]
      exact ⟨.inr, fun z => z.elim (fun z => z ▸ h) id⟩
    · rw [if_neg h]
      refine ⟨k :: L, List.nodup_cons.mpr ⟨fun z => h ((h2 k).mp z), h1⟩, fun x => ?_, by rw [List.length_cons, h3]⟩
      rw [List.mem_cons, List.mem_cons, h2 x]
theorem card_eq {L ks : List (List Int)} (nd : L.Nodup) (h1 : ∀ x ∈ L, x ∈ ks) (h2 : ∀ x ∈ ks, x ∈ L) : L.length = cardL ks := by
  obtain ⟨M, m1, m2, m3⟩ := cardL_of ks
  rw [← m3]
  exact Nat.le_antisymm (nodup_len_le nd fun x hx => (m2 x).mpr (h1 x hx)) (nodup_len_le m1 fun x hx => h2 x ((m2 x).mp hx))
theorem card_le : ∀ ks : List (List Int), cardL ks ≤ ks.length
  | [] => Nat.le_refl _
  | k :: r => by
    have := card_le r
    unfold cardL
    rw [List.length_cons]
    split <;> omega
theorem card_nodup : ∀ {ks : List (List Int)}, cardL ks = ks.length ↔ ks.Nodup
  | [] => ⟨fun _ => List.nodup_nil, fun _ => rfl⟩
  | k :: r => by
    have := card_le r
    have ih := card_nodup (ks := r)
    unfold cardL
    rw [List.nodup_cons, List.length_cons]
    by_cases h : k ∈ r
    · rw [if_pos h]
      exact ⟨fun z => by omega, fun z => absurd h z.1⟩
    · rw [if_neg h]
      exact ⟨fun z => ⟨h, ih.mp (by omega)⟩, fun z => by rw [ih.mpr z.2]⟩
/-- tuples of ints as lists of ints -/
def keysD : List D → Option (List (List Int))
  | [] => some []
  | .tup xs :: r => match intsD xs, keysD r with
    | some k, some ks => some (k :: ks)
    | _, _ => none
  | _ => none
def dLenSet (x : D) : M D := fun h => match lstOf h x with
  | some xs => match keysD xs with
    | some ks => if ks.length < 64 then .ok (.int (cardL ks)) h else .bad
    | none => .bad
  | none => .bad
section
variable {K : PySem.W.Frag} {mg : Str → Option Value} {Z m : List Addr} {H : Hp} {S : Hp}
theorem ints_rep : ∀ {xs : List D} {vs : List V} {k : List Int}, intsD xs = some k → RepL K mg m S xs vs → vs = k.map V.int
  | [], vs, k, e, r => by cases e; exact r.of_nil
  | d :: ds, vs, k, e, r => by
    cases d with
    | int i =>
      unfold intsD at e
      cases q : intsD ds with
      | none => rw [q] at e; cases e
      | some k' =>
        rw [q] at e
        cases e
        obtain ⟨v, t, rfl, a, b⟩ := r.of_cons
        obtain rfl := rep_int a
        rw [ints_rep q b]
        rfl
    | _ => cases e
theorem keys_rep : ∀ {xs : List D} {vs : List V} {ks : List (List Int)}, keysD xs = some ks → RepL K mg m (hide (Z ++ m) H) xs vs → ∃ ps : List (Addr × List Int), vs = ps.map (fun p => V.ref p.1) ∧ ps.map (·.2) = ks ∧ ∀ p ∈ ps, SqT K H p.1 (p.2.map V.int)
  | [], vs, ks, e, r => by cases e; exact ⟨[], r.of_nil, rfl, fun p h => by cases h⟩
  | d :: ds, vs, ks, e, r => by
    cases d with
    | tup xs =>
      unfold keysD at e
      cases q : intsD xs with
      | none => rw [q] at e; cases e
      | some k =>
        cases q2 : keysD ds with
        | none => rw [q, q2] at e; cases e
        | some ks' =>
          rw [q, q2] at e
          cases e
          obtain ⟨v, t, rfl, a, b⟩ := r.of_cons
          obtain ⟨ps, rfl, h2, h3⟩ := keys_rep q2 b
          unfold Rep at a
          obtain ⟨p, us, rfl, g, rr⟩ := a
          obtain rfl := ints_rep q rr
          refine ⟨(p, k) :: ps, rfl, by rw [List.map_cons, h2], fun x hx => ?_⟩
          rcases List.mem_cons.mp hx with rfl | hx
          · exact hide_sub.sqt g
          · exact h3 x hx
    | _ => cases e
end
open PyProof.Rows in
def tLenSetT (K : PySem.W.Frag) (ta : TE) : TE := fun σ H Q => ta σ H fun x H1 => ∃ (l : Addr) (ks : List (Addr × List Int)), x = V.ref l ∧ SqL K H1 l (ks.map fun p => V.ref p.1) ∧ (∀ p ∈ ks, SqT K H1 p.1 (p.2.map V.int)) ∧ ks.length < 64 ∧ Q (.int (cardL (ks.map (·.2)))) H1
section
variable {X : Cx} {W : WX}
open PyProof.Rows in
theorem pe_lenSetT {a : Expr} {ta : TE} {p p2 q pos : Pos} (hc : X.calm = true) (hu : X.A.units + 64 < cLine) (hg : Gl X "len") (hm : X.mg "len" = none) (hg2 : Gl X "set") (hm2 : X.mg "set" = none) (ha : PE X a ta)
    (na : starEach [a] X.env = (false, eval a X.env) :: starEach [] X.env := by rfl) : PE X (.Call (.Name "len" p) [.Call (.Name "set" p2) [a] [] q] [] pos) (tLenSetT X.K ta) := by
  refine ⟨fun pins s σ H Q I h => ?_⟩
  refine Call_ (ld_blt I hg hm PySem.boot_len ?_)
  refine PyProof.Rows.callWith_builtin1 (PyProof.Rows.args_cons ?_ rfl) rfl rfl
  refine Call_ (ld_blt I hg2 hm2 PyProof.Rows.boot_set ?_)
  refine PyProof.Rows.callWith_type1 (PyProof.Rows.args_cons (thn (ha.run pins s σ H _ I h) fun v s1 ⟨x, H1, I1, r1, q1⟩ => PyProof.Rows.args_nil ?_) na) na rfl
  obtain ⟨l, ks, rfl, hq, hk, hf, q1⟩ := q1
  cases r1
  obtain ⟨its, r, pl, hz⟩ := I1.list hq
  refine call_set_tups (P := X.prog) (w := X.w) ks (I1.ok.hd hc) pl.isList (by simpa using refs_of_vals r) (fun p hp => I1.isT (hk p hp)) hf (by omega) fun h' tk L es ep t R g k => ?_
  refine PyProof.Rows.args_nil ?_
  have I2 : Inv X pins σ H1 { s1 with heap := h', toks := tk } := I1.kept fun b o e => k b o e
  obtain ⟨o, ho, hex, hd⟩ := R.ob
  have hL : L.length = cardL (ks.map (·.2)) := by
    rw [← List.length_map (f := (·.2)) (as := L)]
    refine card_eq R.nd (fun x hx => ?_) (fun x hx => ?_)
    · obtain ⟨p, hp, rfl⟩ := List.mem_map.mp hx
      exact List.mem_map.mpr ⟨p, List.mem_of_mem_take (g.sub p hp), rfl⟩
    · obtain ⟨p, hp, rfl⟩ := List.mem_map.mp hx
      exact g.all p (by rw [List.take_length]; exact hp)
  have hsz := SetTR.size (s := { s1 with heap := h' }) R
  have hfw := R.few
  refine call_len_set ho hex hd (SetTR.fits (s := { s1 with heap := h' }) R) (by rw [hsz]; omega) ⟨.int (cardL (ks.map (·.2))), H1, I2.tok _, ⟨_, by rw [hsz, hL]⟩, q1⟩
theorem se_lenSet {k : Nat} {a : Expr} {f : ED} {p p2 q pos : Pos} (hc : X.calm = true) (hm : X.mg "len" = none) (hm2 : X.mg "set" = none) (hr : Room k X.A) (ha : PE X a (tD X.K X.mg W f)) (hg : Gl X "len" := by rfl) (hg2 : Gl X "set" := by rfl)
    (na : starEach [a] X.env = (false, eval a X.env) :: starEach [] X.env := by rfl) : PE X (.Call (.Name "len" p) [.Call (.Name "set" p2) [a] [] q] [] pos) (tD X.K X.mg W (e1 dLenSet f)) :=
  pick fun σ H Q h => ⟨_, pe_lenSetT hc hr.units hg hm hg2 hm2 ha na, den1 (r := fun x H1 Q => ∃ (l : Addr) (ks : List (Addr × List Int)), x = V.ref l ∧ SqL X.K H1 l (ks.map fun p => V.ref p.1) ∧ (∀ p ∈ ks, SqT X.K H1 p.1 (p.2.map V.int)) ∧ ks.length < 64 ∧ Q (.int (cardL (ks.map (·.2)))) H1) h fun v H Q ⟨Z, m, c, σ', x, hk, r, p⟩ => by
    unfold dLenSet at p
    split at p
    · rename_i xs ex
      split at p
      · rename_i ks ek
        split at p
        · rename_i hl
          obtain ⟨l, vs, rfl, g, rl⟩ := hk.rlstOf r ex
          obtain ⟨ps, rfl, h2, h3⟩ := keys_rep ek rl
          subst h2
          rw [List.length_map] at hl
          exact ⟨l, ps, rfl, SqL.of g, h3, hl, put_int hk p⟩
        · exact p.elim
      · exact p.elim
    · exact p.elim⟩
end
end FK

/-! part: FKL -/
set_option maxRecDepth 100000
set_option maxHeartbeats 4000000
set_option linter.all false
namespace FK
open PySem PySem.Spec L2
/-! FKL: what is shared by the laws: loops, calls, cells drawn from the script. -/
noncomputable def cellsBody : SD := (sSeq (sAsg (eC (.int 0)) (gN 4))
  (sSeq (sIf (bT (e2 dLt (eVar 3) (eCall dLen (aCons (eVar 0) (aNil))))) (sAsg (eCall dInt (aCons (e2 dIdx (eVar 0) (eVar 3)) (aNil))) (gN 4)) (sNil))
  (sSeq (sIf (bT (e2 dLt (eVar 4) (eC (.int 0)))) (sAsg (e2 dSub (eC (.int 1)) (e2 dMul (eC (.int 2)) (eVar 4))) (gN 4)) (sNil))
  (sSeq (sIf (bOr (bT (e2 dGe (eVar 3) (eCall dLen (aCons (eVar 0) (aNil))))) (bT (e2 dLt (eVar 4) (eC (.int 1000000000))))) (sSeq (sIf (bT (e2 dGt (eCall dLen (aCons (eVar 0) (aNil))) (eC (.int 0)))) (sAsg (eCall dInt (aCons (e2 dIdx (eVar 0) (e2 dMod (eCall dInt (aCons (eVar 3) (aNil))) (eCall dLen (aCons (eVar 0) (aNil))))) (aNil))) (gN 4)) (sNil))
  (sSeq (sIf (bT (e2 dLt (eVar 4) (eC (.int 0)))) (sAsg (e2 dSub (eC (.int 1)) (e2 dMul (eC (.int 2)) (eVar 4))) (gN 4)) (sNil))
  (sSeq (sAsg (e2 dMod (eCall dInt (aCons (e2 dAdd (e2 dMul (e2 dAdd (e2 dAdd (eVar 4) (e2 dMul (eC (.int 131)) (eVar 3))) (eC (.int 7))) (eC (.int 48271))) (e2 dMul (e2 dMul (eVar 3) (eVar 3)) (eC (.int 69621)))) (aNil))) (eC (.int 1000000007))) (gN 4))
  (sAsg (e2 dMod (eCall dInt (aCons (e2 dMul (e2 dAdd (e2 dAdd (eVar 4) (e2 dMul (eC (.int 17)) (eVar 3))) (eC (.int 3))) (eC (.int 2862933555777941757))) (aNil))) (eC (.int 18446744073709551557))) (gN 4))))) (sNil))
  (sExpr (eMl dApp (eVar 2) (aCons (eVar 4) (aNil))))))))
theorem sz (n : Nat) : (n ≤ sizeLine) = (n ≤ 16777216) := by rw [sizeLine_eq]
theorem dOrd_one (c : Nat) (h : CH) : dOrd [.str ⟨#[c]⟩] h = .ok (.int c) h := rfl
theorem szl (n : Nat) : (n < sizeLine) = (n < 16777216) := by rw [sizeLine_eq]
theorem seq_eq {a b : SD} {ρ ρ1 : Env} {h h1 : CH} {r : RS} (e : a ρ h = .ok .nx ρ1 h1) (k : b ρ1 h1 = r) : sSeq a b ρ h = r := by
  unfold sSeq
  rw [e]
  exact k
theorem atI_in {ns : List Int} {k : Int} (h0 : 0 ≤ k) (h1 : k < ns.length) : ∃ v, atI (ns.map D.int) k = some (.int v) := by
  obtain ⟨j, rfl⟩ : ∃ j : Nat, k = (j : Int) := ⟨k.toNat, by omega⟩
  have hj : j < ns.length := by omega
  exact ⟨ns[j], L2.atI_nat (by rw [List.getElem?_map, List.getElem?_eq_getElem hj]; rfl)⟩
/-- an if that only stores an int at its end -/
theorem if_int {c : BD} {s : SD} {ρ : Env} {h : CH} {b : Bool} (e : c ρ h = .ok b h) {P : Env → CH → Prop} (h1 : b = true → ∃ ρ1 h1, s ρ h = .ok .nx ρ1 h1 ∧ P ρ1 h1) (h2 : b = false → P ρ h) : ∃ ρ1 h1, sIf c s sNil ρ h = .ok .nx ρ1 h1 ∧ P ρ1 h1 := by
  unfold sIf sB
  rw [e]
  cases b with
  | true => exact h1 rfl
  | false => exact ⟨ρ, h, rfl, h2 rfl⟩
abbrev cE (ns : List Int) (n k : Int) (x : Option D) : Env := [some (scrD ns), some (.int n), some (.ref 0), some (.int k), x]
theorem cells_turn (ns acc : List Int) (n k : Int) (x : Option D) (hl : ns.length ≤ 63) (h0 : 0 ≤ k) (hk : k < 1000) (ha : acc.length < 1000) :
    ∃ c, 0 ≤ c ∧ cellsBody (cE ns n k x) [.lst (acc.map .int)] = .ok .nx (cE ns n k (some (.int c))) [.lst ((acc ++ [c]).map .int)] := by
  unfold cellsBody
  have hs : sizeLine = 16777216 := sizeLine_eq
  have neg : ∀ c : Int, ∃ c2, 0 ≤ c2 ∧ (sIf (bT (e2 dLt (eVar 4) (eC (.int 0)))) (sAsg (e2 dSub (eC (.int 1)) (e2 dMul (eC (.int 2)) (eVar 4))) (gN 4)) (sNil)) (cE ns n k (some (.int c))) [.lst (acc.map .int)] = .ok .nx (cE ns n k (some (.int c2))) [.lst (acc.map .int)] := fun c => by
    by_cases hc : c < 0
    · refine ⟨1 - 2 * c, by omega, ?_⟩
      simp only [sSeq, sIf, sB, sE, sAsg, sRet, sRetN, sNil, sExpr, sBrk, sCnt, gN, gT, gsC, gsN, FK.e1, FK.e2, eC, eVar, eCall, aNil, aCons, M.bind, M.pure, eTup, eLst, eNew, eSl, oNone, oSome, bT, bNot, bAnd, bOr, eAnd, eOr, eNot, eIf, eCh, truth, eMs, eMl, dAdd, dSub, dMul, dFdiv, dMod, dLe, dLt, dGe, dGt, dEq, dNe, dIs, dIsnt, D.isNon, dIn, dNotIn, dIdx, dSl, dLen, dInt, dOrd_one, dMax2, dMin2, dTuple, dList, dListC, dApp, dNeg, vw, seq, lstOf, fnD, List.map_cons, List.map_nil, List.length_cons, List.length_nil, List.cons_append, List.nil_append, List.append_nil, List.replicate_succ, List.replicate_zero, List.getElem?_cons_zero, List.getElem?_cons_succ, List.set_cons_zero, List.set_cons_succ, Int.cast_ofNat_Int, Nat.reduceBEq, Int.reduceBEq, Nat.reduceAdd, Nat.reduceSub, Nat.reduceLT, Nat.reduceLeDiff, Nat.zero_add, Nat.add_zero, Nat.sub_zero, Nat.sub_self, ↓reduceIte, if_true, if_false, Bool.not_true, Bool.not_false, Bool.false_eq_true, Bool.true_eq_false, decide_true, decide_false, decide_not, true_and, and_true, and_self, true_or, or_true, not_true_eq_false, not_false_eq_true, ne_eq, reduceCtorEq, Int.reduceLT, Int.reduceLE, Int.reduceNeg, Int.reduceSub, Int.reduceAdd, Int.reduceMul, Int.reducePow, Int.reduceToNat, sz, D.dat, D.datL, D.dep, D.depL, szl, inb, List.any_cons, List.any_nil, Bool.true_and, Bool.false_and, Bool.and_true, Bool.and_false, Bool.or_false, Bool.false_or, Bool.true_or, Bool.or_true, Nat.max_self, Nat.max_zero, Nat.zero_max, Nat.min_self, Nat.zero_le, Nat.min_zero, Nat.zero_min, forL, forX, iR1, iR2, rng1, rng2, iE, itOf, sFor, bYes, decide_eq_true hc]
    · refine ⟨c, by omega, ?_⟩
      simp only [sSeq, sIf, sB, sE, sAsg, sRet, sRetN, sNil, sExpr, sBrk, sCnt, gN, gT, gsC, gsN, FK.e1, FK.e2, eC, eVar, eCall, aNil, aCons, M.bind, M.pure, eTup, eLst, eNew, eSl, oNone, oSome, bT, bNot, bAnd, bOr, eAnd, eOr, eNot, eIf, eCh, truth, eMs, eMl, dAdd, dSub, dMul, dFdiv, dMod, dLe, dLt, dGe, dGt, dEq, dNe, dIs, dIsnt, D.isNon, dIn, dNotIn, dIdx, dSl, dLen, dInt, dOrd_one, dMax2, dMin2, dTuple, dList, dListC, dApp, dNeg, vw, seq, lstOf, fnD, List.map_cons, List.map_nil, List.length_cons, List.length_nil, List.cons_append, List.nil_append, List.append_nil, List.replicate_succ, List.replicate_zero, List.getElem?_cons_zero, List.getElem?_cons_succ, List.set_cons_zero, List.set_cons_succ, Int.cast_ofNat_Int, Nat.reduceBEq, Int.reduceBEq, Nat.reduceAdd, Nat.reduceSub, Nat.reduceLT, Nat.reduceLeDiff, Nat.zero_add, Nat.add_zero, Nat.sub_zero, Nat.sub_self, ↓reduceIte, if_true, if_false, Bool.not_true, Bool.not_false, Bool.false_eq_true, Bool.true_eq_false, decide_true, decide_false, decide_not, true_and, and_true, and_self, true_or, or_true, not_true_eq_false, not_false_eq_true, ne_eq, reduceCtorEq, Int.reduceLT, Int.reduceLE, Int.reduceNeg, Int.reduceSub, Int.reduceAdd, Int.reduceMul, Int.reducePow, Int.reduceToNat, sz, D.dat, D.datL, D.dep, D.depL, szl, inb, List.any_cons, List.any_nil, Bool.true_and, Bool.false_and, Bool.and_true, Bool.and_false, Bool.or_false, Bool.false_or, Bool.true_or, Bool.or_true, Nat.max_self, Nat.max_zero, Nat.zero_max, Nat.min_self, Nat.zero_le, Nat.min_zero, Nat.zero_min, forL, forX, iR1, iR2, rng1, rng2, iE, itOf, sFor, bYes, decide_eq_false hc]
  obtain ⟨c1, e1⟩ : ∃ c1, (sIf (bT (e2 dLt (eVar 3) (eCall dLen (aCons (eVar 0) (aNil))))) (sAsg (eCall dInt (aCons (e2 dIdx (eVar 0) (eVar 3)) (aNil))) (gN 4)) (sNil)) (cE ns n k (some (.int 0))) [.lst (acc.map .int)] = .ok .nx (cE ns n k (some (.int c1))) [.lst (acc.map .int)] := by
    by_cases hc : k < ns.length
    · obtain ⟨v, hv⟩ := atI_in h0 hc
      refine ⟨v, ?_⟩
      simp only [sSeq, sIf, sB, sE, sAsg, sRet, sRetN, sNil, sExpr, sBrk, sCnt, gN, gT, gsC, gsN, FK.e1, FK.e2, eC, eVar, eCall, aNil, aCons, M.bind, M.pure, eTup, eLst, eNew, eSl, oNone, oSome, bT, bNot, bAnd, bOr, eAnd, eOr, eNot, eIf, eCh, truth, eMs, eMl, dAdd, dSub, dMul, dFdiv, dMod, dLe, dLt, dGe, dGt, dEq, dNe, dIs, dIsnt, D.isNon, dIn, dNotIn, dIdx, dSl, dLen, dInt, dOrd_one, dMax2, dMin2, dTuple, dList, dListC, dApp, dNeg, vw, seq, lstOf, fnD, List.map_cons, List.map_nil, List.length_cons, List.length_nil, List.cons_append, List.nil_append, List.append_nil, List.replicate_succ, List.replicate_zero, List.getElem?_cons_zero, List.getElem?_cons_succ, List.set_cons_zero, List.set_cons_succ, Int.cast_ofNat_Int, Nat.reduceBEq, Int.reduceBEq, Nat.reduceAdd, Nat.reduceSub, Nat.reduceLT, Nat.reduceLeDiff, Nat.zero_add, Nat.add_zero, Nat.sub_zero, Nat.sub_self, ↓reduceIte, if_true, if_false, Bool.not_true, Bool.not_false, Bool.false_eq_true, Bool.true_eq_false, decide_true, decide_false, decide_not, true_and, and_true, and_self, true_or, or_true, not_true_eq_false, not_false_eq_true, ne_eq, reduceCtorEq, Int.reduceLT, Int.reduceLE, Int.reduceNeg, Int.reduceSub, Int.reduceAdd, Int.reduceMul, Int.reducePow, Int.reduceToNat, sz, D.dat, D.datL, D.dep, D.depL, szl, inb, List.any_cons, List.any_nil, Bool.true_and, Bool.false_and, Bool.and_true, Bool.and_false, Bool.or_false, Bool.false_or, Bool.true_or, Bool.or_true, Nat.max_self, Nat.max_zero, Nat.zero_max, Nat.min_self, Nat.zero_le, Nat.min_zero, Nat.zero_min, forL, forX, iR1, iR2, rng1, rng2, iE, itOf, sFor, bYes, scrD, List.length_map, decide_eq_true hc, hv]
    · refine ⟨0, ?_⟩
      simp only [sSeq, sIf, sB, sE, sAsg, sRet, sRetN, sNil, sExpr, sBrk, sCnt, gN, gT, gsC, gsN, FK.e1, FK.e2, eC, eVar, eCall, aNil, aCons, M.bind, M.pure, eTup, eLst, eNew, eSl, oNone, oSome, bT, bNot, bAnd, bOr, eAnd, eOr, eNot, eIf, eCh, truth, eMs, eMl, dAdd, dSub, dMul, dFdiv, dMod, dLe, dLt, dGe, dGt, dEq, dNe, dIs, dIsnt, D.isNon, dIn, dNotIn, dIdx, dSl, dLen, dInt, dOrd_one, dMax2, dMin2, dTuple, dList, dListC, dApp, dNeg, vw, seq, lstOf, fnD, List.map_cons, List.map_nil, List.length_cons, List.length_nil, List.cons_append, List.nil_append, List.append_nil, List.replicate_succ, List.replicate_zero, List.getElem?_cons_zero, List.getElem?_cons_succ, List.set_cons_zero, List.set_cons_succ, Int.cast_ofNat_Int, Nat.reduceBEq, Int.reduceBEq, Nat.reduceAdd, Nat.reduceSub, Nat.reduceLT, Nat.reduceLeDiff, Nat.zero_add, Nat.add_zero, Nat.sub_zero, Nat.sub_self, ↓reduceIte, if_true, if_false, Bool.not_true, Bool.not_false, Bool.false_eq_true, Bool.true_eq_false, decide_true, decide_false, decide_not, true_and, and_true, and_self, true_or, or_true, not_true_eq_false, not_false_eq_true, ne_eq, reduceCtorEq, Int.reduceLT, Int.reduceLE, Int.reduceNeg, Int.reduceSub, Int.reduceAdd, Int.reduceMul, Int.reducePow, Int.reduceToNat, sz, D.dat, D.datL, D.dep, D.depL, szl, inb, List.any_cons, List.any_nil, Bool.true_and, Bool.false_and, Bool.and_true, Bool.and_false, Bool.or_false, Bool.false_or, Bool.true_or, Bool.or_true, Nat.max_self, Nat.max_zero, Nat.zero_max, Nat.min_self, Nat.zero_le, Nat.min_zero, Nat.zero_min, forL, forX, iR1, iR2, rng1, rng2, iE, itOf, sFor, bYes, scrD, List.length_map, decide_eq_false hc]
  obtain ⟨c2, h2, e2'⟩ := neg c1
  have last : ∀ c : Int, ∃ c4, 0 ≤ c4 ∧ (sSeq (sAsg (e2 dMod (eCall dInt (aCons (e2 dAdd (e2 dMul (e2 dAdd (e2 dAdd (eVar 4) (e2 dMul (eC (.int 131)) (eVar 3))) (eC (.int 7))) (eC (.int 48271))) (e2 dMul (e2 dMul (eVar 3) (eVar 3)) (eC (.int 69621)))) (aNil))) (eC (.int 1000000007))) (gN 4))
  (sAsg (e2 dMod (eCall dInt (aCons (e2 dMul (e2 dAdd (e2 dAdd (eVar 4) (e2 dMul (eC (.int 17)) (eVar 3))) (eC (.int 3))) (eC (.int 2862933555777941757))) (aNil))) (eC (.int 18446744073709551557))) (gN 4))) (cE ns n k (some (.int c))) [.lst (acc.map .int)] = .ok .nx (cE ns n k (some (.int c4))) [.lst (acc.map .int)] := fun c => by
    have hk2 : -18446744073709551616 < k ∧ k < 18446744073709551616 := by omega
    refine ⟨_, ?_, by simp only [sSeq, sIf, sB, sE, sAsg, sRet, sRetN, sNil, sExpr, sBrk, sCnt, gN, gT, gsC, gsN, FK.e1, FK.e2, eC, eVar, eCall, aNil, aCons, M.bind, M.pure, eTup, eLst, eNew, eSl, oNone, oSome, bT, bNot, bAnd, bOr, eAnd, eOr, eNot, eIf, eCh, truth, eMs, eMl, dAdd, dSub, dMul, dFdiv, dMod, dLe, dLt, dGe, dGt, dEq, dNe, dIs, dIsnt, D.isNon, dIn, dNotIn, dIdx, dSl, dLen, dInt, dOrd_one, dMax2, dMin2, dTuple, dList, dListC, dApp, dNeg, vw, seq, lstOf, fnD, List.map_cons, List.map_nil, List.length_cons, List.length_nil, List.cons_append, List.nil_append, List.append_nil, List.replicate_succ, List.replicate_zero, List.getElem?_cons_zero, List.getElem?_cons_succ, List.set_cons_zero, List.set_cons_succ, Int.cast_ofNat_Int, Nat.reduceBEq, Int.reduceBEq, Nat.reduceAdd, Nat.reduceSub, Nat.reduceLT, Nat.reduceLeDiff, Nat.zero_add, Nat.add_zero, Nat.sub_zero, Nat.sub_self, ↓reduceIte, if_true, if_false, Bool.not_true, Bool.not_false, Bool.false_eq_true, Bool.true_eq_false, decide_true, decide_false, decide_not, true_and, and_true, and_self, true_or, or_true, not_true_eq_false, not_false_eq_true, ne_eq, reduceCtorEq, Int.reduceLT, Int.reduceLE, Int.reduceNeg, Int.reduceSub, Int.reduceAdd, Int.reduceMul, Int.reducePow, Int.reduceToNat, sz, D.dat, D.datL, D.dep, D.depL, szl, inb, List.any_cons, List.any_nil, Bool.true_and, Bool.false_and, Bool.and_true, Bool.and_false, Bool.or_false, Bool.false_or, Bool.true_or, Bool.or_true, Nat.max_self, Nat.max_zero, Nat.zero_max, Nat.min_self, Nat.zero_le, Nat.min_zero, Nat.zero_min, forL, forX, iR1, iR2, rng1, rng2, iE, itOf, sFor, bYes, hk2.1, hk2.2]; rfl⟩
    omega
  obtain ⟨c4, h4, e4⟩ : ∃ c4, 0 ≤ c4 ∧ (sIf (bOr (bT (e2 dGe (eVar 3) (eCall dLen (aCons (eVar 0) (aNil))))) (bT (e2 dLt (eVar 4) (eC (.int 1000000000))))) (sSeq (sIf (bT (e2 dGt (eCall dLen (aCons (eVar 0) (aNil))) (eC (.int 0)))) (sAsg (eCall dInt (aCons (e2 dIdx (eVar 0) (e2 dMod (eCall dInt (aCons (eVar 3) (aNil))) (eCall dLen (aCons (eVar 0) (aNil))))) (aNil))) (gN 4)) (sNil))
  (sSeq (sIf (bT (e2 dLt (eVar 4) (eC (.int 0)))) (sAsg (e2 dSub (eC (.int 1)) (e2 dMul (eC (.int 2)) (eVar 4))) (gN 4)) (sNil))
  (sSeq (sAsg (e2 dMod (eCall dInt (aCons (e2 dAdd (e2 dMul (e2 dAdd (e2 dAdd (eVar 4) (e2 dMul (eC (.int 131)) (eVar 3))) (eC (.int 7))) (eC (.int 48271))) (e2 dMul (e2 dMul (eVar 3) (eVar 3)) (eC (.int 69621)))) (aNil))) (eC (.int 1000000007))) (gN 4))
  (sAsg (e2 dMod (eCall dInt (aCons (e2 dMul (e2 dAdd (e2 dAdd (eVar 4) (e2 dMul (eC (.int 17)) (eVar 3))) (eC (.int 3))) (eC (.int 2862933555777941757))) (aNil))) (eC (.int 18446744073709551557))) (gN 4))))) (sNil)) (cE ns n k (some (.int c2))) [.lst (acc.map .int)] = .ok .nx (cE ns n k (some (.int c4))) [.lst (acc.map .int)] := by
    obtain ⟨b, hb⟩ : ∃ b, (bOr (bT (e2 dGe (eVar 3) (eCall dLen (aCons (eVar 0) (aNil))))) (bT (e2 dLt (eVar 4) (eC (.int 1000000000))))) (cE ns n k (some (.int c2))) [.lst (acc.map .int)] = .ok b [.lst (acc.map .int)] := by
      by_cases hc : (ns.length : Int) ≤ k
      · exact ⟨true, by simp only [sSeq, sIf, sB, sE, sAsg, sRet, sRetN, sNil, sExpr, sBrk, sCnt, gN, gT, gsC, gsN, FK.e1, FK.e2, eC, eVar, eCall, aNil, aCons, M.bind, M.pure, eTup, eLst, eNew, eSl, oNone, oSome, bT, bNot, bAnd, bOr, eAnd, eOr, eNot, eIf, eCh, truth, eMs, eMl, dAdd, dSub, dMul, dFdiv, dMod, dLe, dLt, dGe, dGt, dEq, dNe, dIs, dIsnt, D.isNon, dIn, dNotIn, dIdx, dSl, dLen, dInt, dOrd_one, dMax2, dMin2, dTuple, dList, dListC, dApp, dNeg, vw, seq, lstOf, fnD, List.map_cons, List.map_nil, List.length_cons, List.length_nil, List.cons_append, List.nil_append, List.append_nil, List.replicate_succ, List.replicate_zero, List.getElem?_cons_zero, List.getElem?_cons_succ, List.set_cons_zero, List.set_cons_succ, Int.cast_ofNat_Int, Nat.reduceBEq, Int.reduceBEq, Nat.reduceAdd, Nat.reduceSub, Nat.reduceLT, Nat.reduceLeDiff, Nat.zero_add, Nat.add_zero, Nat.sub_zero, Nat.sub_self, ↓reduceIte, if_true, if_false, Bool.not_true, Bool.not_false, Bool.false_eq_true, Bool.true_eq_false, decide_true, decide_false, decide_not, true_and, and_true, and_self, true_or, or_true, not_true_eq_false, not_false_eq_true, ne_eq, reduceCtorEq, Int.reduceLT, Int.reduceLE, Int.reduceNeg, Int.reduceSub, Int.reduceAdd, Int.reduceMul, Int.reducePow, Int.reduceToNat, sz, D.dat, D.datL, D.dep, D.depL, szl, inb, List.any_cons, List.any_nil, Bool.true_and, Bool.false_and, Bool.and_true, Bool.and_false, Bool.or_false, Bool.false_or, Bool.true_or, Bool.or_true, Nat.max_self, Nat.max_zero, Nat.zero_max, Nat.min_self, Nat.zero_le, Nat.min_zero, Nat.zero_min, forL, forX, iR1, iR2, rng1, rng2, iE, itOf, sFor, bYes, scrD, List.length_map, decide_eq_true hc]⟩
      · exact ⟨decide (c2 < 1000000000), by simp only [sSeq, sIf, sB, sE, sAsg, sRet, sRetN, sNil, sExpr, sBrk, sCnt, gN, gT, gsC, gsN, FK.e1, FK.e2, eC, eVar, eCall, aNil, aCons, M.bind, M.pure, eTup, eLst, eNew, eSl, oNone, oSome, bT, bNot, bAnd, bOr, eAnd, eOr, eNot, eIf, eCh, truth, eMs, eMl, dAdd, dSub, dMul, dFdiv, dMod, dLe, dLt, dGe, dGt, dEq, dNe, dIs, dIsnt, D.isNon, dIn, dNotIn, dIdx, dSl, dLen, dInt, dOrd_one, dMax2, dMin2, dTuple, dList, dListC, dApp, dNeg, vw, seq, lstOf, fnD, List.map_cons, List.map_nil, List.length_cons, List.length_nil, List.cons_append, List.nil_append, List.append_nil, List.replicate_succ, List.replicate_zero, List.getElem?_cons_zero, List.getElem?_cons_succ, List.set_cons_zero, List.set_cons_succ, Int.cast_ofNat_Int, Nat.reduceBEq, Int.reduceBEq, Nat.reduceAdd, Nat.reduceSub, Nat.reduceLT, Nat.reduceLeDiff, Nat.zero_add, Nat.add_zero, Nat.sub_zero, Nat.sub_self, ↓reduceIte, if_true, if_false, Bool.not_true, Bool.not_false, Bool.false_eq_true, Bool.true_eq_false, decide_true, decide_false, decide_not, true_and, and_true, and_self, true_or, or_true, not_true_eq_false, not_false_eq_true, ne_eq, reduceCtorEq, Int.reduceLT, Int.reduceLE, Int.reduceNeg, Int.reduceSub, Int.reduceAdd, Int.reduceMul, Int.reducePow, Int.reduceToNat, sz, D.dat, D.datL, D.dep, D.depL, szl, inb, List.any_cons, List.any_nil, Bool.true_and, Bool.false_and, Bool.and_true, Bool.and_false, Bool.or_false, Bool.false_or, Bool.true_or, Bool.or_true, Nat.max_self, Nat.max_zero, Nat.zero_max, Nat.min_self, Nat.zero_le, Nat.min_zero, Nat.zero_min, forL, forX, iR1, iR2, rng1, rng2, iE, itOf, sFor, bYes, scrD, List.length_map, decide_eq_false hc]⟩
    cases b with
    | false =>
      refine ⟨c2, h2, ?_⟩
      unfold sIf sB
      rw [hb]
      rfl
    | true =>
      unfold sIf sB
      rw [hb]
      show ∃ c4, 0 ≤ c4 ∧ sSeq _ _ _ _ = _
      obtain ⟨c3, e3⟩ : ∃ c3, (sIf (bT (e2 dGt (eCall dLen (aCons (eVar 0) (aNil))) (eC (.int 0)))) (sAsg (eCall dInt (aCons (e2 dIdx (eVar 0) (e2 dMod (eCall dInt (aCons (eVar 3) (aNil))) (eCall dLen (aCons (eVar 0) (aNil))))) (aNil))) (gN 4)) (sNil)) (cE ns n k (some (.int c2))) [.lst (acc.map .int)] = .ok .nx (cE ns n k (some (.int c3))) [.lst (acc.map .int)] := by
        by_cases hc : (0 : Int) < ns.length
        · obtain ⟨v, hv⟩ := atI_in (ns := ns) (k := k % ns.length) (Int.emod_nonneg _ (by omega)) (Int.emod_lt_of_pos _ hc)
          refine ⟨v, ?_⟩
          simp only [sSeq, sIf, sB, sE, sAsg, sRet, sRetN, sNil, sExpr, sBrk, sCnt, gN, gT, gsC, gsN, FK.e1, FK.e2, eC, eVar, eCall, aNil, aCons, M.bind, M.pure, eTup, eLst, eNew, eSl, oNone, oSome, bT, bNot, bAnd, bOr, eAnd, eOr, eNot, eIf, eCh, truth, eMs, eMl, dAdd, dSub, dMul, dFdiv, dMod, dLe, dLt, dGe, dGt, dEq, dNe, dIs, dIsnt, D.isNon, dIn, dNotIn, dIdx, dSl, dLen, dInt, dOrd_one, dMax2, dMin2, dTuple, dList, dListC, dApp, dNeg, vw, seq, lstOf, fnD, List.map_cons, List.map_nil, List.length_cons, List.length_nil, List.cons_append, List.nil_append, List.append_nil, List.replicate_succ, List.replicate_zero, List.getElem?_cons_zero, List.getElem?_cons_succ, List.set_cons_zero, List.set_cons_succ, Int.cast_ofNat_Int, Nat.reduceBEq, Int.reduceBEq, Nat.reduceAdd, Nat.reduceSub, Nat.reduceLT, Nat.reduceLeDiff, Nat.zero_add, Nat.add_zero, Nat.sub_zero, Nat.sub_self, ↓reduceIte, if_true, if_false, Bool.not_true, Bool.not_false, Bool.false_eq_true, Bool.true_eq_false, decide_true, decide_false, decide_not, true_and, and_true, and_self, true_or, or_true, not_true_eq_false, not_false_eq_true, ne_eq, reduceCtorEq, Int.reduceLT, Int.reduceLE, Int.reduceNeg, Int.reduceSub, Int.reduceAdd, Int.reduceMul, Int.reducePow, Int.reduceToNat, sz, D.dat, D.datL, D.dep, D.depL, szl, inb, List.any_cons, List.any_nil, Bool.true_and, Bool.false_and, Bool.and_true, Bool.and_false, Bool.or_false, Bool.false_or, Bool.true_or, Bool.or_true, Nat.max_self, Nat.max_zero, Nat.zero_max, Nat.min_self, Nat.zero_le, Nat.min_zero, Nat.zero_min, forL, forX, iR1, iR2, rng1, rng2, iE, itOf, sFor, bYes, scrD, List.length_map, decide_eq_true hc, if_pos hc, hv]
        · refine ⟨c2, ?_⟩
          simp only [sSeq, sIf, sB, sE, sAsg, sRet, sRetN, sNil, sExpr, sBrk, sCnt, gN, gT, gsC, gsN, FK.e1, FK.e2, eC, eVar, eCall, aNil, aCons, M.bind, M.pure, eTup, eLst, eNew, eSl, oNone, oSome, bT, bNot, bAnd, bOr, eAnd, eOr, eNot, eIf, eCh, truth, eMs, eMl, dAdd, dSub, dMul, dFdiv, dMod, dLe, dLt, dGe, dGt, dEq, dNe, dIs, dIsnt, D.isNon, dIn, dNotIn, dIdx, dSl, dLen, dInt, dOrd_one, dMax2, dMin2, dTuple, dList, dListC, dApp, dNeg, vw, seq, lstOf, fnD, List.map_cons, List.map_nil, List.length_cons, List.length_nil, List.cons_append, List.nil_append, List.append_nil, List.replicate_succ, List.replicate_zero, List.getElem?_cons_zero, List.getElem?_cons_succ, List.set_cons_zero, List.set_cons_succ, Int.cast_ofNat_Int, Nat.reduceBEq, Int.reduceBEq, Nat.reduceAdd, Nat.reduceSub, Nat.reduceLT, Nat.reduceLeDiff, Nat.zero_add, Nat.add_zero, Nat.sub_zero, Nat.sub_self, ↓reduceIte, if_true, if_false, Bool.not_true, Bool.not_false, Bool.false_eq_true, Bool.true_eq_false, decide_true, decide_false, decide_not, true_and, and_true, and_self, true_or, or_true, not_true_eq_false, not_false_eq_true, ne_eq, reduceCtorEq, Int.reduceLT, Int.reduceLE, Int.reduceNeg, Int.reduceSub, Int.reduceAdd, Int.reduceMul, Int.reducePow, Int.reduceToNat, sz, D.dat, D.datL, D.dep, D.depL, szl, inb, List.any_cons, List.any_nil, Bool.true_and, Bool.false_and, Bool.and_true, Bool.and_false, Bool.or_false, Bool.false_or, Bool.true_or, Bool.or_true, Nat.max_self, Nat.max_zero, Nat.zero_max, Nat.min_self, Nat.zero_le, Nat.min_zero, Nat.zero_min, forL, forX, iR1, iR2, rng1, rng2, iE, itOf, sFor, bYes, scrD, List.length_map, decide_eq_false hc]
      obtain ⟨c5, h5, e5⟩ := neg c3
      obtain ⟨c6, h6, e6⟩ := last c5
      exact ⟨c6, h6, seq_eq e3 (seq_eq e5 e6)⟩
  refine ⟨c4, h4, seq_eq (ρ1 := cE ns n k (some (.int 0))) (h1 := [.lst (acc.map .int)]) (by simp only [sSeq, sIf, sB, sE, sAsg, sRet, sRetN, sNil, sExpr, sBrk, sCnt, gN, gT, gsC, gsN, FK.e1, FK.e2, eC, eVar, eCall, aNil, aCons, M.bind, M.pure, eTup, eLst, eNew, eSl, oNone, oSome, bT, bNot, bAnd, bOr, eAnd, eOr, eNot, eIf, eCh, truth, eMs, eMl, dAdd, dSub, dMul, dFdiv, dMod, dLe, dLt, dGe, dGt, dEq, dNe, dIs, dIsnt, D.isNon, dIn, dNotIn, dIdx, dSl, dLen, dInt, dOrd_one, dMax2, dMin2, dTuple, dList, dListC, dApp, dNeg, vw, seq, lstOf, fnD, List.map_cons, List.map_nil, List.length_cons, List.length_nil, List.cons_append, List.nil_append, List.append_nil, List.replicate_succ, List.replicate_zero, List.getElem?_cons_zero, List.getElem?_cons_succ, List.set_cons_zero, List.set_cons_succ, Int.cast_ofNat_Int, Nat.reduceBEq, Int.reduceBEq, Nat.reduceAdd, Nat.reduceSub, Nat.reduceLT, Nat.reduceLeDiff, Nat.zero_add, Nat.add_zero, Nat.sub_zero, Nat.sub_self, ↓reduceIte, if_true, if_false, Bool.not_true, Bool.not_false, Bool.false_eq_true, Bool.true_eq_false, decide_true, decide_false, decide_not, true_and, and_true, and_self, true_or, or_true, not_true_eq_false, not_false_eq_true, ne_eq, reduceCtorEq, Int.reduceLT, Int.reduceLE, Int.reduceNeg, Int.reduceSub, Int.reduceAdd, Int.reduceMul, Int.reducePow, Int.reduceToNat, sz, D.dat, D.datL, D.dep, D.depL, szl, inb, List.any_cons, List.any_nil, Bool.true_and, Bool.false_and, Bool.and_true, Bool.and_false, Bool.or_false, Bool.false_or, Bool.true_or, Bool.or_true, Nat.max_self, Nat.max_zero, Nat.zero_max, Nat.min_self, Nat.zero_le, Nat.min_zero, Nat.zero_min, forL, forX, iR1, iR2, rng1, rng2, iE, itOf, sFor, bYes]) (seq_eq e1 (seq_eq e2' (seq_eq e4 ?_)))⟩
  have hz : acc.length < 16777216 := by omega
  simp only [sSeq, sIf, sB, sE, sAsg, sRet, sRetN, sNil, sExpr, sBrk, sCnt, gN, gT, gsC, gsN, FK.e1, FK.e2, eC, eVar, eCall, aNil, aCons, M.bind, M.pure, eTup, eLst, eNew, eSl, oNone, oSome, bT, bNot, bAnd, bOr, eAnd, eOr, eNot, eIf, eCh, truth, eMs, eMl, dAdd, dSub, dMul, dFdiv, dMod, dLe, dLt, dGe, dGt, dEq, dNe, dIs, dIsnt, D.isNon, dIn, dNotIn, dIdx, dSl, dLen, dInt, dOrd_one, dMax2, dMin2, dTuple, dList, dListC, dApp, dNeg, vw, seq, lstOf, fnD, List.map_cons, List.map_nil, List.length_cons, List.length_nil, List.cons_append, List.nil_append, List.append_nil, List.replicate_succ, List.replicate_zero, List.getElem?_cons_zero, List.getElem?_cons_succ, List.set_cons_zero, List.set_cons_succ, Int.cast_ofNat_Int, Nat.reduceBEq, Int.reduceBEq, Nat.reduceAdd, Nat.reduceSub, Nat.reduceLT, Nat.reduceLeDiff, Nat.zero_add, Nat.add_zero, Nat.sub_zero, Nat.sub_self, ↓reduceIte, if_true, if_false, Bool.not_true, Bool.not_false, Bool.false_eq_true, Bool.true_eq_false, decide_true, decide_false, decide_not, true_and, and_true, and_self, true_or, or_true, not_true_eq_false, not_false_eq_true, ne_eq, reduceCtorEq, Int.reduceLT, Int.reduceLE, Int.reduceNeg, Int.reduceSub, Int.reduceAdd, Int.reduceMul, Int.reducePow, Int.reduceToNat, sz, D.dat, D.datL, D.dep, D.depL, szl, inb, List.any_cons, List.any_nil, Bool.true_and, Bool.false_and, Bool.and_true, Bool.and_false, Bool.or_false, Bool.false_or, Bool.true_or, Bool.or_true, Nat.max_self, Nat.max_zero, Nat.zero_max, Nat.min_self, Nat.zero_le, Nat.min_zero, Nat.zero_min, forL, forX, iR1, iR2, rng1, rng2, iE, itOf, sFor, bYes, List.length_map, if_pos hz, List.map_append]
theorem getElem?_rangeD {lo hi : Int} {i : Nat} {d : D} (e : (rangeD lo hi)[i]? = some d) : d = .int (lo + i) ∧ (i : Int) < hi - lo := by
  unfold rangeD at e
  rw [List.getElem?_map] at e
  cases q : (List.range (hi - lo).toNat)[i]? with
  | none => rw [q] at e; cases e
  | some k =>
    rw [q] at e
    obtain ⟨h1, h2⟩ := List.getElem?_eq_some_iff.mp q
    simp at h1 h2
    subst h2
    cases e
    exact ⟨rfl, by omega⟩
theorem length_rangeD (lo hi : Int) : (rangeD lo hi).length = (hi - lo).toNat := by unfold rangeD; simp
/-- a for, by what holds between two turns -/
theorem forL_post {g : GD} {body : SD} (I : Nat → Env → CH → Prop) (P : RS → Prop) : ∀ (ds : List D) (k : Nat), (∀ i d ρ h, ds[i]? = some d → I (k + i) ρ h → ∃ ρ1, g d ρ = some ρ1 ∧
      (match body ρ1 h with | .ok .nx ρ2 h2 => I (k + i + 1) ρ2 h2 | .ok .ct ρ2 h2 => I (k + i + 1) ρ2 h2 | .ok .bk ρ2 h2 => P (.ok .nx ρ2 h2) | r => P r)) →
    (∀ ρ h, I (k + ds.length) ρ h → P (.ok .nx ρ h)) → ∀ ρ h, I k ρ h → P (forL g body ds ρ h)
  | [], k, _, done, ρ, h, hi => done ρ h (by simpa using hi)
  | d :: ds, k, step, done, ρ, h, hi => by
    obtain ⟨ρ1, e1, q⟩ := step 0 d ρ h rfl (by simpa using hi)
    have ih := forL_post (g := g) (body := body) I P ds (k + 1) (fun i d' ρ h e q => by
      have := step (i + 1) d' ρ h (by simpa using e) (by rw [show k + (i + 1) = k + 1 + i by omega]; exact q)
      rw [show k + (i + 1) + 1 = k + 1 + i + 1 by omega] at this
      exact this) (fun ρ h q => done ρ h (by rw [List.length_cons, show k + (ds.length + 1) = k + 1 + ds.length by omega]; exact q))
    unfold forL
    rw [e1]
    dsimp only
    cases eb : body ρ1 h with
    | ok f ρ2 h2 =>
      rw [eb] at q
      cases f with
      | nx => exact ih ρ2 h2 q
      | ct => exact ih ρ2 h2 q
      | bk => exact q
      | rt d => exact q
    | exc c ρ2 h2 => rw [eb] at q; exact q
    | bad => rw [eb] at q; exact q
/-- .. every turn goes on -/
theorem forL_nx {g : GD} {body : SD} (I : Nat → Env → CH → Prop) (ds : List D) (step : ∀ i d ρ h, ds[i]? = some d → I i ρ h → ∃ ρ1, g d ρ = some ρ1 ∧ ∃ ρ2 h2, body ρ1 h = .ok .nx ρ2 h2 ∧ I (i + 1) ρ2 h2) {ρ : Env} {h : CH} (h0 : I 0 ρ h) :
    ∃ ρ' h', forL g body ds ρ h = .ok .nx ρ' h' ∧ I ds.length ρ' h' := by
  refine forL_post (g := g) (body := body) I (fun r => ∃ ρ' h', r = .ok .nx ρ' h' ∧ I ds.length ρ' h') ds 0 (fun i d ρ h e q => ?_) (fun ρ h q => ⟨ρ, h, rfl, by simpa using q⟩) ρ h h0
  rw [Nat.zero_add] at q ⊢
  obtain ⟨ρ1, e1, ρ2, h2, e2, q2⟩ := step i d ρ h e q
  refine ⟨ρ1, e1, ?_⟩
  rw [e2]
  exact q2
theorem mapO_id {f : D → Option D} : ∀ {xs : List D}, (∀ x ∈ xs, f x = some x) → mapO f xs = some xs
  | [], _ => rfl
  | x :: xs, h => by
    unfold mapO
    rw [h x List.mem_cons_self, mapO_id fun y hy => h y (List.mem_cons_of_mem _ hy)]
theorem nrL_iff : ∀ {xs : List D}, D.nrL xs = true ↔ ∀ x ∈ xs, x.nr = true
  | [] => by simp [D.nrL]
  | x :: xs => by simp [D.nrL, nrL_iff (xs := xs)]
theorem fzF_nr {n : Nat} {h : CH} {d : D} (e : d.nr = true) : fzF (n + 1) h d = some d := by unfold fzF; rw [if_pos e]
theorem fz_nr {h : CH} {d : D} (e : d.nr = true) : fz h d = some d := fzF_nr e
theorem fz_ref {h : CH} {k : Nat} {xs : List D} (e : h[k]? = some (.lst xs)) (n : D.nrL xs = true) : fz h (.ref k) = some (.lst xs) := by
  unfold fz fzF
  rw [if_neg (by simp [D.nr])]
  dsimp only
  rw [e]
  dsimp only
  rw [mapO_id fun x hx => fzF_nr (nrL_iff.mp n x hx)]
  rfl
/-- a call whose callee has cells of its own -/
theorem callP_ok {n : Nat} {F : FD} {ds : List D} {h h' : CH} {d d' : D} (hn : D.nrL ds = true) (e : F ds [] = .ok d h') (ef : fz h' d = some d') (hl : ds.length = n := by rfl) : callP n F ds h = .ok d' h := by
  unfold callP
  rw [if_pos hl, if_pos hn, e]
  dsimp only
  rw [ef]
theorem nrL_ints : ∀ ns : List Int, D.nrL (ns.map D.int) = true
  | [] => rfl
  | n :: ns => nrL_ints ns
theorem nr_scr (ns : List Int) : (scrD ns).nr = true := nrL_ints ns
theorem eNew_nil (ρ : Env) (h : CH) : eNew aNil ρ h = .ok (.ref h.length) (h ++ [.lst []]) := if_pos (e := R.bad) (Nat.zero_le sizeLine)
theorem fnD_rt {N : Nat} {body : SD} {ds : List D} {h h' : CH} {ρ ρ' : Env} {d : D} (e : body ρ h = .ok (.rt d) ρ' h') (he : ds.map some ++ List.replicate (N - ds.length) none = ρ := by rfl) : fnD N body ds h = .ok d h' := by
  subst he
  unfold fnD
  rw [e]
theorem fnD_nx {N : Nat} {body : SD} {ds : List D} {h h' : CH} {ρ ρ' : Env} (e : body ρ h = .ok .nx ρ' h') (he : ds.map some ++ List.replicate (N - ds.length) none = ρ := by rfl) : fnD N body ds h = .ok .non h' := by
  subst he
  unfold fnD
  rw [e]
/-- the cells that are drawn from the script -/
noncomputable def cellsB : SD := sSeq (sAsg (eNew (aNil)) (gN 2)) (sSeq (sFor (iR1 (aCons (eVar 1) (aNil))) (gN 3) cellsBody) (sRet (eVar 2)))
theorem cells_ok (ns : List Int) (n : Nat) (hl : ns.length ≤ 63) (hn : n < 1000) (h : CH) : ∃ cs : List Int, cs.length = n ∧ (∀ c ∈ cs, 0 ≤ c) ∧ callP 2 (fnD 5 cellsB) [scrD ns, .int n] h = .ok (.lst (cs.map .int)) h := by
  have hs : sizeLine = 16777216 := sizeLine_eq
  obtain ⟨ρ', h', e, x, y, cs, hc, hp, rfl, rfl⟩ := forL_nx (g := gN 3) (body := cellsBody) (fun i ρ h => ∃ x y, ∃ cs : List Int, cs.length = i ∧ (∀ c ∈ cs, 0 ≤ c) ∧ ρ = [some (scrD ns), some (.int n), some (.ref 0), x, y] ∧ h = [.lst (cs.map .int)]) (rangeD 0 n)
    (fun i d ρ h e ⟨x, y, cs, hc, hp, e1, e2⟩ => by
      obtain ⟨rfl, hi⟩ := getElem?_rangeD e
      subst e1 e2
      refine ⟨_, rfl, ?_⟩
      obtain ⟨c, h0, q⟩ := cells_turn ns cs n (0 + i) y hl (by omega) (by omega) (by omega)
      refine ⟨_, _, q, _, _, cs ++ [c], by simp [hc], fun c' hm => ?_, rfl, rfl⟩
      rcases List.mem_append.mp hm with z | z
      · exact hp c' z
      · rw [List.mem_singleton.mp z]; exact h0) (ρ := [some (scrD ns), some (.int n), some (.ref 0), none, none]) (h := [.lst []]) ⟨none, none, [], rfl, by simp, rfl, rfl⟩
  refine ⟨cs, by rw [hc, length_rangeD]; omega, hp, callP_ok (h' := [.lst (cs.map .int)]) (d := .ref 0) ?_ ?_ (fz_ref rfl (nrL_ints cs))⟩
  · show (D.nr (scrD ns) && true) = true
    rw [nr_scr]; rfl
  · have hr : inR (n : Int) := ⟨by omega, by omega⟩
    refine fnD_rt (ρ' := [some (scrD ns), some (.int n), some (.ref 0), x, y]) ?_
    unfold cellsB
    exact seq_eq (ρ1 := [some (scrD ns), some (.int n), some (.ref 0), none, none]) (h1 := [.lst []]) (by simp only [sSeq, sIf, sB, sE, sAsg, sRet, sRetN, sNil, sExpr, sBrk, sCnt, gN, gT, gsC, gsN, FK.e1, FK.e2, eC, eVar, eCall, aNil, aCons, M.bind, M.pure, eTup, eLst, eSl, oNone, oSome, bT, bNot, bAnd, bOr, eAnd, eOr, eNot, eIf, eCh, truth, eMs, eMl, dAdd, dSub, dMul, dFdiv, dMod, dLe, dLt, dGe, dGt, dEq, dNe, dIs, dIsnt, D.isNon, dIn, dNotIn, dIdx, dSl, dLen, dInt, dOrd_one, dMax2, dMin2, dTuple, dList, dListC, dApp, dNeg, vw, seq, lstOf, fnD, List.map_cons, List.map_nil, List.length_cons, List.length_nil, List.cons_append, List.nil_append, List.append_nil, List.replicate_succ, List.replicate_zero, List.getElem?_cons_zero, List.getElem?_cons_succ, List.set_cons_zero, List.set_cons_succ, Int.cast_ofNat_Int, Nat.reduceBEq, Int.reduceBEq, Nat.reduceAdd, Nat.reduceSub, Nat.reduceLT, Nat.reduceLeDiff, Nat.zero_add, Nat.add_zero, Nat.sub_zero, Nat.sub_self, ↓reduceIte, if_true, if_false, Bool.not_true, Bool.not_false, Bool.false_eq_true, Bool.true_eq_false, decide_true, decide_false, decide_not, true_and, and_true, and_self, true_or, or_true, not_true_eq_false, not_false_eq_true, ne_eq, reduceCtorEq, Int.reduceLT, Int.reduceLE, Int.reduceNeg, Int.reduceSub, Int.reduceAdd, Int.reduceMul, Int.reducePow, Int.reduceToNat, sz, D.dat, D.datL, D.dep, D.depL, szl, inb, List.any_cons, List.any_nil, Bool.true_and, Bool.false_and, Bool.and_true, Bool.and_false, Bool.or_false, Bool.false_or, Bool.true_or, Bool.or_true, Nat.max_self, Nat.max_zero, Nat.zero_max, Nat.min_self, Nat.zero_le, Nat.min_zero, Nat.zero_min, forL, forX, iR1, iR2, rng1, rng2, iE, itOf, sFor, bYes, eNew_nil]) (seq_eq (ρ1 := [some (scrD ns), some (.int n), some (.ref 0), x, y]) (h1 := [.lst (cs.map .int)]) (by simp only [sSeq, sIf, sB, sE, sAsg, sRet, sRetN, sNil, sExpr, sBrk, sCnt, gN, gT, gsC, gsN, FK.e1, FK.e2, eC, eVar, eCall, aNil, aCons, M.bind, M.pure, eTup, eLst, eNew, eSl, oNone, oSome, bT, bNot, bAnd, bOr, eAnd, eOr, eNot, eIf, eCh, truth, eMs, eMl, dAdd, dSub, dMul, dFdiv, dMod, dLe, dLt, dGe, dGt, dEq, dNe, dIs, dIsnt, D.isNon, dIn, dNotIn, dIdx, dSl, dLen, dInt, dOrd_one, dMax2, dMin2, dTuple, dList, dListC, dApp, dNeg, vw, seq, lstOf, fnD, List.map_cons, List.map_nil, List.length_cons, List.length_nil, List.cons_append, List.nil_append, List.append_nil, List.replicate_succ, List.replicate_zero, List.getElem?_cons_zero, List.getElem?_cons_succ, List.set_cons_zero, List.set_cons_succ, Int.cast_ofNat_Int, Nat.reduceBEq, Int.reduceBEq, Nat.reduceAdd, Nat.reduceSub, Nat.reduceLT, Nat.reduceLeDiff, Nat.zero_add, Nat.add_zero, Nat.sub_zero, Nat.sub_self, ↓reduceIte, if_true, if_false, Bool.not_true, Bool.not_false, Bool.false_eq_true, Bool.true_eq_false, decide_true, decide_false, decide_not, true_and, and_true, and_self, true_or, or_true, not_true_eq_false, not_false_eq_true, ne_eq, reduceCtorEq, Int.reduceLT, Int.reduceLE, Int.reduceNeg, Int.reduceSub, Int.reduceAdd, Int.reduceMul, Int.reducePow, Int.reduceToNat, sz, D.dat, D.datL, D.dep, D.depL, szl, inb, List.any_cons, List.any_nil, Bool.true_and, Bool.false_and, Bool.and_true, Bool.and_false, Bool.or_false, Bool.false_or, Bool.true_or, Bool.or_true, Nat.max_self, Nat.max_zero, Nat.zero_max, Nat.min_self, Nat.zero_le, Nat.min_zero, Nat.zero_min, forL, forX, iR1, iR2, rng1, rng2, iE, itOf, sFor, bYes, if_pos hr, e]) rfl)
/-- an end that is a next or a return -/
def Good (r : RS) (N : Env → CH → Prop) (T : D → CH → Prop) : Prop :=
  match r with
  | .ok .nx ρ h => N ρ h
  | .ok (.rt d) _ h => T d h
  | _ => False
theorem Good.seq {a b : SD} {ρ : Env} {h : CH} {N : Env → CH → Prop} {T : D → CH → Prop} (p : Good (a ρ h) (fun ρ1 h1 => Good (b ρ1 h1) N T) T) : Good (sSeq a b ρ h) N T := by
  unfold sSeq
  cases e : a ρ h with
  | ok f ρ1 h1 =>
    rw [e] at p
    cases f with
    | nx => exact p
    | rt d => exact p
    | _ => exact p.elim
  | _ => rw [e] at p; exact p.elim
theorem Good.ite {c : BD} {s t : SD} {ρ : Env} {h h1 : CH} {N : Env → CH → Prop} {T : D → CH → Prop} (b : Bool) (e : c ρ h = .ok b h1) (p : b = true → Good (s ρ h1) N T) (q : b = false → Good (t ρ h1) N T) : Good (sIf c s t ρ h) N T := by
  unfold sIf sB
  rw [e]
  cases b with
  | true => exact p rfl
  | false => exact q rfl
theorem Good.ifT {c : BD} {s t : SD} {ρ : Env} {h : CH} {N : Env → CH → Prop} {T : D → CH → Prop} (h1 : CH) (e : c ρ h = .ok true h1) (p : Good (s ρ h1) N T) : Good (sIf c s t ρ h) N T := Good.ite true e (fun _ => p) (fun q => nomatch q)
theorem Good.ifF {c : BD} {s t : SD} {ρ : Env} {h : CH} {N : Env → CH → Prop} {T : D → CH → Prop} (h1 : CH) (e : c ρ h = .ok false h1) (p : Good (t ρ h1) N T) : Good (sIf c s t ρ h) N T := Good.ite false e (fun q => nomatch q) (fun _ => p)
theorem Good.nx {r : RS} {N : Env → CH → Prop} {T : D → CH → Prop} {ρ : Env} {h : CH} (e : r = .ok .nx ρ h) (n : N ρ h) : Good r N T := by rw [e]; exact n
theorem Good.rt {r : RS} {N : Env → CH → Prop} {T : D → CH → Prop} {d : D} {ρ : Env} {h : CH} (e : r = .ok (.rt d) ρ h) (n : T d h) : Good r N T := by rw [e]; exact n
theorem Good.cut {r : RS} {N' N : Env → CH → Prop} {T : D → CH → Prop} (p : Good r N' T) (q : ∀ ρ h, N' ρ h → N ρ h) : Good r N T := by
  cases r with
  | ok f ρ h =>
    cases f with
    | nx => exact q _ _ p
    | _ => exact p
  | _ => exact p
theorem Good.fn {body : SD} {T : D → CH → Prop} {N : Nat} {ds : List D} {h : CH} {ρ : Env} (p : Good (body ρ h) (fun _ h' => T .non h') T) (he : ds.map some ++ List.replicate (N - ds.length) none = ρ := by rfl) : ∃ d h', fnD N body ds h = .ok d h' ∧ T d h' := by
  subst he
  unfold fnD
  cases e : body (ds.map some ++ List.replicate (N - ds.length) none) h with
  | ok f ρ1 h1 =>
    rw [e] at p
    cases f with
    | nx => exact ⟨_, _, rfl, p⟩
    | rt d => exact ⟨_, _, rfl, p⟩
    | _ => exact p.elim
  | _ => rw [e] at p; exact p.elim
theorem Good.forL {g : GD} {body : SD} {N : Env → CH → Prop} {T : D → CH → Prop} (I : Nat → Env → CH → Prop) (ds : List D) {ρ : Env} {h : CH} (h0 : I 0 ρ h)
    (step : ∀ i d ρ h, ds[i]? = some d → I i ρ h → ∃ ρ1, g d ρ = some ρ1 ∧ Good (body ρ1 h) (I (i + 1)) T) (done : ∀ ρ h, I ds.length ρ h → N ρ h) : Good (forL g body ds ρ h) N T := by
  refine forL_post (g := g) (body := body) I (fun r => Good r N T) ds 0 (fun i d ρ h e q => ?_) (fun ρ h q => done ρ h (by simpa using q)) ρ h h0
  rw [Nat.zero_add] at q
  rw [Nat.zero_add]
  obtain ⟨ρ1, e1, q2⟩ := step i d ρ h e q
  refine ⟨ρ1, e1, ?_⟩
  cases eb : body ρ1 h with
  | ok f ρ2 h2 =>
    rw [eb] at q2
    cases f with
    | nx => exact q2
    | rt d => exact q2
    | _ => exact q2.elim
  | _ => rw [eb] at q2; exact q2.elim
theorem Good.sFor {it : ITD} {g : GD} {body : SD} {ds : List D} {ρ : Env} {h h1 : CH} {N : Env → CH → Prop} {T : D → CH → Prop} (e : it ρ h = .ok (ds, none) h1) (p : Good (FK.forL g body ds ρ h1) N T) : Good (FK.sFor it g body ρ h) N T := by
  unfold FK.sFor
  rw [e]
  exact p
theorem chars_get {x : Str} {i : Nat} {d : D} (e : (chars x)[i]? = some d) : ∃ c, x.cps.toList[i]? = some c ∧ d = .str ⟨#[c]⟩ := by
  unfold chars at e
  rw [List.getElem?_map] at e
  cases q : x.cps.toList[i]? with
  | none => rw [q] at e; cases e
  | some c => rw [q] at e; cases e; exact ⟨c, rfl, rfl⟩
theorem atI_mem {α : Type} {xs : List α} {k : Int} (h0 : 0 ≤ k) (h1 : k < xs.length) : ∃ v, atI xs k = some v ∧ v ∈ xs := by
  obtain ⟨j, rfl⟩ : ∃ j : Nat, k = (j : Int) := ⟨k.toNat, by omega⟩
  have hj : j < xs.length := by omega
  exact ⟨xs[j], L2.atI_nat (List.getElem?_eq_getElem hj), List.getElem_mem hj⟩
end FK

/-! part: FKR -/
set_option linter.all false
set_option maxRecDepth 100000
set_option maxHeartbeats 4000000
namespace FK
open PySem PySem.Spec L2
/-! FKR: rows drawn from the script; comprehensions; texts by their lists. -/
noncomputable def rowsBody : SD := (sSeq (sAsg (eC (.int 0)) (gN 5))
  (sSeq (sIf (bT (e2 dLt (eVar 4) (eCall dLen (aCons (eVar 0) (aNil))))) (sAsg (eCall dInt (aCons (e2 dIdx (eVar 0) (eVar 4)) (aNil))) (gN 5)) (sNil))
  (sSeq (sIf (bT (e2 dLt (eVar 5) (eC (.int 0)))) (sAsg (e2 dSub (eC (.int 1)) (e2 dMul (eC (.int 2)) (eVar 5))) (gN 5)) (sNil))
  (sSeq (sAsg (e2 dMod (eCall dInt (aCons (e2 dAdd (e2 dAdd (e2 dAdd (e2 dMul (eVar 3) (eC (.int 48271))) (e2 dMul (eVar 5) (eC (.int 69621)))) (e2 dMul (eC (.int 2)) (eVar 4))) (eC (.int 1))) (aNil))) (eC (.int 1000000007))) (gN 3))
  (sIf (bT (e2 dGe (eVar 5) (eC (.int 1000000000)))) (sExpr (eMl dApp (eVar 2) (aCons (eVar 5) (aNil)))) (sExpr (eMl dApp (eVar 2) (aCons (e2 dMod (eCall dInt (aCons (e2 dAdd (e2 dMul (eVar 3) (eC (.int 2862933555777941757))) (eC (.int 3037000493))) (aNil))) (eC (.int 18446744073709551557))) (aNil)))))))))
noncomputable def rowsB : SD := sSeq (sAsg (eNew (aNil)) (gN 2))
  (sSeq (sAsg (eC (.int 1)) (gN 3))
  (sSeq (sFor (iR1 (aCons (eVar 1) (aNil))) (gN 4) rowsBody)
  (sRet (eVar 2))))
theorem rows_ok (ns : List Int) (n : Nat) (hl : ns.length ≤ 63) (hn : n < 1000) (h : CH) : ∃ cs : List Int, cs.length = n ∧ (∀ c ∈ cs, 0 ≤ c) ∧ callP 2 (fnD 6 rowsB) [scrD ns, .int n] h = .ok (.lst (cs.map .int)) h := by
  have hr : inR (n : Int) := ⟨by omega, by omega⟩
  obtain ⟨d, h', e, cs, rfl, rfl, hc, hp⟩ := Good.fn (N := 6) (body := rowsB) (ds := [scrD ns, .int n]) (h := []) (ρ := [some (scrD ns), some (.int n), none, none, none, none]) (T := fun d h' => ∃ cs : List Int, d = .ref 0 ∧ h' = [.lst (cs.map .int)] ∧ cs.length = n ∧ (∀ c ∈ cs, 0 ≤ c)) (by
    unfold rowsB
    refine Good.seq (Good.nx (ρ := [some (scrD ns), some (.int n), some (.ref 0), none, none, none]) (h := [.lst []]) ?_ ?_)
    · simp only [sSeq, sIf, sB, sE, sAsg, sRet, sRetN, sNil, sExpr, sBrk, sCnt, gN, gT, gsC, gsN, FK.e1, FK.e2, eC, eVar, eCall, aNil, aCons, M.bind, M.pure, eTup, eLst, eSl, oNone, oSome, bT, bNot, bAnd, bOr, eAnd, eOr, eNot, eIf, eCh, truth, eMs, eMl, dAdd, dSub, dMul, dFdiv, dMod, dLe, dLt, dGe, dGt, dEq, dNe, dIs, dIsnt, D.isNon, dIn, dNotIn, dIdx, dSl, dLen, dInt, dOrd_one, dMax2, dMin2, dTuple, dList, dListC, dApp, dNeg, vw, seq, lstOf, fnD, List.map_cons, List.map_nil, List.length_cons, List.length_nil, List.cons_append, List.nil_append, List.append_nil, List.replicate_succ, List.replicate_zero, List.getElem?_cons_zero, List.getElem?_cons_succ, List.set_cons_zero, List.set_cons_succ, Int.cast_ofNat_Int, Nat.reduceBEq, Int.reduceBEq, Nat.reduceAdd, Nat.reduceSub, Nat.reduceLT, Nat.reduceLeDiff, Nat.zero_add, Nat.add_zero, Nat.sub_zero, Nat.sub_self, ↓reduceIte, if_true, if_false, Bool.not_true, Bool.not_false, Bool.false_eq_true, Bool.true_eq_false, decide_true, decide_false, decide_not, true_and, and_true, and_self, true_or, or_true, not_true_eq_false, not_false_eq_true, ne_eq, reduceCtorEq, Int.reduceLT, Int.reduceLE, Int.reduceNeg, Int.reduceSub, Int.reduceAdd, Int.reduceMul, Int.reducePow, Int.reduceToNat, sz, D.dat, D.datL, D.dep, D.depL, szl, inb, List.any_cons, List.any_nil, Bool.true_and, Bool.false_and, Bool.and_true, Bool.and_false, Bool.or_false, Bool.false_or, Bool.true_or, Bool.or_true, Nat.max_self, Nat.max_zero, Nat.zero_max, Nat.min_self, Nat.zero_le, Nat.min_zero, Nat.zero_min, forL, forX, iR1, iR2, rng1, rng2, iE, itOf, sFor, bYes, eNew_nil]
    refine Good.seq (Good.nx rfl ?_)
    refine Good.seq (Good.sFor (ds := rangeD 0 n) (h1 := [.lst []]) ?_ (Good.forL (fun i ρ h => ∃ (m : Int) (k c : Option D) (cs : List Int), ρ = [some (scrD ns), some (.int n), some (.ref 0), some (.int m), k, c] ∧ h = [.lst (cs.map .int)] ∧ cs.length = i ∧ (∀ c ∈ cs, 0 ≤ c)) (rangeD 0 n) ⟨1, none, none, [], rfl, rfl, rfl, by simp⟩ ?_ ?_))
    · simp only [sSeq, sIf, sB, sE, sAsg, sRet, sRetN, sNil, sExpr, sBrk, sCnt, gN, gT, gsC, gsN, FK.e1, FK.e2, eC, eVar, eCall, aNil, aCons, M.bind, M.pure, eTup, eLst, eNew, eSl, oNone, oSome, bT, bNot, bAnd, bOr, eAnd, eOr, eNot, eIf, eCh, truth, eMs, eMl, dAdd, dSub, dMul, dFdiv, dMod, dLe, dLt, dGe, dGt, dEq, dNe, dIs, dIsnt, D.isNon, dIn, dNotIn, dIdx, dSl, dLen, dInt, dOrd_one, dMax2, dMin2, dTuple, dList, dListC, dApp, dNeg, vw, seq, lstOf, fnD, List.map_cons, List.map_nil, List.length_cons, List.length_nil, List.cons_append, List.nil_append, List.append_nil, List.replicate_succ, List.replicate_zero, List.getElem?_cons_zero, List.getElem?_cons_succ, List.set_cons_zero, List.set_cons_succ, Int.cast_ofNat_Int, Nat.reduceBEq, Int.reduceBEq, Nat.reduceAdd, Nat.reduceSub, Nat.reduceLT, Nat.reduceLeDiff, Nat.zero_add, Nat.add_zero, Nat.sub_zero, Nat.sub_self, ↓reduceIte, if_true, if_false, Bool.not_true, Bool.not_false, Bool.false_eq_true, Bool.true_eq_false, decide_true, decide_false, decide_not, true_and, and_true, and_self, true_or, or_true, not_true_eq_false, not_false_eq_true, ne_eq, reduceCtorEq, Int.reduceLT, Int.reduceLE, Int.reduceNeg, Int.reduceSub, Int.reduceAdd, Int.reduceMul, Int.reducePow, Int.reduceToNat, sz, D.dat, D.datL, D.dep, D.depL, szl, inb, List.any_cons, List.any_nil, Bool.true_and, Bool.false_and, Bool.and_true, Bool.and_false, Bool.or_false, Bool.false_or, Bool.true_or, Bool.or_true, Nat.max_self, Nat.max_zero, Nat.zero_max, Nat.min_self, Nat.zero_le, Nat.min_zero, Nat.zero_min, forL, forX, iR1, iR2, rng1, rng2, iE, itOf, sFor, bYes, if_pos hr]
    · rintro i d ρ h e ⟨m, k, c, cs, rfl, rfl, hc, hp⟩
      obtain ⟨rfl, hi⟩ := getElem?_rangeD e
      rw [Int.zero_add]
      rw [Int.zero_add] at e
      refine ⟨_, rfl, ?_⟩
      unfold rowsBody
      refine Good.seq (Good.nx (ρ := [some (scrD ns), some (.int n), some (.ref 0), some (.int m), some (.int i), some (.int 0)]) rfl ?_)
      refine Good.seq (Good.cut (N' := fun ρ h => ∃ v : Int, ρ = [some (scrD ns), some (.int n), some (.ref 0), some (.int m), some (.int i), some (.int v)] ∧ h = [.lst (cs.map .int)]) (Good.ite (decide ((i : Int) < ns.length)) (by (simp only [sSeq, sIf, sB, sE, sAsg, sRet, sRetN, sNil, sExpr, sBrk, sCnt, gN, gT, gsC, gsN, FK.e1, FK.e2, eC, eVar, eCall, aNil, aCons, M.bind, M.pure, eTup, eLst, eNew, eSl, oNone, oSome, bT, bNot, bAnd, bOr, eAnd, eOr, eNot, eIf, eCh, truth, eMs, eMl, dAdd, dSub, dMul, dFdiv, dMod, dLe, dLt, dGe, dGt, dEq, dNe, dIs, dIsnt, D.isNon, dIn, dNotIn, dIdx, dSl, dLen, dInt, dOrd_one, dMax2, dMin2, dTuple, dList, dListC, dApp, dNeg, vw, seq, lstOf, fnD, List.map_cons, List.map_nil, List.length_cons, List.length_nil, List.cons_append, List.nil_append, List.append_nil, List.replicate_succ, List.replicate_zero, List.getElem?_cons_zero, List.getElem?_cons_succ, List.set_cons_zero, List.set_cons_succ, Int.cast_ofNat_Int, Nat.reduceBEq, Int.reduceBEq, Nat.reduceAdd, Nat.reduceSub, Nat.reduceLT, Nat.reduceLeDiff, Nat.zero_add, Nat.add_zero, Nat.sub_zero, Nat.sub_self, ↓reduceIte, if_true, if_false, Bool.not_true, Bool.not_false, Bool.false_eq_true, Bool.true_eq_false, decide_true, decide_false, decide_not, true_and, and_true, and_self, true_or, or_true, not_true_eq_false, not_false_eq_true, ne_eq, reduceCtorEq, Int.reduceLT, Int.reduceLE, Int.reduceNeg, Int.reduceSub, Int.reduceAdd, Int.reduceMul, Int.reducePow, Int.reduceToNat, sz, D.dat, D.datL, D.dep, D.depL, szl, inb, List.any_cons, List.any_nil, Bool.true_and, Bool.false_and, Bool.and_true, Bool.and_false, Bool.or_false, Bool.false_or, Bool.true_or, Bool.or_true, Nat.max_self, Nat.max_zero, Nat.zero_max, Nat.min_self, Nat.zero_le, Nat.min_zero, Nat.zero_min, forL, forX, iR1, iR2, rng1, rng2, iE, itOf, sFor, bYes, scrD, List.length_map] <;> rfl)) (fun q => ?_) (fun _ => Good.nx rfl ⟨_, rfl, rfl⟩)) ?_)
      · have q := of_decide_eq_true q
        obtain ⟨v, hv⟩ := atI_in (ns := ns) (k := i) (by omega) q
        exact Good.nx (by (simp only [sSeq, sIf, sB, sE, sAsg, sRet, sRetN, sNil, sExpr, sBrk, sCnt, gN, gT, gsC, gsN, FK.e1, FK.e2, eC, eVar, eCall, aNil, aCons, M.bind, M.pure, eTup, eLst, eNew, eSl, oNone, oSome, bT, bNot, bAnd, bOr, eAnd, eOr, eNot, eIf, eCh, truth, eMs, eMl, dAdd, dSub, dMul, dFdiv, dMod, dLe, dLt, dGe, dGt, dEq, dNe, dIs, dIsnt, D.isNon, dIn, dNotIn, dIdx, dSl, dLen, dInt, dOrd_one, dMax2, dMin2, dTuple, dList, dListC, dApp, dNeg, vw, seq, lstOf, fnD, List.map_cons, List.map_nil, List.length_cons, List.length_nil, List.cons_append, List.nil_append, List.append_nil, List.replicate_succ, List.replicate_zero, List.getElem?_cons_zero, List.getElem?_cons_succ, List.set_cons_zero, List.set_cons_succ, Int.cast_ofNat_Int, Nat.reduceBEq, Int.reduceBEq, Nat.reduceAdd, Nat.reduceSub, Nat.reduceLT, Nat.reduceLeDiff, Nat.zero_add, Nat.add_zero, Nat.sub_zero, Nat.sub_self, ↓reduceIte, if_true, if_false, Bool.not_true, Bool.not_false, Bool.false_eq_true, Bool.true_eq_false, decide_true, decide_false, decide_not, true_and, and_true, and_self, true_or, or_true, not_true_eq_false, not_false_eq_true, ne_eq, reduceCtorEq, Int.reduceLT, Int.reduceLE, Int.reduceNeg, Int.reduceSub, Int.reduceAdd, Int.reduceMul, Int.reducePow, Int.reduceToNat, sz, D.dat, D.datL, D.dep, D.depL, szl, inb, List.any_cons, List.any_nil, Bool.true_and, Bool.false_and, Bool.and_true, Bool.and_false, Bool.or_false, Bool.false_or, Bool.true_or, Bool.or_true, Nat.max_self, Nat.max_zero, Nat.zero_max, Nat.min_self, Nat.zero_le, Nat.min_zero, Nat.zero_min, forL, forX, iR1, iR2, rng1, rng2, iE, itOf, sFor, bYes, scrD, hv] <;> rfl)) ⟨v, rfl, rfl⟩
      rintro ρ h ⟨v, rfl, rfl⟩
      refine Good.seq (Good.cut (N' := fun ρ h => ∃ v : Int, ρ = [some (scrD ns), some (.int n), some (.ref 0), some (.int m), some (.int i), some (.int v)] ∧ h = [.lst (cs.map .int)] ∧ 0 ≤ v) (Good.ite (decide (v < 0)) (by (simp only [sSeq, sIf, sB, sE, sAsg, sRet, sRetN, sNil, sExpr, sBrk, sCnt, gN, gT, gsC, gsN, FK.e1, FK.e2, eC, eVar, eCall, aNil, aCons, M.bind, M.pure, eTup, eLst, eNew, eSl, oNone, oSome, bT, bNot, bAnd, bOr, eAnd, eOr, eNot, eIf, eCh, truth, eMs, eMl, dAdd, dSub, dMul, dFdiv, dMod, dLe, dLt, dGe, dGt, dEq, dNe, dIs, dIsnt, D.isNon, dIn, dNotIn, dIdx, dSl, dLen, dInt, dOrd_one, dMax2, dMin2, dTuple, dList, dListC, dApp, dNeg, vw, seq, lstOf, fnD, List.map_cons, List.map_nil, List.length_cons, List.length_nil, List.cons_append, List.nil_append, List.append_nil, List.replicate_succ, List.replicate_zero, List.getElem?_cons_zero, List.getElem?_cons_succ, List.set_cons_zero, List.set_cons_succ, Int.cast_ofNat_Int, Nat.reduceBEq, Int.reduceBEq, Nat.reduceAdd, Nat.reduceSub, Nat.reduceLT, Nat.reduceLeDiff, Nat.zero_add, Nat.add_zero, Nat.sub_zero, Nat.sub_self, ↓reduceIte, if_true, if_false, Bool.not_true, Bool.not_false, Bool.false_eq_true, Bool.true_eq_false, decide_true, decide_false, decide_not, true_and, and_true, and_self, true_or, or_true, not_true_eq_false, not_false_eq_true, ne_eq, reduceCtorEq, Int.reduceLT, Int.reduceLE, Int.reduceNeg, Int.reduceSub, Int.reduceAdd, Int.reduceMul, Int.reducePow, Int.reduceToNat, sz, D.dat, D.datL, D.dep, D.depL, szl, inb, List.any_cons, List.any_nil, Bool.true_and, Bool.false_and, Bool.and_true, Bool.and_false, Bool.or_false, Bool.false_or, Bool.true_or, Bool.or_true, Nat.max_self, Nat.max_zero, Nat.zero_max, Nat.min_self, Nat.zero_le, Nat.min_zero, Nat.zero_min, forL, forX, iR1, iR2, rng1, rng2, iE, itOf, sFor, bYes] <;> rfl)) (fun q => ?_) (fun q => Good.nx rfl ⟨_, rfl, rfl, by have := of_decide_eq_false q; omega⟩)) ?_)
      · have q := of_decide_eq_true q
        exact Good.nx (by (simp only [sSeq, sIf, sB, sE, sAsg, sRet, sRetN, sNil, sExpr, sBrk, sCnt, gN, gT, gsC, gsN, FK.e1, FK.e2, eC, eVar, eCall, aNil, aCons, M.bind, M.pure, eTup, eLst, eNew, eSl, oNone, oSome, bT, bNot, bAnd, bOr, eAnd, eOr, eNot, eIf, eCh, truth, eMs, eMl, dAdd, dSub, dMul, dFdiv, dMod, dLe, dLt, dGe, dGt, dEq, dNe, dIs, dIsnt, D.isNon, dIn, dNotIn, dIdx, dSl, dLen, dInt, dOrd_one, dMax2, dMin2, dTuple, dList, dListC, dApp, dNeg, vw, seq, lstOf, fnD, List.map_cons, List.map_nil, List.length_cons, List.length_nil, List.cons_append, List.nil_append, List.append_nil, List.replicate_succ, List.replicate_zero, List.getElem?_cons_zero, List.getElem?_cons_succ, List.set_cons_zero, List.set_cons_succ, Int.cast_ofNat_Int, Nat.reduceBEq, Int.reduceBEq, Nat.reduceAdd, Nat.reduceSub, Nat.reduceLT, Nat.reduceLeDiff, Nat.zero_add, Nat.add_zero, Nat.sub_zero, Nat.sub_self, ↓reduceIte, if_true, if_false, Bool.not_true, Bool.not_false, Bool.false_eq_true, Bool.true_eq_false, decide_true, decide_false, decide_not, true_and, and_true, and_self, true_or, or_true, not_true_eq_false, not_false_eq_true, ne_eq, reduceCtorEq, Int.reduceLT, Int.reduceLE, Int.reduceNeg, Int.reduceSub, Int.reduceAdd, Int.reduceMul, Int.reducePow, Int.reduceToNat, sz, D.dat, D.datL, D.dep, D.depL, szl, inb, List.any_cons, List.any_nil, Bool.true_and, Bool.false_and, Bool.and_true, Bool.and_false, Bool.or_false, Bool.false_or, Bool.true_or, Bool.or_true, Nat.max_self, Nat.max_zero, Nat.zero_max, Nat.min_self, Nat.zero_le, Nat.min_zero, Nat.zero_min, forL, forX, iR1, iR2, rng1, rng2, iE, itOf, sFor, bYes] <;> rfl)) ⟨1 - 2 * v, rfl, rfl, by omega⟩
      rintro ρ h ⟨v, rfl, rfl, hv⟩
      refine Good.seq (Good.nx (ρ := [some (scrD ns), some (.int n), some (.ref 0), some (.int ((m * 48271 + v * 69621 + 2 * i + 1) % 1000000007)), some (.int i), some (.int v)]) (h := [.lst (cs.map .int)]) (by simp only [sSeq, sIf, sB, sE, sAsg, sRet, sRetN, sNil, sExpr, sBrk, sCnt, gN, gT, gsC, gsN, FK.e1, FK.e2, eC, eVar, eCall, aNil, aCons, M.bind, M.pure, eTup, eLst, eNew, eSl, oNone, oSome, bT, bNot, bAnd, bOr, eAnd, eOr, eNot, eIf, eCh, truth, eMs, eMl, dAdd, dSub, dMul, dFdiv, dMod, dLe, dLt, dGe, dGt, dEq, dNe, dIs, dIsnt, D.isNon, dIn, dNotIn, dIdx, dSl, dLen, dInt, dOrd_one, dMax2, dMin2, dTuple, dList, dListC, dApp, dNeg, vw, seq, lstOf, fnD, List.map_cons, List.map_nil, List.length_cons, List.length_nil, List.cons_append, List.nil_append, List.append_nil, List.replicate_succ, List.replicate_zero, List.getElem?_cons_zero, List.getElem?_cons_succ, List.set_cons_zero, List.set_cons_succ, Int.cast_ofNat_Int, Nat.reduceBEq, Int.reduceBEq, Nat.reduceAdd, Nat.reduceSub, Nat.reduceLT, Nat.reduceLeDiff, Nat.zero_add, Nat.add_zero, Nat.sub_zero, Nat.sub_self, ↓reduceIte, if_true, if_false, Bool.not_true, Bool.not_false, Bool.false_eq_true, Bool.true_eq_false, decide_true, decide_false, decide_not, true_and, and_true, and_self, true_or, or_true, not_true_eq_false, not_false_eq_true, ne_eq, reduceCtorEq, Int.reduceLT, Int.reduceLE, Int.reduceNeg, Int.reduceSub, Int.reduceAdd, Int.reduceMul, Int.reducePow, Int.reduceToNat, sz, D.dat, D.datL, D.dep, D.depL, szl, inb, List.any_cons, List.any_nil, Bool.true_and, Bool.false_and, Bool.and_true, Bool.and_false, Bool.or_false, Bool.false_or, Bool.true_or, Bool.or_true, Nat.max_self, Nat.max_zero, Nat.zero_max, Nat.min_self, Nat.zero_le, Nat.min_zero, Nat.zero_min, forL, forX, iR1, iR2, rng1, rng2, iE, itOf, sFor, bYes]) ?_)
      have hz : (cs.map D.int).length < 16777216 := by rw [List.length_map]; omega
      refine Good.ite (decide (1000000000 ≤ v)) (by (simp only [sSeq, sIf, sB, sE, sAsg, sRet, sRetN, sNil, sExpr, sBrk, sCnt, gN, gT, gsC, gsN, FK.e1, FK.e2, eC, eVar, eCall, aNil, aCons, M.bind, M.pure, eTup, eLst, eNew, eSl, oNone, oSome, bT, bNot, bAnd, bOr, eAnd, eOr, eNot, eIf, eCh, truth, eMs, eMl, dAdd, dSub, dMul, dFdiv, dMod, dLe, dLt, dGe, dGt, dEq, dNe, dIs, dIsnt, D.isNon, dIn, dNotIn, dIdx, dSl, dLen, dInt, dOrd_one, dMax2, dMin2, dTuple, dList, dListC, dApp, dNeg, vw, seq, lstOf, fnD, List.map_cons, List.map_nil, List.length_cons, List.length_nil, List.cons_append, List.nil_append, List.append_nil, List.replicate_succ, List.replicate_zero, List.getElem?_cons_zero, List.getElem?_cons_succ, List.set_cons_zero, List.set_cons_succ, Int.cast_ofNat_Int, Nat.reduceBEq, Int.reduceBEq, Nat.reduceAdd, Nat.reduceSub, Nat.reduceLT, Nat.reduceLeDiff, Nat.zero_add, Nat.add_zero, Nat.sub_zero, Nat.sub_self, ↓reduceIte, if_true, if_false, Bool.not_true, Bool.not_false, Bool.false_eq_true, Bool.true_eq_false, decide_true, decide_false, decide_not, true_and, and_true, and_self, true_or, or_true, not_true_eq_false, not_false_eq_true, ne_eq, reduceCtorEq, Int.reduceLT, Int.reduceLE, Int.reduceNeg, Int.reduceSub, Int.reduceAdd, Int.reduceMul, Int.reducePow, Int.reduceToNat, sz, D.dat, D.datL, D.dep, D.depL, szl, inb, List.any_cons, List.any_nil, Bool.true_and, Bool.false_and, Bool.and_true, Bool.and_false, Bool.or_false, Bool.false_or, Bool.true_or, Bool.or_true, Nat.max_self, Nat.max_zero, Nat.zero_max, Nat.min_self, Nat.zero_le, Nat.min_zero, Nat.zero_min, forL, forX, iR1, iR2, rng1, rng2, iE, itOf, sFor, bYes] <;> rfl)) (fun q => ?_) (fun q => ?_)
      · refine Good.nx (h := [.lst ((cs ++ [v]).map .int)]) (by (simp only [sSeq, sIf, sB, sE, sAsg, sRet, sRetN, sNil, sExpr, sBrk, sCnt, gN, gT, gsC, gsN, FK.e1, FK.e2, eC, eVar, eCall, aNil, aCons, M.bind, M.pure, eTup, eLst, eNew, eSl, oNone, oSome, bT, bNot, bAnd, bOr, eAnd, eOr, eNot, eIf, eCh, truth, eMs, eMl, dAdd, dSub, dMul, dFdiv, dMod, dLe, dLt, dGe, dGt, dEq, dNe, dIs, dIsnt, D.isNon, dIn, dNotIn, dIdx, dSl, dLen, dInt, dOrd_one, dMax2, dMin2, dTuple, dList, dListC, dApp, dNeg, vw, seq, lstOf, fnD, List.map_cons, List.map_nil, List.length_cons, List.length_nil, List.cons_append, List.nil_append, List.append_nil, List.replicate_succ, List.replicate_zero, List.getElem?_cons_zero, List.getElem?_cons_succ, List.set_cons_zero, List.set_cons_succ, Int.cast_ofNat_Int, Nat.reduceBEq, Int.reduceBEq, Nat.reduceAdd, Nat.reduceSub, Nat.reduceLT, Nat.reduceLeDiff, Nat.zero_add, Nat.add_zero, Nat.sub_zero, Nat.sub_self, ↓reduceIte, if_true, if_false, Bool.not_true, Bool.not_false, Bool.false_eq_true, Bool.true_eq_false, decide_true, decide_false, decide_not, true_and, and_true, and_self, true_or, or_true, not_true_eq_false, not_false_eq_true, ne_eq, reduceCtorEq, Int.reduceLT, Int.reduceLE, Int.reduceNeg, Int.reduceSub, Int.reduceAdd, Int.reduceMul, Int.reducePow, Int.reduceToNat, sz, D.dat, D.datL, D.dep, D.depL, szl, inb, List.any_cons, List.any_nil, Bool.true_and, Bool.false_and, Bool.and_true, Bool.and_false, Bool.or_false, Bool.false_or, Bool.true_or, Bool.or_true, Nat.max_self, Nat.max_zero, Nat.zero_max, Nat.min_self, Nat.zero_le, Nat.min_zero, Nat.zero_min, forL, forX, iR1, iR2, rng1, rng2, iE, itOf, sFor, bYes, hz, List.map_append] <;> rfl)) ⟨_, _, _, cs ++ [v], rfl, rfl, by simp [hc], fun c' hm => ?_⟩
        rcases List.mem_append.mp hm with z | z
        · exact hp c' z
        · rw [List.mem_singleton.mp z]; exact hv
      · refine Good.nx (h := [.lst ((cs ++ [(((m * 48271 + v * 69621 + 2 * i + 1) % 1000000007) * 2862933555777941757 + 3037000493) % 18446744073709551557]).map .int)]) (by (simp only [sSeq, sIf, sB, sE, sAsg, sRet, sRetN, sNil, sExpr, sBrk, sCnt, gN, gT, gsC, gsN, FK.e1, FK.e2, eC, eVar, eCall, aNil, aCons, M.bind, M.pure, eTup, eLst, eNew, eSl, oNone, oSome, bT, bNot, bAnd, bOr, eAnd, eOr, eNot, eIf, eCh, truth, eMs, eMl, dAdd, dSub, dMul, dFdiv, dMod, dLe, dLt, dGe, dGt, dEq, dNe, dIs, dIsnt, D.isNon, dIn, dNotIn, dIdx, dSl, dLen, dInt, dOrd_one, dMax2, dMin2, dTuple, dList, dListC, dApp, dNeg, vw, seq, lstOf, fnD, List.map_cons, List.map_nil, List.length_cons, List.length_nil, List.cons_append, List.nil_append, List.append_nil, List.replicate_succ, List.replicate_zero, List.getElem?_cons_zero, List.getElem?_cons_succ, List.set_cons_zero, List.set_cons_succ, Int.cast_ofNat_Int, Nat.reduceBEq, Int.reduceBEq, Nat.reduceAdd, Nat.reduceSub, Nat.reduceLT, Nat.reduceLeDiff, Nat.zero_add, Nat.add_zero, Nat.sub_zero, Nat.sub_self, ↓reduceIte, if_true, if_false, Bool.not_true, Bool.not_false, Bool.false_eq_true, Bool.true_eq_false, decide_true, decide_false, decide_not, true_and, and_true, and_self, true_or, or_true, not_true_eq_false, not_false_eq_true, ne_eq, reduceCtorEq, Int.reduceLT, Int.reduceLE, Int.reduceNeg, Int.reduceSub, Int.reduceAdd, Int.reduceMul, Int.reducePow, Int.reduceToNat, sz, D.dat, D.datL, D.dep, D.depL, szl, inb, List.any_cons, List.any_nil, Bool.true_and, Bool.false_and, Bool.and_true, Bool.and_false, Bool.or_false, Bool.false_or, Bool.true_or, Bool.or_true, Nat.max_self, Nat.max_zero, Nat.zero_max, Nat.min_self, Nat.zero_le, Nat.min_zero, Nat.zero_min, forL, forX, iR1, iR2, rng1, rng2, iE, itOf, sFor, bYes, hz, List.map_append] <;> rfl)) ⟨_, _, _, _, rfl, rfl, by simp [hc], fun c' hm => ?_⟩
        rcases List.mem_append.mp hm with z | z
        · exact hp c' z
        · rw [List.mem_singleton.mp z]; exact Int.emod_nonneg _ (by omega)
    · rintro ρ h ⟨m, k, c, cs, rfl, rfl, hc, hp⟩
      rw [length_rangeD] at hc
      exact Good.rt rfl ⟨cs, rfl, rfl, by omega, hp⟩)
  refine ⟨cs, hc, hp, callP_ok (h' := [.lst (cs.map .int)]) (d := .ref 0) ?_ e (fz_ref rfl (nrL_ints cs))⟩
  show (D.nr (scrD ns) && true) = true
  rw [nr_scr]; rfl
/-! comprehensions -/
theorem lcL_some {g : GD} {b : BD} {f : ED} {ρ : Env} {h : CH} (P : Nat → D → Prop) : ∀ (ds : List D), (∀ i d, ds[i]? = some d → ∃ y, lcT g b f ρ d h = .ok (some y) h ∧ P i y) → ∃ ys, lcL g b f ρ ds h = .ok ys h ∧ ys.length = ds.length ∧ ∀ i y, ys[i]? = some y → P i y
  | [], _ => ⟨[], rfl, rfl, fun i y e => by simp at e⟩
  | d :: ds, q => by
    obtain ⟨y, e1, p1⟩ := q 0 d rfl
    obtain ⟨ys, e2, l2, p2⟩ := lcL_some (P := fun i y => P (i + 1) y) ds (fun i d e => q (i + 1) d (by simpa using e))
    refine ⟨y :: ys, ?_, by simp [l2], fun i z e => ?_⟩
    · unfold lcL
      unfold M.bind
      rw [e1]
      dsimp only
      rw [e2]
      rfl
    · cases i with
      | zero => cases e; exact p1
      | succ i => exact p2 i z (by simpa using e)
/-- the list, for what is drawn without a condition -/
theorem eLc_list {it : ITD} {g : GD} {f : ED} {vs : List Nat} {ρ : Env} {h : CH} {ds : List D} (P : Nat → D → Prop) (hi : it ρ h = .ok (ds, none) h) (hl : ds.length ≤ 16777216) (q : ∀ i d, ds[i]? = some d → ∃ ρ1 y, g d (wipeE ρ vs) = some ρ1 ∧ f ρ1 h = .ok y h ∧ P i y) :
    ∃ ys, eLc lcEnd it g bYes f vs ρ h = .ok (.lst ys) h ∧ ys.length = ds.length ∧ ∀ i y, ys[i]? = some y → P i y := by
  obtain ⟨ys, e, l, p⟩ := lcL_some (g := g) (b := bYes) (f := f) (ρ := wipeE ρ vs) (h := h) P ds (fun i d e => by
    obtain ⟨ρ1, y, e1, e2, p⟩ := q i d e
    refine ⟨y, ?_, p⟩
    unfold lcT
    rw [e1]
    show (match f ρ1 h with | .ok x h2 => R.ok (some x) h2 | _ => .bad) = _
    rw [e2])
  refine ⟨ys, ?_, l, p⟩
  unfold eLc
  unfold M.bind
  rw [hi]
  dsimp only
  unfold lcX
  dsimp only
  rw [e]
  dsimp only
  unfold lcEnd
  rw [← l] at hl
  exact if_pos (by rw [sz]; exact hl)
theorem strsD_map : ∀ zs : List Str, strsD (zs.map D.str) = some zs
  | [] => rfl
  | z :: zs => by rw [List.map_cons, strsD, strsD_map zs]; rfl
theorem strs_of {p : Str → Prop} : ∀ {ys : List D}, (∀ (i : Nat) y, ys[i]? = some y → ∃ z : Str, y = D.str z ∧ p z) → ∃ zs : List Str, ys = zs.map D.str ∧ ∀ z ∈ zs, p z
  | [], _ => ⟨[], rfl, fun z h => by cases h⟩
  | y :: ys, q => by
    obtain ⟨z, rfl, pz⟩ := q 0 y rfl
    obtain ⟨zs, rfl, pzs⟩ := strs_of (ys := ys) fun i y e => q (i + 1) y (by simpa using e)
    refine ⟨z :: zs, rfl, fun w h => ?_⟩
    rcases List.mem_cons.mp h with rfl | h
    · exact pz
    · exact pzs w h
/-! texts by their lists -/
abbrev tx (x : Str) : List Nat := x.cps.toList
theorem tx_ext {a b : Str} (h : tx a = tx b) : a = b := by
  cases a; cases b
  simp only [tx, Array.toList_inj] at h
  rw [h]
theorem tx_len (a : Str) : (tx a).length = a.length := by simp [tx, Str.length]
theorem tx_app (a b : Str) : tx (a ++ b) = tx a ++ tx b := by
  show (a.cps ++ b.cps).toList = _
  rw [Array.toList_append]
theorem tx_cut (a : Str) (lo hi : Option Int) : tx (cutS a lo hi) = ((tx a).drop (HT.sIx a.length 0 lo)).take (HT.sIx a.length a.length hi - HT.sIx a.length 0 lo) := by
  unfold cutS
  simp [tx]
theorem dJoin_lst {a : Str} {zs : List Str} {h : CH} (hz : (zs.map (·.length)).sum + zs.length * a.length ≤ 16777216) : dJoin a [.lst (zs.map .str)] h = .ok (.str (Txt.join a zs)) h := by
  unfold dJoin seq vw
  dsimp only
  rw [strsD_map]
  exact if_pos hz
theorem dJoin_tup {a : Str} {zs : List Str} {h : CH} (hz : (zs.map (·.length)).sum + zs.length * a.length ≤ 16777216) : dJoin a [.tup (zs.map .str)] h = .ok (.str (Txt.join a zs)) h := by
  unfold dJoin seq vw
  dsimp only
  rw [strsD_map]
  exact if_pos hz
theorem len_mul (x : Str) (n : Nat) : (Txt.mul x n).length = x.length * n := by
  have h := PyProof.Rows.len_mul x n
  rw [decide_eq_false (by omega), if_neg (by decide)] at h
  exact_mod_cast h
theorem len_cut_le (a : Str) (lo hi : Option Int) : (cutS a lo hi).length ≤ a.length := by
  rw [← tx_len, tx_cut, List.length_take, List.length_drop, tx_len]
  omega
theorem len_cut_to (x : Str) (n : Nat) : (cutS x none (some (n : Int))).length = min n x.length := by
  rw [← tx_len, tx_cut, HT.sIx_nat]
  show (((tx x).drop 0).take (min n x.length - 0)).length = _
  rw [List.drop_zero, List.length_take, tx_len]
  omega
theorem len_join (a : Str) (zs : List Str) : (Txt.join a zs).length = (zs.map (·.length)).sum + (zs.length - 1) * a.length := size_glued a zs
end FK

/-! part: FKN -/
set_option linter.all false
set_option maxRecDepth 100000
set_option maxHeartbeats 4000000
namespace FK
open PySem PySem.Spec L2
/-! FKN: names and paths. -/
noncomputable def isNameB : SD := sSeq (sIf (bOr (bNot (bT (eCh dLe dLe (eC (.int 1)) (eCall dLen (aCons (eVar 0) (aNil))) (eC (.int 100))))) (bT (e2 dIn (eVar 0) (eTup (aCons (eC (.str ".")) (aCons (eC (.str "..")) (aNil))))))) (sRet (eC (.bl false))) (sNil))
  (sSeq (sFor (iE (eVar 0)) (gN 1) (sIf (bOr (bT (e2 dLt (eCall dOrd (aCons (eVar 1) (aNil))) (eC (.int 32)))) (bT (e2 dEq (eVar 1) (eC (.str "/"))))) (sRet (eC (.bl false))) (sNil)))
  (sRet (eC (.bl true))))
/-! is_name -/
def badC (c : Nat) : Bool := decide ((c : Int) < 32) || D.eqb (.str ⟨#[c]⟩) (.str "/")
theorem badC_ok {v : Nat} {ρ : Env} {h : CH} {c : Nat} (e : eVar v ρ h = .ok (.str ⟨#[c]⟩) h) : (bOr (bT (e2 dLt (eCall dOrd (aCons (eVar v) (aNil))) (eC (.int 32)))) (bT (e2 dEq (eVar v) (eC (.str "/"))))) ρ h = .ok (badC c) h := by
  have e1 : bT (e2 dLt (eCall dOrd (aCons (eVar v) (aNil))) (eC (.int 32))) ρ h = .ok (decide ((c : Int) < 32)) h := by
    unfold bT e2 eCall aCons aNil
    unfold M.bind
    rw [e]
    rfl
  have e2 : bT (e2 dEq (eVar v) (eC (.str "/"))) ρ h = .ok (D.eqb (.str ⟨#[c]⟩) (.str "/")) h := by
    unfold bT FK.e2
    unfold M.bind
    rw [e]
    rfl
  unfold bOr badC
  unfold M.bind
  rw [e1]
  cases decide ((c : Int) < 32) with
  | true => rfl
  | false => exact e2
def st0 (x : Str) : Bool := decide ((1 : Int) ≤ x.length) && decide ((x.length : Int) ≤ 100) && !D.eqb (.str ".") (.str x) && !D.eqb (.str "..") (.str x)
theorem eqb_comm (a b : D) : D.eqb a b = D.eqb b a := PySem.W.eqv_comm a.py b.py
theorem any_take {p : Nat → Bool} : ∀ {cs : List Nat} {i c : Nat}, cs[i]? = some c → (cs.take (i + 1)).any p = ((cs.take i).any p || p c)
  | _ :: _, 0, _, e => by cases e; simp
  | _ :: cs, i + 1, _, e => by
    have := any_take (p := p) (cs := cs) (i := i) (by simpa using e)
    simp only [List.take_succ_cons, List.any_cons] at this ⊢
    rw [this, Bool.or_assoc]
theorem any_of_mem {p : Nat → Bool} {cs : List Nat} {i c : Nat} (e : cs[i]? = some c) (h : p c = true) : cs.any p = true := List.any_eq_true.mpr ⟨c, List.mem_of_getElem? e, h⟩
/-- is_name -/
def nm (x : Str) : Bool := st0 x && !x.cps.toList.any badC
theorem isn_fn (x : Str) (hl : x.length ≤ 16777216) (h : CH) : ∃ d h', fnD 2 isNameB [.str x] h = .ok d h' ∧ d = .bl (st0 x && !x.cps.toList.any badC) ∧ h' = h := by
  refine Good.fn (ρ := [some (.str x), none]) (T := fun d h' => d = .bl (st0 x && !x.cps.toList.any badC) ∧ h' = h) ?_
  unfold isNameB
  refine Good.seq (Good.ite (h1 := h) (!st0 x) ?_ (fun e => ?_) (fun e => ?_))
  · have c1 : (bT (eCh dLe dLe (eC (.int 1)) (eCall dLen (aCons (eVar 0) (aNil))) (eC (.int 100)))) [some (.str x), none] h = .ok (decide ((1 : Int) ≤ x.length) && decide ((x.length : Int) ≤ 100)) h := by
      by_cases a : (1 : Int) ≤ x.length
      · simp only [sSeq, sIf, sB, sE, sAsg, sRet, sRetN, sNil, sExpr, sBrk, sCnt, gN, gT, gsC, gsN, FK.e1, FK.e2, eC, eVar, eCall, aNil, aCons, M.bind, M.pure, eTup, eLst, eNew, eSl, oNone, oSome, bT, bNot, bAnd, bOr, eAnd, eOr, eNot, eIf, eCh, truth, eMs, eMl, dAdd, dSub, dMul, dFdiv, dMod, dLe, dLt, dGe, dGt, dEq, dNe, dIs, dIsnt, D.isNon, dIn, dNotIn, dIdx, dSl, dLen, dInt, dOrd_one, dMax2, dMin2, dTuple, dList, dListC, dApp, dNeg, vw, seq, lstOf, fnD, List.map_cons, List.map_nil, List.length_cons, List.length_nil, List.cons_append, List.nil_append, List.append_nil, List.replicate_succ, List.replicate_zero, List.getElem?_cons_zero, List.getElem?_cons_succ, List.set_cons_zero, List.set_cons_succ, Int.cast_ofNat_Int, Nat.reduceBEq, Int.reduceBEq, Nat.reduceAdd, Nat.reduceSub, Nat.reduceLT, Nat.reduceLeDiff, Nat.zero_add, Nat.add_zero, Nat.sub_zero, Nat.sub_self, ↓reduceIte, if_true, if_false, Bool.not_true, Bool.not_false, Bool.false_eq_true, Bool.true_eq_false, decide_true, decide_false, decide_not, true_and, and_true, and_self, true_or, or_true, not_true_eq_false, not_false_eq_true, ne_eq, reduceCtorEq, Int.reduceLT, Int.reduceLE, Int.reduceNeg, Int.reduceSub, Int.reduceAdd, Int.reduceMul, Int.reducePow, Int.reduceToNat, sz, D.dat, D.datL, D.dep, D.depL, szl, inb, List.any_cons, List.any_nil, Bool.true_and, Bool.false_and, Bool.and_true, Bool.and_false, Bool.or_false, Bool.false_or, Bool.true_or, Bool.or_true, Nat.max_self, Nat.max_zero, Nat.zero_max, Nat.min_self, Nat.zero_le, Nat.min_zero, Nat.zero_min, forL, forX, iR1, iR2, rng1, rng2, iE, itOf, sFor, bYes, hl, decide_eq_true a]
      · simp only [sSeq, sIf, sB, sE, sAsg, sRet, sRetN, sNil, sExpr, sBrk, sCnt, gN, gT, gsC, gsN, FK.e1, FK.e2, eC, eVar, eCall, aNil, aCons, M.bind, M.pure, eTup, eLst, eNew, eSl, oNone, oSome, bT, bNot, bAnd, bOr, eAnd, eOr, eNot, eIf, eCh, truth, eMs, eMl, dAdd, dSub, dMul, dFdiv, dMod, dLe, dLt, dGe, dGt, dEq, dNe, dIs, dIsnt, D.isNon, dIn, dNotIn, dIdx, dSl, dLen, dInt, dOrd_one, dMax2, dMin2, dTuple, dList, dListC, dApp, dNeg, vw, seq, lstOf, fnD, List.map_cons, List.map_nil, List.length_cons, List.length_nil, List.cons_append, List.nil_append, List.append_nil, List.replicate_succ, List.replicate_zero, List.getElem?_cons_zero, List.getElem?_cons_succ, List.set_cons_zero, List.set_cons_succ, Int.cast_ofNat_Int, Nat.reduceBEq, Int.reduceBEq, Nat.reduceAdd, Nat.reduceSub, Nat.reduceLT, Nat.reduceLeDiff, Nat.zero_add, Nat.add_zero, Nat.sub_zero, Nat.sub_self, ↓reduceIte, if_true, if_false, Bool.not_true, Bool.not_false, Bool.false_eq_true, Bool.true_eq_false, decide_true, decide_false, decide_not, true_and, and_true, and_self, true_or, or_true, not_true_eq_false, not_false_eq_true, ne_eq, reduceCtorEq, Int.reduceLT, Int.reduceLE, Int.reduceNeg, Int.reduceSub, Int.reduceAdd, Int.reduceMul, Int.reducePow, Int.reduceToNat, sz, D.dat, D.datL, D.dep, D.depL, szl, inb, List.any_cons, List.any_nil, Bool.true_and, Bool.false_and, Bool.and_true, Bool.and_false, Bool.or_false, Bool.false_or, Bool.true_or, Bool.or_true, Nat.max_self, Nat.max_zero, Nat.zero_max, Nat.min_self, Nat.zero_le, Nat.min_zero, Nat.zero_min, forL, forX, iR1, iR2, rng1, rng2, iE, itOf, sFor, bYes, hl, decide_eq_false a]
    have c2 : bT (e2 dIn (eVar 0) (eTup (aCons (eC (.str ".")) (aCons (eC (.str "..")) (aNil))))) [some (.str x), none] h = .ok (D.eqb (.str ".") (.str x) || (D.eqb (.str "..") (.str x) || false)) h := by
      simp only [sSeq, sIf, sB, sE, sAsg, sRet, sRetN, sNil, sExpr, sBrk, sCnt, gN, gT, gsC, gsN, FK.e1, FK.e2, eC, eVar, eCall, aNil, aCons, M.bind, M.pure, eTup, eLst, eNew, eSl, oNone, oSome, bT, bNot, bAnd, bOr, eAnd, eOr, eNot, eIf, eCh, truth, eMs, eMl, dAdd, dSub, dMul, dFdiv, dMod, dLe, dLt, dGe, dGt, dEq, dNe, dIs, dIsnt, D.isNon, dIn, dNotIn, dIdx, dSl, dLen, dInt, dOrd_one, dMax2, dMin2, dTuple, dList, dListC, dApp, dNeg, vw, seq, lstOf, fnD, List.map_cons, List.map_nil, List.length_cons, List.length_nil, List.cons_append, List.nil_append, List.append_nil, List.replicate_succ, List.replicate_zero, List.getElem?_cons_zero, List.getElem?_cons_succ, List.set_cons_zero, List.set_cons_succ, Int.cast_ofNat_Int, Nat.reduceBEq, Int.reduceBEq, Nat.reduceAdd, Nat.reduceSub, Nat.reduceLT, Nat.reduceLeDiff, Nat.zero_add, Nat.add_zero, Nat.sub_zero, Nat.sub_self, ↓reduceIte, if_true, if_false, Bool.not_true, Bool.not_false, Bool.false_eq_true, Bool.true_eq_false, decide_true, decide_false, decide_not, true_and, and_true, and_self, true_or, or_true, not_true_eq_false, not_false_eq_true, ne_eq, reduceCtorEq, Int.reduceLT, Int.reduceLE, Int.reduceNeg, Int.reduceSub, Int.reduceAdd, Int.reduceMul, Int.reducePow, Int.reduceToNat, sz, D.dat, D.datL, D.dep, D.depL, szl, inb, List.any_cons, List.any_nil, Bool.true_and, Bool.false_and, Bool.and_true, Bool.and_false, Bool.or_false, Bool.false_or, Bool.true_or, Bool.or_true, Nat.max_self, Nat.max_zero, Nat.zero_max, Nat.min_self, Nat.zero_le, Nat.min_zero, Nat.zero_min, forL, forX, iR1, iR2, rng1, rng2, iE, itOf, sFor, bYes]
    unfold st0 bOr bNot
    unfold M.bind
    rw [c1]
    cases decide ((1 : Int) ≤ x.length) && decide ((x.length : Int) ≤ 100) with
    | false => rfl
    | true =>
      rw [Bool.true_and]
      refine c2.trans ?_
      cases D.eqb (.str ".") (.str x) <;> cases D.eqb (.str "..") (.str x) <;> rfl
  · rw [Bool.not_eq_true'] at e
    refine Good.rt rfl ?_
    rw [e]
    exact ⟨rfl, rfl⟩
  · have e' : st0 x = true := by simpa using e
    rw [e', Bool.true_and]
    refine Good.seq (Good.forL (fun i ρ h' => h' = h ∧ (∃ y, ρ = [some (.str x), y]) ∧ (x.cps.toList.take i).any badC = false) (chars x) ⟨rfl, ⟨_, rfl⟩, rfl⟩ (fun i d ρ h' e q => ?_) (fun ρ h' q => ?_))
    · obtain ⟨rfl, ⟨y, rfl⟩, q⟩ := q
      obtain ⟨c, e2, rfl⟩ := chars_get e
      refine ⟨_, rfl, Good.ite (badC c) (badC_ok rfl) (fun b => ?_) (fun b => ?_)⟩
      · refine Good.rt rfl ?_
        rw [any_of_mem e2 b]
        exact ⟨rfl, rfl⟩
      · exact Good.nx rfl ⟨rfl, ⟨_, rfl⟩, by rw [any_take e2, q, b]; rfl⟩
    · obtain ⟨rfl, ⟨y, rfl⟩, q⟩ := q
      have : (chars x).length = x.cps.toList.length := by simp [chars]
      rw [this, List.take_length] at q
      exact Good.rt rfl ⟨by rw [q]; rfl, rfl⟩
theorem isn_ok (x : Str) (hl : x.length ≤ 16777216) (h : CH) : callP 1 (fnD 2 isNameB) [.str x] h = .ok (.bl (nm x)) h := by
  obtain ⟨d, h', e, rfl, rfl⟩ := isn_fn x hl []
  exact callP_ok rfl e (fz_nr rfl)
/-- the elements alone -/
theorem eLc_map {it : ITD} {g : GD} {f : ED} {vs : List Nat} {ρ : Env} {h : CH} {ds : List D} (F : D → D) {o : Option Nat} (ho : o = none := by rfl) (hi : it ρ h = .ok (ds, o) h) (hl : ds.length ≤ 16777216) (q : ∀ d ∈ ds, ∃ ρ1, g d (wipeE ρ vs) = some ρ1 ∧ f ρ1 h = .ok (F d) h) :
    eLc lcEnd it g bYes f vs ρ h = .ok (.lst (ds.map F)) h := by
  subst ho
  obtain ⟨ys, e, l, p⟩ := eLc_list (it := it) (g := g) (f := f) (vs := vs) (ρ := ρ) (h := h) (fun i y => ∃ d, ds[i]? = some d ∧ y = F d) hi hl (fun i d e => by
    obtain ⟨ρ1, e1, e2⟩ := q d (List.mem_of_getElem? e)
    exact ⟨ρ1, _, e1, e2, d, e, rfl⟩)
  rw [e, show ys = ds.map F from List.ext_getElem? fun i => by
    rw [List.getElem?_map]
    cases e1 : ys[i]? with
    | some y =>
      obtain ⟨d, e2, rfl⟩ := p i y e1
      rw [e2]; rfl
    | none =>
      have := List.getElem?_eq_none_iff.mp e1
      rw [List.getElem?_eq_none_iff.mpr (by omega)]; rfl]
theorem len_join_mem {a : Str} : ∀ {ys : List Str} {y : Str}, y ∈ ys → y.length ≤ (Str.join a ys).length
  | [y], _, h => by rw [List.mem_singleton.mp h]; exact Nat.le_refl _
  | y :: z :: ys, w, h => by
    have e : (Str.join a (y :: z :: ys)).length = y.length + a.length + (Str.join a (z :: ys)).length := by
      show ((y ++ a) ++ Str.join a (z :: ys)).length = _
      rw [PySem.Str.length_append, PySem.Str.length_append]
    rcases List.mem_cons.mp h with rfl | h
    · omega
    · have := len_join_mem (a := a) h
      omega
theorem len_split {x y : Str} : ∀ p ∈ Txt.split x y, p.length ≤ x.length := fun p hp => by
  have := len_join_mem (a := y) hp
  rwa [StrLaws.join_split] at this
theorem count_join {a : Str} (ha : a.length = 1) : ∀ ys : List Str, ys.length ≤ (Str.join a ys).length + 1
  | [] => Nat.zero_le _
  | [y] => by simp
  | y :: z :: ys => by
    have e : (Str.join a (y :: z :: ys)).length = y.length + a.length + (Str.join a (z :: ys)).length := by
      show ((y ++ a) ++ Str.join a (z :: ys)).length = _
      rw [PySem.Str.length_append, PySem.Str.length_append]
    have := count_join ha (z :: ys)
    simp only [List.length_cons] at *
    omega
theorem count_split {x y : Str} (hy : y.length = 1) : (Txt.split x y).length ≤ x.length + 1 := by
  have := count_join hy (Txt.split x y)
  rwa [StrLaws.join_split] at this
theorem nrL_strs : ∀ zs : List Str, D.nrL (zs.map D.str) = true
  | [] => rfl
  | z :: zs => nrL_strs zs
theorem nrL_tup (zs : List Str) : D.nrL [D.tup (zs.map D.str)] = true := by
  show (D.nrL (zs.map D.str) && true) = true
  rw [nrL_strs]; rfl
noncomputable def readPathB : SD := sSeq (sIf (bT (e2 dEq (eVar 0) (eC (.str "")))) (sRet (eTup (aNil))) (sNil))
  (sSeq (sAsg (eMs dSplit (eVar 0) (aCons (eC (.str "/")) (aNil))) (gN 1))
  (sSeq (sFor (iE (eVar 1)) (gN 2) (sIf (bNot (bT (eCall (callP 1 (fnD 2 isNameB)) (aCons (eVar 2) (aNil))))) (sRet (eC .non)) (sNil)))
  (sRet (eCall dTuple (aCons (eVar 1) (aNil))))))
abbrev sl : Str := "/"
theorem len_sl : sl.length = 1 := by decide
def rdPath (x : Str) : D := if D.eqb (.str x) (.str "") then .tup [] else if (Txt.split x sl).all nm then .tup ((Txt.split x sl).map D.str) else .non
theorem read_ok (x : Str) (hl : x.length ≤ 1000000) (h : CH) : callP 1 (fnD 3 readPathB) [.str x] h = .ok (rdPath x) h := by
  have hl2 : x.length + 2 ≤ 16777216 := by omega
  have lsl : (Str.ofString "/").length = 1 := len_sl
  obtain ⟨d, h', e, rfl, rfl⟩ := Good.fn (N := 3) (body := readPathB) (ds := [.str x]) (h := []) (ρ := [some (.str x), none, none]) (T := fun d h' => d = rdPath x ∧ h' = []) (by
    unfold readPathB rdPath
    refine Good.seq (Good.ite (D.eqb (.str x) (.str "")) (by (simp only [sSeq, sIf, sB, sE, sAsg, sRet, sRetN, sNil, sExpr, sBrk, sCnt, gN, gT, gsC, gsN, FK.e1, FK.e2, eC, eVar, eCall, aNil, aCons, M.bind, M.pure, eTup, eLst, eNew, eSl, oNone, oSome, bT, bNot, bAnd, bOr, eAnd, eOr, eNot, eIf, eCh, truth, eMs, eMl, dAdd, dSub, dMul, dFdiv, dMod, dLe, dLt, dGe, dGt, dEq, dNe, dIs, dIsnt, D.isNon, dIn, dNotIn, dIdx, dSl, dLen, dInt, dOrd_one, dMax2, dMin2, dTuple, dList, dListC, dApp, dNeg, vw, seq, lstOf, fnD, List.map_cons, List.map_nil, List.length_cons, List.length_nil, List.cons_append, List.nil_append, List.append_nil, List.replicate_succ, List.replicate_zero, List.getElem?_cons_zero, List.getElem?_cons_succ, List.set_cons_zero, List.set_cons_succ, Int.cast_ofNat_Int, Nat.reduceBEq, Int.reduceBEq, Nat.reduceAdd, Nat.reduceSub, Nat.reduceLT, Nat.reduceLeDiff, Nat.zero_add, Nat.add_zero, Nat.sub_zero, Nat.sub_self, ↓reduceIte, if_true, if_false, Bool.not_true, Bool.not_false, Bool.false_eq_true, Bool.true_eq_false, decide_true, decide_false, decide_not, true_and, and_true, and_self, true_or, or_true, not_true_eq_false, not_false_eq_true, ne_eq, reduceCtorEq, Int.reduceLT, Int.reduceLE, Int.reduceNeg, Int.reduceSub, Int.reduceAdd, Int.reduceMul, Int.reducePow, Int.reduceToNat, sz, D.dat, D.datL, D.dep, D.depL, szl, inb, List.any_cons, List.any_nil, Bool.true_and, Bool.false_and, Bool.and_true, Bool.and_false, Bool.or_false, Bool.false_or, Bool.true_or, Bool.or_true, Nat.max_self, Nat.max_zero, Nat.zero_max, Nat.min_self, Nat.zero_le, Nat.min_zero, Nat.zero_min, forL, forX, iR1, iR2, rng1, rng2, iE, itOf, sFor, bYes] <;> rfl)) (fun q => Good.rt (d := .tup []) (by (simp only [sSeq, sIf, sB, sE, sAsg, sRet, sRetN, sNil, sExpr, sBrk, sCnt, gN, gT, gsC, gsN, FK.e1, FK.e2, eC, eVar, eCall, aNil, aCons, M.bind, M.pure, eTup, eLst, eNew, eSl, oNone, oSome, bT, bNot, bAnd, bOr, eAnd, eOr, eNot, eIf, eCh, truth, eMs, eMl, dAdd, dSub, dMul, dFdiv, dMod, dLe, dLt, dGe, dGt, dEq, dNe, dIs, dIsnt, D.isNon, dIn, dNotIn, dIdx, dSl, dLen, dInt, dOrd_one, dMax2, dMin2, dTuple, dList, dListC, dApp, dNeg, vw, seq, lstOf, fnD, List.map_cons, List.map_nil, List.length_cons, List.length_nil, List.cons_append, List.nil_append, List.append_nil, List.replicate_succ, List.replicate_zero, List.getElem?_cons_zero, List.getElem?_cons_succ, List.set_cons_zero, List.set_cons_succ, Int.cast_ofNat_Int, Nat.reduceBEq, Int.reduceBEq, Nat.reduceAdd, Nat.reduceSub, Nat.reduceLT, Nat.reduceLeDiff, Nat.zero_add, Nat.add_zero, Nat.sub_zero, Nat.sub_self, ↓reduceIte, if_true, if_false, Bool.not_true, Bool.not_false, Bool.false_eq_true, Bool.true_eq_false, decide_true, decide_false, decide_not, true_and, and_true, and_self, true_or, or_true, not_true_eq_false, not_false_eq_true, ne_eq, reduceCtorEq, Int.reduceLT, Int.reduceLE, Int.reduceNeg, Int.reduceSub, Int.reduceAdd, Int.reduceMul, Int.reducePow, Int.reduceToNat, sz, D.dat, D.datL, D.dep, D.depL, szl, inb, List.any_cons, List.any_nil, Bool.true_and, Bool.false_and, Bool.and_true, Bool.and_false, Bool.or_false, Bool.false_or, Bool.true_or, Bool.or_true, Nat.max_self, Nat.max_zero, Nat.zero_max, Nat.min_self, Nat.zero_le, Nat.min_zero, Nat.zero_min, forL, forX, iR1, iR2, rng1, rng2, iE, itOf, sFor, bYes] <;> rfl)) ⟨by rw [if_pos q], rfl⟩) (fun q => ?_))
    rw [q]
    refine Good.nx rfl (Good.seq (Good.nx (ρ := [some (.str x), some (.lst ((Txt.split x sl).map D.str)), none]) (h := []) (by (simp only [sSeq, sIf, sB, sE, sAsg, sRet, sRetN, sNil, sExpr, sBrk, sCnt, gN, gT, gsC, gsN, FK.e1, FK.e2, eC, eVar, eCall, aNil, aCons, M.bind, M.pure, eTup, eLst, eNew, eSl, oNone, oSome, bT, bNot, bAnd, bOr, eAnd, eOr, eNot, eIf, eCh, truth, eMs, eMl, dAdd, dSub, dMul, dFdiv, dMod, dLe, dLt, dGe, dGt, dEq, dNe, dIs, dIsnt, D.isNon, dIn, dNotIn, dIdx, dSl, dLen, dInt, dOrd_one, dMax2, dMin2, dTuple, dList, dListC, dApp, dNeg, vw, seq, lstOf, fnD, List.map_cons, List.map_nil, List.length_cons, List.length_nil, List.cons_append, List.nil_append, List.append_nil, List.replicate_succ, List.replicate_zero, List.getElem?_cons_zero, List.getElem?_cons_succ, List.set_cons_zero, List.set_cons_succ, Int.cast_ofNat_Int, Nat.reduceBEq, Int.reduceBEq, Nat.reduceAdd, Nat.reduceSub, Nat.reduceLT, Nat.reduceLeDiff, Nat.zero_add, Nat.add_zero, Nat.sub_zero, Nat.sub_self, ↓reduceIte, if_true, if_false, Bool.not_true, Bool.not_false, Bool.false_eq_true, Bool.true_eq_false, decide_true, decide_false, decide_not, true_and, and_true, and_self, true_or, or_true, not_true_eq_false, not_false_eq_true, ne_eq, reduceCtorEq, Int.reduceLT, Int.reduceLE, Int.reduceNeg, Int.reduceSub, Int.reduceAdd, Int.reduceMul, Int.reducePow, Int.reduceToNat, sz, D.dat, D.datL, D.dep, D.depL, szl, inb, List.any_cons, List.any_nil, Bool.true_and, Bool.false_and, Bool.and_true, Bool.and_false, Bool.or_false, Bool.false_or, Bool.true_or, Bool.or_true, Nat.max_self, Nat.max_zero, Nat.zero_max, Nat.min_self, Nat.zero_le, Nat.min_zero, Nat.zero_min, forL, forX, iR1, iR2, rng1, rng2, iE, itOf, sFor, bYes, dSplit, lsl, hl2] <;> rfl)) ?_))
    refine Good.seq (Good.sFor (ds := (Txt.split x sl).map D.str) rfl (Good.forL (fun i ρ h => ∃ y, ρ = [some (.str x), some (.lst ((Txt.split x sl).map D.str)), y] ∧ h = [] ∧ ((Txt.split x sl).take i).all nm = true) _ ⟨_, rfl, rfl, rfl⟩ ?_ ?_))
    · rintro i d ρ h e ⟨y, rfl, rfl, hy⟩
      rw [List.getElem?_map] at e
      cases ez : (Txt.split x sl)[i]? with
      | none => rw [ez] at e; cases e
      | some z =>
        rw [ez] at e
        cases e
        have hz := len_split z (List.mem_of_getElem? ez)
        have e3 := isn_ok z (by omega) []
        refine ⟨_, rfl, Good.ite (!nm z) (by (simp only [sSeq, sIf, sB, sE, sAsg, sRet, sRetN, sNil, sExpr, sBrk, sCnt, gN, gT, gsC, gsN, FK.e1, FK.e2, eC, eVar, eCall, aNil, aCons, M.bind, M.pure, eTup, eLst, eNew, eSl, oNone, oSome, bT, bNot, bAnd, bOr, eAnd, eOr, eNot, eIf, eCh, truth, eMs, eMl, dAdd, dSub, dMul, dFdiv, dMod, dLe, dLt, dGe, dGt, dEq, dNe, dIs, dIsnt, D.isNon, dIn, dNotIn, dIdx, dSl, dLen, dInt, dOrd_one, dMax2, dMin2, dTuple, dList, dListC, dApp, dNeg, vw, seq, lstOf, fnD, List.map_cons, List.map_nil, List.length_cons, List.length_nil, List.cons_append, List.nil_append, List.append_nil, List.replicate_succ, List.replicate_zero, List.getElem?_cons_zero, List.getElem?_cons_succ, List.set_cons_zero, List.set_cons_succ, Int.cast_ofNat_Int, Nat.reduceBEq, Int.reduceBEq, Nat.reduceAdd, Nat.reduceSub, Nat.reduceLT, Nat.reduceLeDiff, Nat.zero_add, Nat.add_zero, Nat.sub_zero, Nat.sub_self, ↓reduceIte, if_true, if_false, Bool.not_true, Bool.not_false, Bool.false_eq_true, Bool.true_eq_false, decide_true, decide_false, decide_not, true_and, and_true, and_self, true_or, or_true, not_true_eq_false, not_false_eq_true, ne_eq, reduceCtorEq, Int.reduceLT, Int.reduceLE, Int.reduceNeg, Int.reduceSub, Int.reduceAdd, Int.reduceMul, Int.reducePow, Int.reduceToNat, sz, D.dat, D.datL, D.dep, D.depL, szl, inb, List.any_cons, List.any_nil, Bool.true_and, Bool.false_and, Bool.and_true, Bool.and_false, Bool.or_false, Bool.false_or, Bool.true_or, Bool.or_true, Nat.max_self, Nat.max_zero, Nat.zero_max, Nat.min_self, Nat.zero_le, Nat.min_zero, Nat.zero_min, forL, forX, iR1, iR2, rng1, rng2, iE, itOf, sFor, bYes, e3] <;> rfl)) (fun q => ?_) (fun q => ?_)⟩
        · refine Good.rt (by (simp only [sSeq, sIf, sB, sE, sAsg, sRet, sRetN, sNil, sExpr, sBrk, sCnt, gN, gT, gsC, gsN, FK.e1, FK.e2, eC, eVar, eCall, aNil, aCons, M.bind, M.pure, eTup, eLst, eNew, eSl, oNone, oSome, bT, bNot, bAnd, bOr, eAnd, eOr, eNot, eIf, eCh, truth, eMs, eMl, dAdd, dSub, dMul, dFdiv, dMod, dLe, dLt, dGe, dGt, dEq, dNe, dIs, dIsnt, D.isNon, dIn, dNotIn, dIdx, dSl, dLen, dInt, dOrd_one, dMax2, dMin2, dTuple, dList, dListC, dApp, dNeg, vw, seq, lstOf, fnD, List.map_cons, List.map_nil, List.length_cons, List.length_nil, List.cons_append, List.nil_append, List.append_nil, List.replicate_succ, List.replicate_zero, List.getElem?_cons_zero, List.getElem?_cons_succ, List.set_cons_zero, List.set_cons_succ, Int.cast_ofNat_Int, Nat.reduceBEq, Int.reduceBEq, Nat.reduceAdd, Nat.reduceSub, Nat.reduceLT, Nat.reduceLeDiff, Nat.zero_add, Nat.add_zero, Nat.sub_zero, Nat.sub_self, ↓reduceIte, if_true, if_false, Bool.not_true, Bool.not_false, Bool.false_eq_true, Bool.true_eq_false, decide_true, decide_false, decide_not, true_and, and_true, and_self, true_or, or_true, not_true_eq_false, not_false_eq_true, ne_eq, reduceCtorEq, Int.reduceLT, Int.reduceLE, Int.reduceNeg, Int.reduceSub, Int.reduceAdd, Int.reduceMul, Int.reducePow, Int.reduceToNat, sz, D.dat, D.datL, D.dep, D.depL, szl, inb, List.any_cons, List.any_nil, Bool.true_and, Bool.false_and, Bool.and_true, Bool.and_false, Bool.or_false, Bool.false_or, Bool.true_or, Bool.or_true, Nat.max_self, Nat.max_zero, Nat.zero_max, Nat.min_self, Nat.zero_le, Nat.min_zero, Nat.zero_min, forL, forX, iR1, iR2, rng1, rng2, iE, itOf, sFor, bYes] <;> rfl)) ⟨?_, rfl⟩
          rw [if_neg (by decide), if_neg]
          intro hh
          have := List.all_eq_true.mp hh z (List.mem_of_getElem? ez)
          rw [this] at q
          cases q
        · refine Good.nx rfl ⟨_, rfl, rfl, ?_⟩
          rw [List.take_succ, ez, List.all_append, hy]
          have : nm z = true := by simpa using q
          simp [this]
    · rintro ρ h ⟨y, rfl, rfl, hy⟩
      rw [List.length_map, List.take_length] at hy
      refine Good.rt (by (simp only [sSeq, sIf, sB, sE, sAsg, sRet, sRetN, sNil, sExpr, sBrk, sCnt, gN, gT, gsC, gsN, FK.e1, FK.e2, eC, eVar, eCall, aNil, aCons, M.bind, M.pure, eTup, eLst, eNew, eSl, oNone, oSome, bT, bNot, bAnd, bOr, eAnd, eOr, eNot, eIf, eCh, truth, eMs, eMl, dAdd, dSub, dMul, dFdiv, dMod, dLe, dLt, dGe, dGt, dEq, dNe, dIs, dIsnt, D.isNon, dIn, dNotIn, dIdx, dSl, dLen, dInt, dOrd_one, dMax2, dMin2, dTuple, dList, dListC, dApp, dNeg, vw, seq, lstOf, fnD, List.map_cons, List.map_nil, List.length_cons, List.length_nil, List.cons_append, List.nil_append, List.append_nil, List.replicate_succ, List.replicate_zero, List.getElem?_cons_zero, List.getElem?_cons_succ, List.set_cons_zero, List.set_cons_succ, Int.cast_ofNat_Int, Nat.reduceBEq, Int.reduceBEq, Nat.reduceAdd, Nat.reduceSub, Nat.reduceLT, Nat.reduceLeDiff, Nat.zero_add, Nat.add_zero, Nat.sub_zero, Nat.sub_self, ↓reduceIte, if_true, if_false, Bool.not_true, Bool.not_false, Bool.false_eq_true, Bool.true_eq_false, decide_true, decide_false, decide_not, true_and, and_true, and_self, true_or, or_true, not_true_eq_false, not_false_eq_true, ne_eq, reduceCtorEq, Int.reduceLT, Int.reduceLE, Int.reduceNeg, Int.reduceSub, Int.reduceAdd, Int.reduceMul, Int.reducePow, Int.reduceToNat, sz, D.dat, D.datL, D.dep, D.depL, szl, inb, List.any_cons, List.any_nil, Bool.true_and, Bool.false_and, Bool.and_true, Bool.and_false, Bool.or_false, Bool.false_or, Bool.true_or, Bool.or_true, Nat.max_self, Nat.max_zero, Nat.zero_max, Nat.min_self, Nat.zero_le, Nat.min_zero, Nat.zero_min, forL, forX, iR1, iR2, rng1, rng2, iE, itOf, sFor, bYes] <;> rfl)) ⟨?_, rfl⟩
      rw [if_neg (by decide), if_pos hy])
  refine callP_ok rfl e (fz_nr ?_)
  unfold rdPath
  split
  · rfl
  · split
    · exact nrL_strs _
    · rfl
theorem datL_strs : ∀ zs : List Str, D.datL (zs.map D.str) = true
  | [] => rfl
  | z :: zs => datL_strs zs
theorem depL_strs : ∀ zs : List Str, D.depL (zs.map D.str) = 0
  | [] => rfl
  | z :: zs => by
    show max 0 (D.depL (zs.map D.str)) = 0
    rw [depL_strs zs]; rfl
theorem eqvAll_strs : ∀ zs : List Str, PyData.eqvAll (D.pyL (zs.map D.str)) (D.pyL (zs.map D.str)) = true
  | [] => rfl
  | z :: zs => by
    show (PyData.eqv (.str z) (.str z) && PyData.eqvAll (D.pyL (zs.map D.str)) (D.pyL (zs.map D.str))) = true
    rw [eqvAll_strs zs]
    show ((z == z) && true) = true
    simp
theorem eqb_tupS (zs : List Str) : D.eqb (.tup (zs.map .str)) (.tup (zs.map .str)) = true := eqvAll_strs zs
theorem eqb_refl (x : Str) : D.eqb (.str x) (.str x) = true := by
  show (x == x) = true
  simp
theorem blsD_map : ∀ zs : List Bool, blsD (zs.map D.bl) = some zs
  | [] => rfl
  | z :: zs => by rw [List.map_cons, blsD, blsD_map zs]; rfl
theorem dAll_lst {bs : List Bool} {h : CH} : dAll [.lst (bs.map .bl)] h = .ok (.bl (bs.all id)) h := by
  unfold dAll lstOf vw
  dsimp only
  rw [blsD_map]
theorem dAny_lst {bs : List Bool} {h : CH} : dAny [.lst (bs.map .bl)] h = .ok (.bl (bs.any id)) h := by
  unfold dAny lstOf vw
  dsimp only
  rw [blsD_map]
theorem gN_wipe {ρ : Env} {i : Nat} {d : D} : gN i d (wipeE ρ [i]) = some ((wipeE ρ [i]).set i (some d)) := rfl
end FK

/-! part: FKE -/
set_option linter.all false
set_option maxRecDepth 100000
set_option maxHeartbeats 4000000
namespace FK
open PySem PySem.Spec L2
/-! FKE: endings, stems, names with a word. -/
theorem Good.wh {c : BD} {b : SD} {N : Env → CH → Prop} {T : D → CH → Prop} (I : Nat → Env → CH → Prop)
    (step : ∀ n ρ h, I n ρ h → ∃ k h1, c ρ h = .ok k h1 ∧ (k = false → N ρ h1) ∧ (k = true → Good (b ρ h1) (fun ρ2 h2 => ∃ m, m < n ∧ I m ρ2 h2) T)) : ∀ (fuel n : Nat) (ρ : Env) (h : CH), n < fuel → I n ρ h → Good (whL c b fuel ρ h) N T
  | 0, n, _, _, hn, _ => absurd hn (Nat.not_lt_zero n)
  | fuel + 1, n, ρ, h, hn, hi => by
    obtain ⟨k, h1, e, q1, q2⟩ := step n ρ h hi
    unfold whL sB
    rw [e]
    cases k with
    | false => exact q1 rfl
    | true =>
      have g := q2 rfl
      show Good (match b ρ h1 with | .ok .nx ρ2 h2 => whL c b fuel ρ2 h2 | .ok .ct ρ2 h2 => whL c b fuel ρ2 h2 | .ok .bk ρ2 h2 => .ok .nx ρ2 h2 | r => r) N T
      cases eb : b ρ h1 with
      | ok f ρ2 h2 =>
        rw [eb] at g
        cases f with
        | nx =>
          obtain ⟨m, hm, hi2⟩ := g
          exact Good.wh I step fuel m ρ2 h2 (by omega) hi2
        | rt d => exact g
        | _ => exact g.elim
      | _ => rw [eb] at g; exact g.elim
abbrev dot : Str := "."
/-- where the last dot behind the first sign is, or 0 -/
def LastDot (x : Str) (a : Nat) : Prop := (a = 0 ∨ (tx x)[a]? = some 46) ∧ ∀ k, a < k → (tx x)[k]? ≠ some 46
theorem LastDot.uniq {x : Str} {a b : Nat} (ha : LastDot x a) (hb : LastDot x b) : a = b := by
  rcases Nat.lt_trichotomy a b with h | h | h
  · rcases hb.1 with rfl | e
    · omega
    · exact absurd e (ha.2 b h)
  · exact h
  · rcases ha.1 with rfl | e
    · omega
    · exact absurd e (hb.2 a h)
theorem dot_eq : dot = ⟨#[46]⟩ := by decide
theorem rfind_dot (x : Str) : ∃ a, LastDot x a ∧ ((0 < a ∧ Txt.rfind x dot = (a : Int)) ∨ (a = 0 ∧ Txt.rfind x dot ≤ 0)) := by
  have key : ∀ i, StrLaws.At x dot x.length i ↔ (tx x)[i]? = some 46 := fun i => by
    unfold StrLaws.At
    rw [dot_eq]
    exact StrLaws.subAt_one x 46 i
  rcases PyProof.Rows.rfind_whole x dot with ⟨e, hn⟩ | ⟨i, e, hi, hn⟩
  · exact ⟨0, ⟨.inl rfl, fun k _ => fun h => hn k ((key k).mpr h)⟩, .inr ⟨rfl, by omega⟩⟩
  · refine ⟨i, ⟨.inr ((key i).mp hi), fun k hk => fun h => hn k hk ((key k).mpr h)⟩, ?_⟩
    rcases Nat.eq_zero_or_pos i with rfl | h
    · exact .inr ⟨rfl, by omega⟩
    · exact .inl ⟨h, e⟩
noncomputable def ldot (x : Str) : Nat := (rfind_dot x).choose
theorem ldot_spec (x : Str) : LastDot x (ldot x) := (rfind_dot x).choose_spec.1
theorem ldot_rfind (x : Str) : (0 < ldot x ∧ Txt.rfind x dot = (ldot x : Int)) ∨ (ldot x = 0 ∧ Txt.rfind x dot ≤ 0) := (rfind_dot x).choose_spec.2
theorem ldot_lt (x : Str) : 0 < ldot x → ldot x < x.length := fun h => by
  rcases (ldot_spec x).1 with e | e
  · omega
  · rw [← tx_len]
    exact (List.getElem?_eq_some_iff.mp e).1
/-- the ending -/
noncomputable def endg (x : Str) : Str := if 0 < ldot x ∧ x.length - ldot x ≤ 10 then cutS x (some (ldot x : Int)) none else ""
theorem endg_tx (x : Str) : tx (endg x) = (tx x).drop (x.length - (endg x).length) ∧ (endg x).length ≤ 10 ∧ (endg x).length ≤ x.length := by
  unfold endg
  by_cases h : 0 < ldot x ∧ x.length - ldot x ≤ 10
  · rw [if_pos h]
    have hl := ldot_lt x h.1
    have e : tx (cutS x (some (ldot x : Int)) none) = (tx x).drop (ldot x) := by
      rw [tx_cut, HT.sIx_nat, Nat.min_eq_left (by omega)]
      show List.take (x.length - ldot x) _ = _
      exact List.take_of_length_le (by rw [List.length_drop, tx_len]; omega)
    have el : (cutS x (some (ldot x : Int)) none).length = x.length - ldot x := by rw [← tx_len, e, List.length_drop, tx_len]
    rw [el, e]
    exact ⟨by rw [show x.length - (x.length - ldot x) = ldot x by omega], by omega, by omega⟩
  · rw [if_neg h]
    have e0 : (Str.ofString "").length = 0 := by decide
    rw [e0]
    refine ⟨?_, by omega, by omega⟩
    rw [Nat.sub_zero, ← tx_len, List.drop_length]
    decide
noncomputable def endingB : SD := sSeq (sAsg (eMs dRfind (eVar 0) (aCons (eC (.str ".")) (aNil))) (gN 1))
  (sSeq (sIf (bAnd (bT (e2 dGt (eVar 1) (eC (.int 0)))) (bT (e2 dLe (e2 dSub (eCall dLen (aCons (eVar 0) (aNil))) (eVar 1)) (eC (.int 10))))) (sRet (eSl (eVar 0) (oSome (eVar 1)) (oNone))) (sNil))
  (sRet (eC (.str ""))))
theorem ending_ok (x : Str) (hl : x.length ≤ 16777216) (h : CH) : callP 1 (fnD 2 endingB) [.str x] h = .ok (.str (endg x)) h := by
  refine callP_ok rfl (?_ : fnD 2 endingB [.str x] [] = .ok (.str (endg x)) []) (fz_nr rfl)
  obtain ⟨d, h', e, rfl, rfl⟩ := Good.fn (N := 2) (body := endingB) (ds := [.str x]) (h := []) (ρ := [some (.str x), none]) (T := fun d h' => d = .str (endg x) ∧ h' = []) (by
    unfold endingB endg
    refine Good.seq (Good.nx (ρ := [some (.str x), some (.int (Txt.rfind x dot))]) (h := []) (by (simp only [sSeq, sIf, sB, sE, sAsg, sRet, sRetN, sNil, sExpr, sBrk, sCnt, gN, gT, gsC, gsN, FK.e1, FK.e2, eC, eVar, eCall, aNil, aCons, M.bind, M.pure, eTup, eLst, eNew, eSl, oNone, oSome, bT, bNot, bAnd, bOr, eAnd, eOr, eNot, eIf, eCh, truth, eMs, eMl, dAdd, dSub, dMul, dFdiv, dMod, dLe, dLt, dGe, dGt, dEq, dNe, dIs, dIsnt, D.isNon, dIn, dNotIn, dIdx, dSl, dLen, dInt, dOrd_one, dMax2, dMin2, dTuple, dList, dListC, dApp, dNeg, vw, seq, lstOf, fnD, List.map_cons, List.map_nil, List.length_cons, List.length_nil, List.cons_append, List.nil_append, List.append_nil, List.replicate_succ, List.replicate_zero, List.getElem?_cons_zero, List.getElem?_cons_succ, List.set_cons_zero, List.set_cons_succ, Int.cast_ofNat_Int, Nat.reduceBEq, Int.reduceBEq, Nat.reduceAdd, Nat.reduceSub, Nat.reduceLT, Nat.reduceLeDiff, Nat.zero_add, Nat.add_zero, Nat.sub_zero, Nat.sub_self, ↓reduceIte, if_true, if_false, Bool.not_true, Bool.not_false, Bool.false_eq_true, Bool.true_eq_false, decide_true, decide_false, decide_not, true_and, and_true, and_self, true_or, or_true, not_true_eq_false, not_false_eq_true, ne_eq, reduceCtorEq, Int.reduceLT, Int.reduceLE, Int.reduceNeg, Int.reduceSub, Int.reduceAdd, Int.reduceMul, Int.reducePow, Int.reduceToNat, sz, D.dat, D.datL, D.dep, D.depL, szl, inb, List.any_cons, List.any_nil, Bool.true_and, Bool.false_and, Bool.and_true, Bool.and_false, Bool.or_false, Bool.false_or, Bool.true_or, Bool.or_true, Nat.max_self, Nat.max_zero, Nat.zero_max, Nat.min_self, Nat.zero_le, Nat.min_zero, Nat.zero_min, forL, forX, iR1, iR2, rng1, rng2, iE, itOf, sFor, bYes, dRfind] <;> rfl)) ?_)
    rcases ldot_rfind x with ⟨h0, e⟩ | ⟨h0, e⟩
    · rw [e]
      have hlt := ldot_lt x h0
      have h1 : (0 : Int) < ldot x := by omega
      by_cases h2 : (x.length : Int) - ldot x ≤ 10
      · refine Good.seq (Good.ifT [] (by simp only [sSeq, sIf, sB, sE, sAsg, sRet, sRetN, sNil, sExpr, sBrk, sCnt, gN, gT, gsC, gsN, FK.e1, FK.e2, eC, eVar, eCall, aNil, aCons, M.bind, M.pure, eTup, eLst, eNew, eSl, oNone, oSome, bT, bNot, bAnd, bOr, eAnd, eOr, eNot, eIf, eCh, truth, eMs, eMl, dAdd, dSub, dMul, dFdiv, dMod, dLe, dLt, dGe, dGt, dEq, dNe, dIs, dIsnt, D.isNon, dIn, dNotIn, dIdx, dSl, dLen, dInt, dOrd_one, dMax2, dMin2, dTuple, dList, dListC, dApp, dNeg, vw, seq, lstOf, fnD, List.map_cons, List.map_nil, List.length_cons, List.length_nil, List.cons_append, List.nil_append, List.append_nil, List.replicate_succ, List.replicate_zero, List.getElem?_cons_zero, List.getElem?_cons_succ, List.set_cons_zero, List.set_cons_succ, Int.cast_ofNat_Int, Nat.reduceBEq, Int.reduceBEq, Nat.reduceAdd, Nat.reduceSub, Nat.reduceLT, Nat.reduceLeDiff, Nat.zero_add, Nat.add_zero, Nat.sub_zero, Nat.sub_self, ↓reduceIte, if_true, if_false, Bool.not_true, Bool.not_false, Bool.false_eq_true, Bool.true_eq_false, decide_true, decide_false, decide_not, true_and, and_true, and_self, true_or, or_true, not_true_eq_false, not_false_eq_true, ne_eq, reduceCtorEq, Int.reduceLT, Int.reduceLE, Int.reduceNeg, Int.reduceSub, Int.reduceAdd, Int.reduceMul, Int.reducePow, Int.reduceToNat, sz, D.dat, D.datL, D.dep, D.depL, szl, inb, List.any_cons, List.any_nil, Bool.true_and, Bool.false_and, Bool.and_true, Bool.and_false, Bool.or_false, Bool.false_or, Bool.true_or, Bool.or_true, Nat.max_self, Nat.max_zero, Nat.zero_max, Nat.min_self, Nat.zero_le, Nat.min_zero, Nat.zero_min, forL, forX, iR1, iR2, rng1, rng2, iE, itOf, sFor, bYes, hl, decide_eq_true h1, decide_eq_true h2, gt_iff_lt]) (Good.rt (d := .str (cutS x (some (ldot x : Int)) none)) (ρ := [some (.str x), some (.int (ldot x))]) (h := []) (by simp only [sSeq, sIf, sB, sE, sAsg, sRet, sRetN, sNil, sExpr, sBrk, sCnt, gN, gT, gsC, gsN, FK.e1, FK.e2, eC, eVar, eCall, aNil, aCons, M.bind, M.pure, eTup, eLst, eNew, eSl, oNone, oSome, bT, bNot, bAnd, bOr, eAnd, eOr, eNot, eIf, eCh, truth, eMs, eMl, dAdd, dSub, dMul, dFdiv, dMod, dLe, dLt, dGe, dGt, dEq, dNe, dIs, dIsnt, D.isNon, dIn, dNotIn, dIdx, dSl, dLen, dInt, dOrd_one, dMax2, dMin2, dTuple, dList, dListC, dApp, dNeg, vw, seq, lstOf, fnD, List.map_cons, List.map_nil, List.length_cons, List.length_nil, List.cons_append, List.nil_append, List.append_nil, List.replicate_succ, List.replicate_zero, List.getElem?_cons_zero, List.getElem?_cons_succ, List.set_cons_zero, List.set_cons_succ, Int.cast_ofNat_Int, Nat.reduceBEq, Int.reduceBEq, Nat.reduceAdd, Nat.reduceSub, Nat.reduceLT, Nat.reduceLeDiff, Nat.zero_add, Nat.add_zero, Nat.sub_zero, Nat.sub_self, ↓reduceIte, if_true, if_false, Bool.not_true, Bool.not_false, Bool.false_eq_true, Bool.true_eq_false, decide_true, decide_false, decide_not, true_and, and_true, and_self, true_or, or_true, not_true_eq_false, not_false_eq_true, ne_eq, reduceCtorEq, Int.reduceLT, Int.reduceLE, Int.reduceNeg, Int.reduceSub, Int.reduceAdd, Int.reduceMul, Int.reducePow, Int.reduceToNat, sz, D.dat, D.datL, D.dep, D.depL, szl, inb, List.any_cons, List.any_nil, Bool.true_and, Bool.false_and, Bool.and_true, Bool.and_false, Bool.or_false, Bool.false_or, Bool.true_or, Bool.or_true, Nat.max_self, Nat.max_zero, Nat.zero_max, Nat.min_self, Nat.zero_le, Nat.min_zero, Nat.zero_min, forL, forX, iR1, iR2, rng1, rng2, iE, itOf, sFor, bYes, hl]) ⟨by rw [if_pos ⟨h0, by omega⟩], rfl⟩))
      · refine Good.seq (Good.ifF [] (by simp only [sSeq, sIf, sB, sE, sAsg, sRet, sRetN, sNil, sExpr, sBrk, sCnt, gN, gT, gsC, gsN, FK.e1, FK.e2, eC, eVar, eCall, aNil, aCons, M.bind, M.pure, eTup, eLst, eNew, eSl, oNone, oSome, bT, bNot, bAnd, bOr, eAnd, eOr, eNot, eIf, eCh, truth, eMs, eMl, dAdd, dSub, dMul, dFdiv, dMod, dLe, dLt, dGe, dGt, dEq, dNe, dIs, dIsnt, D.isNon, dIn, dNotIn, dIdx, dSl, dLen, dInt, dOrd_one, dMax2, dMin2, dTuple, dList, dListC, dApp, dNeg, vw, seq, lstOf, fnD, List.map_cons, List.map_nil, List.length_cons, List.length_nil, List.cons_append, List.nil_append, List.append_nil, List.replicate_succ, List.replicate_zero, List.getElem?_cons_zero, List.getElem?_cons_succ, List.set_cons_zero, List.set_cons_succ, Int.cast_ofNat_Int, Nat.reduceBEq, Int.reduceBEq, Nat.reduceAdd, Nat.reduceSub, Nat.reduceLT, Nat.reduceLeDiff, Nat.zero_add, Nat.add_zero, Nat.sub_zero, Nat.sub_self, ↓reduceIte, if_true, if_false, Bool.not_true, Bool.not_false, Bool.false_eq_true, Bool.true_eq_false, decide_true, decide_false, decide_not, true_and, and_true, and_self, true_or, or_true, not_true_eq_false, not_false_eq_true, ne_eq, reduceCtorEq, Int.reduceLT, Int.reduceLE, Int.reduceNeg, Int.reduceSub, Int.reduceAdd, Int.reduceMul, Int.reducePow, Int.reduceToNat, sz, D.dat, D.datL, D.dep, D.depL, szl, inb, List.any_cons, List.any_nil, Bool.true_and, Bool.false_and, Bool.and_true, Bool.and_false, Bool.or_false, Bool.false_or, Bool.true_or, Bool.or_true, Nat.max_self, Nat.max_zero, Nat.zero_max, Nat.min_self, Nat.zero_le, Nat.min_zero, Nat.zero_min, forL, forX, iR1, iR2, rng1, rng2, iE, itOf, sFor, bYes, hl, decide_eq_true h1, decide_eq_false h2, gt_iff_lt]) (Good.nx rfl (Good.rt rfl ⟨by rw [if_neg (by omega)], rfl⟩)))
    · have h1 : ¬ (0 : Int) < Txt.rfind x dot := by omega
      refine Good.seq (Good.ifF [] (by simp only [sSeq, sIf, sB, sE, sAsg, sRet, sRetN, sNil, sExpr, sBrk, sCnt, gN, gT, gsC, gsN, FK.e1, FK.e2, eC, eVar, eCall, aNil, aCons, M.bind, M.pure, eTup, eLst, eNew, eSl, oNone, oSome, bT, bNot, bAnd, bOr, eAnd, eOr, eNot, eIf, eCh, truth, eMs, eMl, dAdd, dSub, dMul, dFdiv, dMod, dLe, dLt, dGe, dGt, dEq, dNe, dIs, dIsnt, D.isNon, dIn, dNotIn, dIdx, dSl, dLen, dInt, dOrd_one, dMax2, dMin2, dTuple, dList, dListC, dApp, dNeg, vw, seq, lstOf, fnD, List.map_cons, List.map_nil, List.length_cons, List.length_nil, List.cons_append, List.nil_append, List.append_nil, List.replicate_succ, List.replicate_zero, List.getElem?_cons_zero, List.getElem?_cons_succ, List.set_cons_zero, List.set_cons_succ, Int.cast_ofNat_Int, Nat.reduceBEq, Int.reduceBEq, Nat.reduceAdd, Nat.reduceSub, Nat.reduceLT, Nat.reduceLeDiff, Nat.zero_add, Nat.add_zero, Nat.sub_zero, Nat.sub_self, ↓reduceIte, if_true, if_false, Bool.not_true, Bool.not_false, Bool.false_eq_true, Bool.true_eq_false, decide_true, decide_false, decide_not, true_and, and_true, and_self, true_or, or_true, not_true_eq_false, not_false_eq_true, ne_eq, reduceCtorEq, Int.reduceLT, Int.reduceLE, Int.reduceNeg, Int.reduceSub, Int.reduceAdd, Int.reduceMul, Int.reducePow, Int.reduceToNat, sz, D.dat, D.datL, D.dep, D.depL, szl, inb, List.any_cons, List.any_nil, Bool.true_and, Bool.false_and, Bool.and_true, Bool.and_false, Bool.or_false, Bool.false_or, Bool.true_or, Bool.or_true, Nat.max_self, Nat.max_zero, Nat.zero_max, Nat.min_self, Nat.zero_le, Nat.min_zero, Nat.zero_min, forL, forX, iR1, iR2, rng1, rng2, iE, itOf, sFor, bYes, hl, decide_eq_false h1, gt_iff_lt]) (Good.nx rfl (Good.rt rfl ⟨by rw [if_neg (by omega)], rfl⟩))))
  exact e
noncomputable def stemB : SD := sRet (eSl (eVar 0) (oNone) (oSome (e2 dSub (eCall dLen (aCons (eVar 0) (aNil))) (eCall dLen (aCons (eCall (callP 1 (fnD 2 endingB)) (aCons (eVar 0) (aNil))) (aNil))))))
noncomputable def stm (x : Str) : Str := cutS x none (some ((x.length - (endg x).length : Nat) : Int))
theorem stm_tx (x : Str) : tx (stm x) = (tx x).take (x.length - (endg x).length) := by
  unfold stm
  rw [tx_cut, HT.sIx_nat, Nat.min_eq_left (by omega)]
  show List.take (x.length - (endg x).length - 0) ((tx x).drop 0) = _
  rw [Nat.sub_zero, List.drop_zero]
theorem stm_len (x : Str) : (stm x).length = x.length - (endg x).length := by rw [← tx_len, stm_tx, List.length_take, tx_len]; omega
theorem stm_end (x : Str) : stm x ++ endg x = x := tx_ext (by
  have h := (endg_tx x).1
  rw [tx_app, stm_tx]
  conv => lhs; rhs; rw [h]
  exact List.take_append_drop _ _)
theorem stem_ok (x : Str) (hl : x.length ≤ 16777216) (h : CH) : callP 1 (fnD 1 stemB) [.str x] h = .ok (.str (stm x)) h := by
  refine callP_ok rfl (fnD_rt (ρ := [some (.str x)]) (ρ' := [some (.str x)]) (d := .str (stm x)) (h' := []) ?_) (fz_nr rfl)
  unfold stemB
  have e := ending_ok x hl []
  have h2 := endg_tx x
  have hle : (endg x).length ≤ 16777216 := by omega
  have hc : (x.length : Int) - (endg x).length = ((x.length - (endg x).length : Nat) : Int) := by omega
  simp only [sSeq, sIf, sB, sE, sAsg, sRet, sRetN, sNil, sExpr, sBrk, sCnt, gN, gT, gsC, gsN, FK.e1, FK.e2, eC, eVar, eCall, aNil, aCons, M.bind, M.pure, eTup, eLst, eNew, eSl, oNone, oSome, bT, bNot, bAnd, bOr, eAnd, eOr, eNot, eIf, eCh, truth, eMs, eMl, dAdd, dSub, dMul, dFdiv, dMod, dLe, dLt, dGe, dGt, dEq, dNe, dIs, dIsnt, D.isNon, dIn, dNotIn, dIdx, dSl, dLen, dInt, dOrd_one, dMax2, dMin2, dTuple, dList, dListC, dApp, dNeg, vw, seq, lstOf, fnD, List.map_cons, List.map_nil, List.length_cons, List.length_nil, List.cons_append, List.nil_append, List.append_nil, List.replicate_succ, List.replicate_zero, List.getElem?_cons_zero, List.getElem?_cons_succ, List.set_cons_zero, List.set_cons_succ, Int.cast_ofNat_Int, Nat.reduceBEq, Int.reduceBEq, Nat.reduceAdd, Nat.reduceSub, Nat.reduceLT, Nat.reduceLeDiff, Nat.zero_add, Nat.add_zero, Nat.sub_zero, Nat.sub_self, ↓reduceIte, if_true, if_false, Bool.not_true, Bool.not_false, Bool.false_eq_true, Bool.true_eq_false, decide_true, decide_false, decide_not, true_and, and_true, and_self, true_or, or_true, not_true_eq_false, not_false_eq_true, ne_eq, reduceCtorEq, Int.reduceLT, Int.reduceLE, Int.reduceNeg, Int.reduceSub, Int.reduceAdd, Int.reduceMul, Int.reducePow, Int.reduceToNat, sz, D.dat, D.datL, D.dep, D.depL, szl, inb, List.any_cons, List.any_nil, Bool.true_and, Bool.false_and, Bool.and_true, Bool.and_false, Bool.or_false, Bool.false_or, Bool.true_or, Bool.or_true, Nat.max_self, Nat.max_zero, Nat.zero_max, Nat.min_self, Nat.zero_le, Nat.min_zero, Nat.zero_min, forL, forX, iR1, iR2, rng1, rng2, iE, itOf, sFor, bYes, e, hl, hle, hc]
  rfl
noncomputable def withB : SD := sSeq (sAsg (e2 dSub (e2 dSub (eVar 0) (eCall dLen (aCons (eVar 2) (aNil)))) (eCall dLen (aCons (eCall (callP 1 (fnD 2 endingB)) (aCons (eVar 1) (aNil))) (aNil)))) (gN 3))
  (sRet (e2 dAdd (e2 dAdd (eSl (eCall (callP 1 (fnD 1 stemB)) (aCons (eVar 1) (aNil))) (oNone) (oSome (eVar 3))) (eVar 2)) (eCall (callP 1 (fnD 2 endingB)) (aCons (eVar 1) (aNil)))))
/-- a name with a word in it, of at most L signs -/
noncomputable def withW (L : Nat) (x w : Str) : Str := cutS (stm x) none (some ((L - w.length - (endg x).length : Nat) : Int)) ++ w ++ endg x
theorem withW_tx (L : Nat) (x w : Str) : tx (withW L x w) = (tx x).take (min (x.length - (endg x).length) (L - w.length - (endg x).length)) ++ tx w ++ tx (endg x) := by
  unfold withW
  rw [tx_app, tx_app, tx_cut, HT.sIx_nat, stm_len]
  show List.take (_ - 0) ((tx (stm x)).drop 0) ++ _ ++ _ = _
  rw [Nat.sub_zero, List.drop_zero, stm_tx, List.take_take, Nat.min_comm (min _ _), Nat.min_comm (L - w.length - (endg x).length)]
  congr 3
  omega
theorem withW_len (L : Nat) (x w : Str) (hw : w.length + (endg x).length ≤ L) : (withW L x w).length ≤ L := by
  rw [← tx_len, withW_tx, List.length_append, List.length_append, List.length_take, tx_len, tx_len, tx_len]
  omega
theorem with_ok (L : Nat) (x w : Str) (hl : x.length ≤ 10000000) (hw : w.length + 10 ≤ L) (hL : L ≤ 1000) (h : CH) : callP 3 (fnD 4 withB) [.int L, .str x, .str w] h = .ok (.str (withW L x w)) h := by
  have h2 := endg_tx x
  have hl2 : x.length ≤ 16777216 := by omega
  have e1 := ending_ok x hl2 []
  have e2 := stem_ok x hl2 []
  have hle : (endg x).length ≤ 16777216 := by omega
  have hls : (stm x).length ≤ 16777216 := by rw [stm_len]; omega
  have hlw : w.length ≤ 16777216 := by omega
  have hc : (L : Int) - w.length - (endg x).length = ((L - w.length - (endg x).length : Nat) : Int) := by omega
  have hlc : (cutS (stm x) none (some ((L - w.length - (endg x).length : Nat) : Int))).length + w.length ≤ 16777216 := by
    rw [len_cut_to]; omega
  have hlc2 : (cutS (stm x) none (some ((L - w.length - (endg x).length : Nat) : Int)) ++ w).length + (endg x).length ≤ 16777216 := by
    rw [PySem.Str.length_append, len_cut_to]; omega
  refine callP_ok rfl (fnD_rt (ρ := [some (.int L), some (.str x), some (.str w), none]) (ρ' := [some (.int L), some (.str x), some (.str w), some (.int ((L - w.length - (endg x).length : Nat) : Int))]) (d := .str (withW L x w)) (h' := []) ?_) (fz_nr rfl)
  unfold withB
  simp only [sSeq, sIf, sB, sE, sAsg, sRet, sRetN, sNil, sExpr, sBrk, sCnt, gN, gT, gsC, gsN, FK.e1, FK.e2, eC, eVar, eCall, aNil, aCons, M.bind, M.pure, eTup, eLst, eNew, eSl, oNone, oSome, bT, bNot, bAnd, bOr, eAnd, eOr, eNot, eIf, eCh, truth, eMs, eMl, dAdd, dSub, dMul, dFdiv, dMod, dLe, dLt, dGe, dGt, dEq, dNe, dIs, dIsnt, D.isNon, dIn, dNotIn, dIdx, dSl, dLen, dInt, dOrd_one, dMax2, dMin2, dTuple, dList, dListC, dApp, dNeg, vw, seq, lstOf, fnD, List.map_cons, List.map_nil, List.length_cons, List.length_nil, List.cons_append, List.nil_append, List.append_nil, List.replicate_succ, List.replicate_zero, List.getElem?_cons_zero, List.getElem?_cons_succ, List.set_cons_zero, List.set_cons_succ, Int.cast_ofNat_Int, Nat.reduceBEq, Int.reduceBEq, Nat.reduceAdd, Nat.reduceSub, Nat.reduceLT, Nat.reduceLeDiff, Nat.zero_add, Nat.add_zero, Nat.sub_zero, Nat.sub_self, ↓reduceIte, if_true, if_false, Bool.not_true, Bool.not_false, Bool.false_eq_true, Bool.true_eq_false, decide_true, decide_false, decide_not, true_and, and_true, and_self, true_or, or_true, not_true_eq_false, not_false_eq_true, ne_eq, reduceCtorEq, Int.reduceLT, Int.reduceLE, Int.reduceNeg, Int.reduceSub, Int.reduceAdd, Int.reduceMul, Int.reducePow, Int.reduceToNat, sz, D.dat, D.datL, D.dep, D.depL, szl, inb, List.any_cons, List.any_nil, Bool.true_and, Bool.false_and, Bool.and_true, Bool.and_false, Bool.or_false, Bool.false_or, Bool.true_or, Bool.or_true, Nat.max_self, Nat.max_zero, Nat.zero_max, Nat.min_self, Nat.zero_le, Nat.min_zero, Nat.zero_min, forL, forX, iR1, iR2, rng1, rng2, iE, itOf, sFor, bYes, e1, e2, hl2, hle, hls, hlw, hc, hlc, hlc2]
  rfl
/-! words -/
def numT (n : Nat) : Str := toString ((n : Nat) : Int)
theorem numT_tx (n : Nat) : tx (numT n) = TL.numL n := TL.tl_num n
theorem numT_len {n k : Nat} (hk : 0 < k) (h : n < 10 ^ k) : (numT n).length ≤ k := by
  rw [← tx_len, numT_tx]
  exact TL.numL_len hk h
theorem log2_lt (n : Nat) (h : n < 2 ^ 64) : ((n : Nat) : Int).natAbs.log2 < 1920 := by
  rw [Int.natAbs_natCast]
  rcases Nat.eq_zero_or_pos n with rfl | h0
  · decide
  · have : n.log2 < 64 := (Nat.log2_lt (by omega)).mpr h
    omega
theorem dStr_nat (n : Nat) (h : n < 2 ^ 64) (c : CH) : dStr [.int n] c = .ok (.str (numT n)) c := if_pos (log2_lt n h)
def wordN (k : Nat) : Str := Str.ofString " " ++ numT k
noncomputable def numbB : SD := sSeq (sIf (bT (e2 dEq (eVar 2) (eC (.int 0)))) (sRet (eVar 1)) (sNil))
  (sRet (eCall (callP 3 (fnD 4 withB)) (aCons (eVar 0) (aCons (eVar 1) (aCons (e2 dAdd (eC (.str " ")) (eCall dStr (aCons (eVar 2) (aNil)))) (aNil))))))
theorem numbS_ok (L : Nat) (x : Str) (k : Nat) (hl : x.length ≤ 10000) (hL : L ≤ 1000) (hL2 : 48 ≤ L) (hk : k + 1 < 10 ^ 5) (h : CH) :
    callP 3 (fnD 3 numbB) [.int L, .str x, .int (k + 1)] h = .ok (.str (withW L x (wordN (k + 1)))) h ∧ (wordN (k + 1)).length + 10 ≤ L := by
  have l4 : (Str.ofString " ").length = 1 := by decide
  have tk := numT_len (k := 5) (by omega) hk
  have sk := dStr_nat (k + 1) (by omega) []
  rw [show ((k + 1 : Nat) : Int) = (k : Int) + 1 by omega] at sk
  have wl : (wordN (k + 1)).length + 10 ≤ L := by
    unfold wordN
    simp only [PySem.Str.length_append, l4]
    omega
  refine ⟨?_, wl⟩
  have e := with_ok L x (wordN (k + 1)) (by omega) wl hL []
  replace e : callP 3 (fnD 4 withB) [.int L, .str x, .str (Str.ofString " " ++ numT (k + 1))] [] = .ok (.str (withW L x (wordN (k + 1)))) [] := e
  have z : 1 + (numT (k + 1)).length ≤ 16777216 := by omega
  have q : ((k : Int) + 1 == 0) = false := by
    rw [beq_eq_false_iff_ne]; omega
  refine callP_ok rfl (fnD_rt (ρ := [some (.int L), some (.str x), some (.int (k + 1))]) (ρ' := [some (.int L), some (.str x), some (.int (k + 1))]) (d := .str (withW L x (wordN (k + 1)))) (h' := []) ?_) (fz_nr rfl)
  unfold numbB
  refine seq_eq (ρ1 := [some (.int L), some (.str x), some (.int (k + 1))]) (h1 := []) ?_ ?_
  · simp only [sSeq, sIf, sB, sE, sAsg, sRet, sRetN, sNil, sExpr, sBrk, sCnt, gN, gT, gsC, gsN, FK.e1, FK.e2, eC, eVar, eCall, aNil, aCons, M.bind, M.pure, eTup, eLst, eNew, eSl, oNone, oSome, bT, bNot, bAnd, bOr, eAnd, eOr, eNot, eIf, eCh, truth, eMs, eMl, dAdd, dSub, dMul, dFdiv, dMod, dLe, dLt, dGe, dGt, dEq, dNe, dIs, dIsnt, D.isNon, dIn, dNotIn, dIdx, dSl, dLen, dInt, dOrd_one, dMax2, dMin2, dTuple, dList, dListC, dApp, dNeg, vw, seq, lstOf, fnD, List.map_cons, List.map_nil, List.length_cons, List.length_nil, List.cons_append, List.nil_append, List.append_nil, List.replicate_succ, List.replicate_zero, List.getElem?_cons_zero, List.getElem?_cons_succ, List.set_cons_zero, List.set_cons_succ, Int.cast_ofNat_Int, Nat.reduceBEq, Int.reduceBEq, Nat.reduceAdd, Nat.reduceSub, Nat.reduceLT, Nat.reduceLeDiff, Nat.zero_add, Nat.add_zero, Nat.sub_zero, Nat.sub_self, ↓reduceIte, if_true, if_false, Bool.not_true, Bool.not_false, Bool.false_eq_true, Bool.true_eq_false, decide_true, decide_false, decide_not, true_and, and_true, and_self, true_or, or_true, not_true_eq_false, not_false_eq_true, ne_eq, reduceCtorEq, Int.reduceLT, Int.reduceLE, Int.reduceNeg, Int.reduceSub, Int.reduceAdd, Int.reduceMul, Int.reducePow, Int.reduceToNat, sz, D.dat, D.datL, D.dep, D.depL, szl, inb, List.any_cons, List.any_nil, Bool.true_and, Bool.false_and, Bool.and_true, Bool.and_false, Bool.or_false, Bool.false_or, Bool.true_or, Bool.or_true, Nat.max_self, Nat.max_zero, Nat.zero_max, Nat.min_self, Nat.zero_le, Nat.min_zero, Nat.zero_min, forL, forX, iR1, iR2, rng1, rng2, iE, itOf, sFor, bYes, D.eqb, D.py, PyData.eqv, q]
  · simp only [sSeq, sIf, sB, sE, sAsg, sRet, sRetN, sNil, sExpr, sBrk, sCnt, gN, gT, gsC, gsN, FK.e1, FK.e2, eC, eVar, eCall, aNil, aCons, M.bind, M.pure, eTup, eLst, eNew, eSl, oNone, oSome, bT, bNot, bAnd, bOr, eAnd, eOr, eNot, eIf, eCh, truth, eMs, eMl, dAdd, dSub, dMul, dFdiv, dMod, dLe, dLt, dGe, dGt, dEq, dNe, dIs, dIsnt, D.isNon, dIn, dNotIn, dIdx, dSl, dLen, dInt, dOrd_one, dMax2, dMin2, dTuple, dList, dListC, dApp, dNeg, vw, seq, lstOf, fnD, List.map_cons, List.map_nil, List.length_cons, List.length_nil, List.cons_append, List.nil_append, List.append_nil, List.replicate_succ, List.replicate_zero, List.getElem?_cons_zero, List.getElem?_cons_succ, List.set_cons_zero, List.set_cons_succ, Int.cast_ofNat_Int, Nat.reduceBEq, Int.reduceBEq, Nat.reduceAdd, Nat.reduceSub, Nat.reduceLT, Nat.reduceLeDiff, Nat.zero_add, Nat.add_zero, Nat.sub_zero, Nat.sub_self, ↓reduceIte, if_true, if_false, Bool.not_true, Bool.not_false, Bool.false_eq_true, Bool.true_eq_false, decide_true, decide_false, decide_not, true_and, and_true, and_self, true_or, or_true, not_true_eq_false, not_false_eq_true, ne_eq, reduceCtorEq, Int.reduceLT, Int.reduceLE, Int.reduceNeg, Int.reduceSub, Int.reduceAdd, Int.reduceMul, Int.reducePow, Int.reduceToNat, sz, D.dat, D.datL, D.dep, D.depL, szl, inb, List.any_cons, List.any_nil, Bool.true_and, Bool.false_and, Bool.and_true, Bool.and_false, Bool.or_false, Bool.false_or, Bool.true_or, Bool.or_true, Nat.max_self, Nat.max_zero, Nat.zero_max, Nat.min_self, Nat.zero_le, Nat.min_zero, Nat.zero_min, forL, forX, iR1, iR2, rng1, rng2, iE, itOf, sFor, bYes, sk, l4, z, e]
theorem numbS0_ok (L : Nat) (x : Str) (h : CH) : callP 3 (fnD 3 numbB) [.int L, .str x, .int 0] h = .ok (.str x) h := by
  refine callP_ok rfl (fnD_rt (ρ := [some (.int L), some (.str x), some (.int 0)]) (ρ' := [some (.int L), some (.str x), some (.int 0)]) (d := .str x) (h' := []) ?_) (fz_nr rfl)
  rfl
end FK

/-! part: FKU -/
set_option linter.all false
set_option maxRecDepth 100000
set_option maxHeartbeats 4000000
namespace FK
open PySem PySem.Spec L2
/-! FKU: rules (instances of Rule), callees that are handed instances. -/
theorem get_last (h : CH) (c : Cell) : (h ++ [c])[h.length]? = some c := by simp
theorem set_last (h : CH) (c d : Cell) : (h ++ [c]).set h.length d = h ++ [d] := by simp
theorem callP_fz {n : Nat} {F : FD} {ds es : List D} {h h' : CH} {d : D} (hn : D.nrL ds = false) (hm : mapO (fz h) ds = some es) (e : F es [] = .ok d h') (hf : d.flat = true) (hl : ds.length = n := by rfl) : callP n F ds h = .ok d h := by
  unfold callP
  rw [if_pos hl, if_neg (by rw [hn]; decide), hm]
  dsimp only
  rw [e]
  dsimp only
  rw [if_pos hf]
noncomputable def ruleB : SD := sSeq (sFldS ["Rule"] "alike" (eVar 0) (eVar 1))
  (sSeq (sFldS ["Rule"] "unfit" (eVar 0) (eVar 2))
  (sSeq (sFldS ["Rule"] "longest" (eVar 0) (eVar 3))
  (sSeq (sFldS ["Rule"] "swaps" (eVar 0) (eVar 4))
  (sSeq (sFldS ["Rule"] "reads" (eVar 0) (eVar 5))
  (sSeq (sFldS ["Rule"] "cuts" (eVar 0) (eVar 6))
  (sFldS ["Rule"] "turns" (eVar 0) (eVar 7)))))))
abbrev ruleNs : List Str := ["alike", "unfit", "longest", "swaps", "reads", "cuts", "turns"]
theorem fld_step {cs : List Str} {f : Str} {eo ev : ED} {ρ : Env} {h : CH} {c : Str} {ns : List Str} {xs : List D} {d : D} {c' : Cell} (e1 : ev ρ (h ++ [.ins c ns xs]) = .ok d (h ++ [.ins c ns xs])) (e2 : eo ρ (h ++ [.ins c ns xs]) = .ok (.ref h.length) (h ++ [.ins c ns xs]))
    (hc : c ∈ cs) (hn : ns.length < 1000) (hp : Cell.ins c (putNs f ns) (putXs f d ns xs) = c') : sFldS cs f eo ev ρ (h ++ [.ins c ns xs]) = .ok .nx ρ (h ++ [c']) := by
  subst hp
  unfold sFldS sE
  rw [e1]
  dsimp only
  rw [e2]
  dsimp only
  rw [get_last]
  dsimp only
  rw [if_pos ⟨hc, hn⟩, set_last]
theorem rule_mk (h : CH) (a b c d e f g : D) : fnD 8 ruleB [.ref h.length, a, b, c, d, e, f, g] (h ++ [.ins "Rule" [] []]) = .ok .non (h ++ [.ins "Rule" ruleNs [a, b, c, d, e, f, g]]) := by
  refine fnD_nx (ρ := [some (.ref h.length), some a, some b, some c, some d, some e, some f, some g]) (ρ' := [some (.ref h.length), some a, some b, some c, some d, some e, some f, some g]) ?_
  unfold ruleB
  refine seq_eq (fld_step rfl rfl (by decide) (by decide) rfl) ?_
  refine seq_eq (fld_step rfl rfl (by decide) (by decide) rfl) ?_
  refine seq_eq (fld_step rfl rfl (by decide) (by decide) rfl) ?_
  refine seq_eq (fld_step rfl rfl (by decide) (by decide) rfl) ?_
  refine seq_eq (fld_step rfl rfl (by decide) (by decide) rfl) ?_
  refine seq_eq (fld_step rfl rfl (by decide) (by decide) rfl) ?_
  exact fld_step rfl rfl (by decide) (by decide) (by rfl)
theorem fz_ins {h : CH} {k : Nat} {c : Str} {ns : List Str} {xs : List D} (e : h[k]? = some (.ins c ns xs)) (n : D.nrL xs = true) : fz h (.ref k) = some (.obj c ns xs) := by
  unfold fz fzF
  rw [if_neg (by simp [D.nr])]
  dsimp only
  rw [e]
  dsimp only
  rw [mapO_id fun x hx => fzF_nr (nrL_iff.mp n x hx)]
  rfl
abbrev ruleX (a b : D) (L : Int) : List D := [a, b, .int L, .bl true, .bl true, .bl true, .bl true]
theorem rule_new (h : CH) (L : Int) : mkO "Rule" (arrG [0, 1, 2, 7, 3, 4, 5, 6] 0 [.tup [], .tup [], .bl true, .bl true, .bl true, .bl true]) (fnD 8 ruleB) [.int L] h = .ok (.ref h.length) (h ++ [.ins "Rule" ruleNs (ruleX (.tup []) (.tup []) L)]) := by
  unfold mkO
  show (match fnD 8 ruleB [.ref h.length, .tup [], .tup [], .int L, .bl true, .bl true, .bl true, .bl true] (h ++ [.ins "Rule" [] []]) with | .ok .non h' => R.ok (D.ref h.length) h' | _ => .bad) = _
  rw [rule_mk]
theorem flat_strs : ∀ zs : List Str, D.flatL (zs.map D.str) = true
  | [] => rfl
  | z :: zs => flat_strs zs
end FK

/-! part: FKG -/
set_option linter.all false
set_option maxRecDepth 100000
set_option maxHeartbeats 4000000
namespace FK
open PySem PySem.Spec L2
/-! FKG: loops that look for something, loops that build a list; ids, paths. -/
theorem set_set {ρ : Env} {v : Nat} {a b : Option D} : (ρ.set v a).set v b = ρ.set v b := by simp
def lastV {X : Type} (en : X → D) (xs : List X) (o : Option D) : Option D := match xs.getLast? with
  | some x => some (en x)
  | none => o
theorem lastV_cons {X : Type} {en : X → D} {x : X} {xs : List X} {o : Option D} : lastV en (x :: xs) o = lastV en xs (some (en x)) := by
  unfold lastV
  cases xs with
  | nil => rfl
  | cons y ys => rw [List.getLast?_cons_cons]; simp [List.getLast?_cons]
theorem set_old {ρ : Env} {v : Nat} {o : Option D} (e : ρ[v]? = some o) : ρ.set v o = ρ := by
  obtain ⟨h, rfl⟩ := List.getElem?_eq_some_iff.mp e
  exact List.set_getElem_self h
/-- a loop that returns at the first item with p -/
theorem find_eq {X : Type} {en : X → D} {p : X → Bool} {val : X → D} {c : BD} {r : ED} {v : Nat} {h : CH} {o : Option Nat} {all : List D} (hg : gd o all h) : ∀ (xs : List X) {ρ : Env} {u : Option D}, ρ[v]? = some u →
    (∀ x ∈ xs, c (ρ.set v (some (en x))) h = .ok (p x) h) → (∀ x ∈ xs, p x = true → r (ρ.set v (some (en x))) h = .ok (val x) h) →
    forX o all (gN v) (sIf c (sRet r) sNil) (xs.map en) ρ h = (match xs.find? p with
      | some x => .ok (.rt (val x)) (ρ.set v (some (en x))) h
      | none => .ok .nx (ρ.set v (lastV en xs u)) h)
  | [], ρ, u, hu, _, _ => by
    rw [List.map_nil, List.find?_nil]
    show _ = RS.ok .nx (ρ.set v u) h
    rw [set_old hu]
    cases o with
    | none => rfl
    | some n => exact if_pos hg
  | x :: xs, ρ, u, hu, hc, hr => by
    have hv : v < ρ.length := (List.getElem?_eq_some_iff.mp hu).1
    have ih := find_eq (en := en) (p := p) (val := val) (c := c) (r := r) (v := v) hg xs (ρ := ρ.set v (some (en x))) (u := some (en x)) (by simp [hv]) (fun y hy => by rw [set_set]; exact hc y (List.mem_cons_of_mem _ hy)) (fun y hy q => by rw [set_set]; exact hr y (List.mem_cons_of_mem _ hy) q)
    simp only [set_set] at ih
    have e1 := hc x List.mem_cons_self
    have body : sIf c (sRet r) sNil (ρ.set v (some (en x))) h = if p x = true then .ok (.rt (val x)) (ρ.set v (some (en x))) h else .ok .nx (ρ.set v (some (en x))) h := by
      unfold sIf sB
      rw [e1]
      dsimp only
      by_cases q : p x = true
      · rw [if_pos q, if_pos q]
        unfold sRet sE
        rw [hr x List.mem_cons_self q]
      · rw [if_neg q, if_neg q]; rfl
    have step : forX o all (gN v) (sIf c (sRet r) sNil) ((x :: xs).map en) ρ h = (match sIf c (sRet r) sNil (ρ.set v (some (en x))) h with
      | .ok .nx ρ2 h2 => forX o all (gN v) (sIf c (sRet r) sNil) (xs.map en) ρ2 h2
      | .ok .ct ρ2 h2 => forX o all (gN v) (sIf c (sRet r) sNil) (xs.map en) ρ2 h2
      | .ok .bk ρ2 h2 => .ok .nx ρ2 h2
      | r => r) := by
      cases o with
      | none => rfl
      | some n => exact (if_pos hg)
    rw [step, body, List.find?_cons, lastV_cons]
    by_cases q : p x = true
    · rw [if_pos q, q]
    · rw [if_neg q, Bool.eq_false_iff.mpr q]
      exact ih
/-- a loop that builds: with I kept, each turn adds f x to what is built; hh: the heap by what is built -/
theorem build {X : Type} {en : X → D} {f : X → List D} {v : Nat} {g : GD} {body : SD} {hh : List D → CH} {o : Option Nat} {all : List D} {I : Env → Prop} {B : Nat} (hg : ∀ acc, gd o all (hh acc)) :
    ∀ (xs : List X) (acc : List D) (ρ : Env), I ρ → acc.length + (xs.flatMap f).length ≤ B → (∀ x ∈ xs, ∀ ρ acc, I ρ → acc.length + (f x).length ≤ B → ∃ ρ1, g (en x) ρ = some ρ1 ∧ ∃ ρ2, I ρ2 ∧ (body ρ1 (hh acc) = .ok .nx ρ2 (hh (acc ++ f x)) ∨ body ρ1 (hh acc) = .ok .ct ρ2 (hh (acc ++ f x)))) →
    ∃ ρ', I ρ' ∧ forX o all g body (xs.map en) ρ (hh acc) = .ok .nx ρ' (hh (acc ++ xs.flatMap f))
  | [], acc, ρ, hI, _, _ => by
    refine ⟨ρ, hI, ?_⟩
    rw [List.flatMap_nil, List.append_nil]
    cases o with
    | none => rfl
    | some n => exact if_pos (hg acc)
  | x :: xs, acc, ρ, hI, hB, st => by
    rw [List.flatMap_cons, List.length_append] at hB
    obtain ⟨ρ1, e1, ρ2, hI2, e2⟩ := st x List.mem_cons_self ρ acc hI (by omega)
    obtain ⟨ρ', hI', e3⟩ := build (body := body) (g := g) (en := en) (f := f) (v := v) hg xs (acc ++ f x) ρ2 hI2 (by rw [List.length_append]; omega) (fun y hy => st y (List.mem_cons_of_mem _ hy))
    refine ⟨ρ', hI', ?_⟩
    rw [List.flatMap_cons, ← List.append_assoc, ← e3]
    have step : forX o all g body ((x :: xs).map en) ρ (hh acc) = (match body ρ1 (hh acc) with
      | .ok .nx ρ2 h2 => forX o all g body (xs.map en) ρ2 h2
      | .ok .ct ρ2 h2 => forX o all g body (xs.map en) ρ2 h2
      | .ok .bk ρ2 h2 => .ok .nx ρ2 h2
      | r => r) := by
      cases o with
      | none =>
        show forL g body (en x :: xs.map en) ρ (hh acc) = _
        unfold forL
        rw [e1]
        rfl
      | some n =>
        show forC n all g body (en x :: xs.map en) ρ (hh acc) = _
        unfold forC
        rw [if_pos (show (hh acc)[n]? = some (.lst all) from hg acc), e1]
        rfl
    rw [step]
    rcases e2 with e2 | e2 <;> rw [e2]
theorem gd_none {all : List D} {h : CH} : gd none all h := trivial
/-- a list that may be a cell -/
theorem itOf_lst {h : CH} {d : D} {xs : List D} (e : lstOf h d = some xs) : ∃ o, itOf d h = .ok (xs, o) h ∧ gd o xs h := by
  unfold lstOf vw at e
  cases d with
  | ref n =>
    dsimp only at e
    cases q : h[n]? with
    | none => rw [q] at e; cases e
    | some c =>
      rw [q] at e
      cases c with
      | lst ys => cases e; exact ⟨some n, by unfold itOf; dsimp only; rw [q], q⟩
      | ins _ _ _ => cases e
  | lst ys => cases e; exact ⟨none, rfl, trivial⟩
  | _ => cases e
/-! equality of a datum with itself -/
mutual
theorem eqb_self : ∀ d : D, D.eqb d d = true
  | .non => rfl
  | .bl b => by cases b <;> rfl
  | .int i => by show PyData.eqv (.int i) (.int i) = true; simp [PyData.eqv]
  | .str x => eqb_refl x
  | .tup xs => eqb_selfL xs
  | .lst xs => eqb_selfL xs
  | .scr xs => eqb_selfL xs
  | .obj _ _ _ => rfl
  | .ref _ => rfl
theorem eqb_selfL : ∀ ds : List D, PyData.eqvAll (D.pyL ds) (D.pyL ds) = true
  | [] => rfl
  | d :: ds => by
    show (PyData.eqv d.py d.py && PyData.eqvAll (D.pyL ds) (D.pyL ds)) = true
    rw [eqb_selfL ds, show PyData.eqv d.py d.py = true from eqb_self d]
    rfl
end
/-! indices -/
theorem atI_n {α : Type} {xs : List α} {k : Nat} {a : α} (e : xs[k]? = some a) : atI xs (k : Int) = some a := L2.atI_nat e
theorem atI0 {α : Type} {a : α} {l : List α} : atI (a :: l) 0 = some a := L2.atI_nat (j := 0) rfl
theorem atI1 {α : Type} {a b : α} {l : List α} : atI (a :: b :: l) 1 = some b := L2.atI_nat (j := 1) rfl
theorem atI2 {α : Type} {a b c : α} {l : List α} : atI (a :: b :: c :: l) 2 = some c := L2.atI_nat (j := 2) rfl
theorem atI3 {α : Type} {a b c d : α} {l : List α} : atI (a :: b :: c :: d :: l) 3 = some d := L2.atI_nat (j := 3) rfl
theorem atI4 {α : Type} {a b c d e : α} {l : List α} : atI (a :: b :: c :: d :: e :: l) 4 = some e := L2.atI_nat (j := 4) rfl
theorem atI5 {α : Type} {a b c d e f : α} {l : List α} : atI (a :: b :: c :: d :: e :: f :: l) 5 = some f := L2.atI_nat (j := 5) rfl
/-! ids -/
abbrev Id := Int × Int
def encI (i : Id) : D := .tup [.int i.1, .int i.2]
def encO : Option Id → D
  | none => .non
  | some i => encI i
theorem encO_none : encO none = .non := rfl
theorem encO_some (i : Id) : encO (some i) = encI i := rfl
def encP (p : List Str) : D := .tup (p.map .str)
theorem eqb_II (i j : Id) : D.eqb (encI i) (encI j) = decide (i = j) := by
  show (PyData.eqv (.int i.1) (.int j.1) && (PyData.eqv (.int i.2) (.int j.2) && true)) = _
  rw [Bool.and_true]
  obtain ⟨a, b⟩ := i
  obtain ⟨c, d⟩ := j
  by_cases h : a = c <;> by_cases h2 : b = d <;> simp [PyData.eqv, h, h2]
theorem eqb_OO (i j : Option Id) : D.eqb (encO i) (encO j) = decide (i = j) := by
  cases i with
  | none => cases j with
    | none => rfl
    | some j => simp [encO, encI, D.eqb, D.py, PyData.eqv]
  | some i => cases j with
    | none => simp [encO, encI, D.eqb, D.py, PyData.eqv]
    | some j => show D.eqb (encI i) (encI j) = _; rw [eqb_II]; simp
theorem eqb_PP (p q : List Str) : D.eqb (encP p) (encP q) = decide (p = q) := by
  show PyData.eqvAll (D.pyL (p.map .str)) (D.pyL (q.map .str)) = _
  induction p generalizing q with
  | nil => cases q with
    | nil => rfl
    | cons y q => rfl
  | cons x p ih => cases q with
    | nil => rfl
    | cons y q =>
      show (PyData.eqv (.str x) (.str y) && PyData.eqvAll (D.pyL (p.map .str)) (D.pyL (q.map .str))) = _
      rw [ih q]
      have : PyData.eqv (.str x) (.str y) = decide (x = y) := by
        show (x == y) = _
        by_cases h : x = y <;> simp [h]
      rw [this]
      by_cases h : x = y <;> by_cases h2 : p = q <;> simp [h, h2]
theorem dat_I (i : Id) : D.dat (encI i) = true := rfl
theorem dep_I (i : Id) : D.dep (encI i) = 1 := rfl
theorem nr_I (i : Id) : D.nr (encI i) = true := rfl
theorem flat_I (i : Id) : D.flat (encI i) = true := rfl
theorem vw_I (i : Id) (h : CH) : vw h (encI i) = encI i := rfl
theorem isNon_I (i : Id) : D.isNon (encI i) = false := rfl
theorem dat_O (i : Option Id) : D.dat (encO i) = true := by cases i <;> rfl
theorem dep_O (i : Option Id) : D.dep (encO i) ≤ 1 := by
  cases i with
  | none => exact Nat.zero_le _
  | some i => exact Nat.le_refl 1
theorem nr_O (i : Option Id) : D.nr (encO i) = true := by cases i <;> rfl
theorem flat_O (i : Option Id) : D.flat (encO i) = true := by cases i <;> rfl
theorem vw_O (i : Option Id) (h : CH) : vw h (encO i) = encO i := by cases i <;> rfl
theorem isNon_O (i : Option Id) : D.isNon (encO i) = i.isNone := by cases i <;> rfl
theorem dat_P (p : List Str) : D.dat (encP p) = true := datL_strs p
theorem dep_P (p : List Str) : D.dep (encP p) = 1 := by show D.depL (p.map .str) + 1 = 1; rw [depL_strs]
theorem nr_P (p : List Str) : D.nr (encP p) = true := nrL_strs p
theorem flat_P (p : List Str) : D.flat (encP p) = true := flat_strs p
theorem vw_P (p : List Str) (h : CH) : vw h (encP p) = encP p := rfl
theorem dEq_II (i j : Id) (h : CH) : dEq (encI i) (encI j) h = .ok (.bl (decide (i = j))) h := by
  unfold dEq
  rw [vw_I, vw_I, if_pos ⟨rfl, rfl, by rw [dep_I, dep_I]; decide⟩, eqb_II]
theorem dEq_OO (i j : Option Id) (h : CH) : dEq (encO i) (encO j) h = .ok (.bl (decide (i = j))) h := by
  unfold dEq
  rw [vw_O, vw_O, if_pos ⟨dat_O i, dat_O j, by have := dep_O i; omega⟩, eqb_OO]
theorem dEq_OI (i : Option Id) (j : Id) (h : CH) : dEq (encO i) (encI j) h = .ok (.bl (decide (i = some j))) h := dEq_OO i (some j) h
theorem dEq_IO (i : Id) (j : Option Id) (h : CH) : dEq (encI i) (encO j) h = .ok (.bl (decide (some i = j))) h := dEq_OO (some i) j h
theorem dEq_PP (p q : List Str) (h : CH) : dEq (encP p) (encP q) h = .ok (.bl (decide (p = q))) h := by
  unfold dEq
  rw [vw_P, vw_P, if_pos ⟨dat_P p, dat_P q, by rw [dep_P, dep_P]; decide⟩, eqb_PP]
theorem dNe_PP (p q : List Str) (h : CH) : dNe (encP p) (encP q) h = .ok (.bl (!decide (p = q))) h := by
  unfold dNe
  rw [vw_P, vw_P, if_pos ⟨dat_P p, dat_P q, by rw [dep_P, dep_P]; decide⟩, eqb_PP]
theorem dAdd_PP (p q : List Str) (h : CH) (hl : p.length + q.length ≤ 16777216) : dAdd (encP p) (encP q) h = .ok (encP (p ++ q)) h := by
  unfold dAdd encP
  dsimp only
  rw [if_pos (by rw [List.length_map, List.length_map, sz]; exact hl), List.map_append]
theorem inb_I (i : Id) (is : List Id) : inb (encI i) (is.map encI) = decide (i ∈ is) := by
  unfold inb
  induction is with
  | nil => simp
  | cons j is ih =>
    rw [List.map_cons, List.any_cons, ih, eqb_II]
    by_cases h : j = i
    · subst h; simp
    · by_cases h2 : i ∈ is <;> simp [h, h2, Ne.symm h]
theorem datL_I : ∀ is : List Id, D.datL (is.map encI) = true
  | [] => rfl
  | i :: is => datL_I is
theorem depL_I : ∀ is : List Id, D.depL (is.map encI) ≤ 1
  | [] => by decide
  | i :: is => by
    have := depL_I is
    show max 1 (D.depL (is.map encI)) ≤ 1
    omega
theorem nrL_I : ∀ is : List Id, D.nrL (is.map encI) = true
  | [] => rfl
  | i :: is => nrL_I is
theorem flatL_I : ∀ is : List Id, D.flatL (is.map encI) = true
  | [] => rfl
  | i :: is => flatL_I is
/-- tuples of ids -/
def encT (is : List Id) : D := .tup (is.map encI)
theorem dIn_IT (i : Id) (is : List Id) (h : CH) : dIn (encI i) (encT is) h = .ok (.bl (decide (i ∈ is))) h := by
  show (match seq h (.tup (is.map encI)) with | some ys => if (vw h (encI i)).dat = true ∧ D.datL ys = true ∧ (vw h (encI i)).dep ≤ 60 then R.ok (D.bl (inb (vw h (encI i)) ys)) h else .bad | none => .bad) = _
  show (if (vw h (encI i)).dat = true ∧ D.datL (is.map encI) = true ∧ (vw h (encI i)).dep ≤ 60 then R.ok (D.bl (inb (vw h (encI i)) (is.map encI))) h else .bad) = _
  rw [vw_I, if_pos ⟨rfl, datL_I is, by rw [dep_I]; decide⟩, inb_I]
theorem dIn_IL (i : Id) (is : List Id) (h : CH) : dIn (encI i) (.lst (is.map encI)) h = .ok (.bl (decide (i ∈ is))) h := by
  show (if (vw h (encI i)).dat = true ∧ D.datL (is.map encI) = true ∧ (vw h (encI i)).dep ≤ 60 then R.ok (D.bl (inb (vw h (encI i)) (is.map encI))) h else .bad) = _
  rw [vw_I, if_pos ⟨rfl, datL_I is, by rw [dep_I]; decide⟩, inb_I]
theorem dIs_O (i : Option Id) (h : CH) : dIs (encO i) .non h = .ok (.bl i.isNone) h := by cases i <;> rfl
theorem dIsnt_O (i : Option Id) (h : CH) : dIsnt (encO i) .non h = .ok (.bl i.isSome) h := by cases i <;> rfl
theorem nr_T (is : List Id) : D.nr (encT is) = true := nrL_I is
theorem dat_T (is : List Id) : D.dat (encT is) = true := datL_I is
theorem flat_T (is : List Id) : D.flat (encT is) = true := flatL_I is
theorem itOf_T (is : List Id) (h : CH) : itOf (encT is) h = .ok (is.map encI, none) h := rfl
theorem rangeD_nat (n : Nat) : rangeD 0 (n : Int) = (List.range n).map fun (k : Nat) => .int (k : Int) := by
  unfold rangeD
  rw [Int.sub_zero, Int.toNat_natCast]
  congr 1
  funext k
  rw [Int.zero_add]
theorem inR_nat {n : Nat} (h : n ≤ 16777217) : inR (n : Int) := ⟨by omega, by omega⟩
/-! runs of defs -/
theorem Good.fnE {body : SD} {N : Nat} {ds : List D} {h h0 : CH} {d0 : D} {ρ : Env} (p : Good (body ρ h) (fun _ h' => d0 = .non ∧ h' = h0) (fun d h' => d = d0 ∧ h' = h0)) (he : ds.map some ++ List.replicate (N - ds.length) none = ρ := by rfl) : fnD N body ds h = .ok d0 h0 := by
  obtain ⟨d, h', e, rfl, rfl⟩ := Good.fn (T := fun d h' => d = d0 ∧ h' = h0) (Good.cut p fun _ _ ⟨a, b⟩ => ⟨a.symm, b⟩) he
  exact e
theorem Good.find {X : Type} {en : X → D} {p : X → Bool} {val : X → D} {c : BD} {r : ED} {v : Nat} {h h0 : CH} {o : Option Nat} {xs : List X} {ρ : Env} {u : Option D} {it : ITD} {N : Env → CH → Prop} {T : D → CH → Prop} (ei : it ρ h0 = .ok (xs.map en, o) h) (hg : gd o (xs.map en) h) (hu : ρ[v]? = some u)
    (hc : ∀ x ∈ xs, c (ρ.set v (some (en x))) h = .ok (p x) h) (hr : ∀ x ∈ xs, p x = true → r (ρ.set v (some (en x))) h = .ok (val x) h) (hs : ∀ x, xs.find? p = some x → T (val x) h) (hn : xs.find? p = none → N (ρ.set v (lastV en xs u)) h) : Good (FK.sFor it (gN v) (sIf c (sRet r) sNil) ρ h0) N T := by
  unfold FK.sFor
  rw [ei]
  dsimp only
  rw [find_eq (p := p) (val := val) hg xs hu hc hr]
  cases q : xs.find? p with
  | none => exact hn q
  | some x => exact hs x q
theorem Good.build {X : Type} {en : X → D} {f : X → List D} {g : GD} {body : SD} {hh : List D → CH} {o : Option Nat} {I : Env → Prop} (B : Nat) {xs : List X} {acc : List D} {ρ : Env} {h0 : CH} {it : ITD} {N : Env → CH → Prop} {T : D → CH → Prop} (ei : it ρ h0 = .ok (xs.map en, o) (hh acc)) (hg : ∀ acc, gd o (xs.map en) (hh acc))
    (hI : I ρ) (hB : acc.length + (xs.flatMap f).length ≤ B) (st : ∀ x ∈ xs, ∀ ρ acc, I ρ → acc.length + (f x).length ≤ B → ∃ ρ1, g (en x) ρ = some ρ1 ∧ ∃ ρ2, I ρ2 ∧ (body ρ1 (hh acc) = .ok .nx ρ2 (hh (acc ++ f x)) ∨ body ρ1 (hh acc) = .ok .ct ρ2 (hh (acc ++ f x))))
    (done : ∀ ρ', I ρ' → N ρ' (hh (acc ++ xs.flatMap f))) : Good (FK.sFor it g body ρ h0) N T := by
  obtain ⟨ρ', hI', e⟩ := FK.build (v := 0) (body := body) (g := g) (en := en) (f := f) (I := I) (all := xs.map en) hg xs acc ρ hI hB st
  unfold FK.sFor
  rw [ei]
  dsimp only
  rw [e]
  exact done ρ' hI'
/-- a loop that carries a state on -/
theorem Good.fold {X S : Type} {en : X → D} {st : S → X → S} {g : GD} {body : SD} {o : Option Nat} {I : S → Env → Prop} {h h0 : CH} {N : Env → CH → Prop} {T : D → CH → Prop} {it : ITD} {xs : List X} {s : S} {ρ : Env} (ei : it ρ h0 = .ok (xs.map en, o) h) (hg : gd o (xs.map en) h) (hI : I s ρ)
    (step : ∀ x ∈ xs, ∀ s ρ, I s ρ → ∃ ρ1, g (en x) ρ = some ρ1 ∧ ∃ ρ2, body ρ1 h = .ok .nx ρ2 h ∧ I (st s x) ρ2) (done : ∀ ρ', I (xs.foldl st s) ρ' → N ρ' h) : Good (FK.sFor it g body ρ h0) N T := by
  have key : ∀ (ys : List X) (s : S) (ρ : Env), (∀ y ∈ ys, y ∈ xs) → I s ρ → ∃ ρ', forX o (xs.map en) g body (ys.map en) ρ h = .ok .nx ρ' h ∧ I (ys.foldl st s) ρ' := by
    intro ys
    induction ys with
    | nil =>
      intro s ρ _ hI
      refine ⟨ρ, ?_, hI⟩
      cases o with
      | none => rfl
      | some n => exact if_pos hg
    | cons y ys ih =>
      intro s ρ hy hI
      obtain ⟨ρ1, e1, ρ2, e2, h2⟩ := step y (hy y List.mem_cons_self) s ρ hI
      obtain ⟨ρ', e3, h3⟩ := ih (st s y) ρ2 (fun z hz => hy z (List.mem_cons_of_mem _ hz)) h2
      refine ⟨ρ', ?_, h3⟩
      rw [← e3]
      cases o with
      | none =>
        show FK.forL g body (en y :: ys.map en) ρ h = _
        unfold FK.forL
        rw [e1]
        dsimp only
        rw [e2]
        rfl
      | some n =>
        show FK.forC n (xs.map en) g body (en y :: ys.map en) ρ h = _
        unfold FK.forC
        rw [if_pos (show h[n]? = some (.lst (xs.map en)) from hg), e1]
        dsimp only
        rw [e2]
        rfl
  obtain ⟨ρ', e, hI'⟩ := key xs s ρ (fun _ h => h) hI
  unfold FK.sFor
  rw [ei]
  dsimp only
  rw [e]
  exact done ρ' hI'
theorem sz' (n : Nat) : (n < sizeLine) = (n < 16777216) := by rw [sizeLine_eq]
theorem vw_last (h : CH) (xs : List D) : vw (h ++ [.lst xs]) (.ref h.length) = .lst xs := by unfold vw; dsimp only; rw [get_last]
theorem app_last (h : CH) (xs : List D) (d : D) (hl : xs.length < 16777216) : dApp (.ref h.length) [d] (h ++ [.lst xs]) = .ok .non (h ++ [.lst (xs ++ [d])]) := by
  unfold dApp
  dsimp only
  rw [get_last]
  dsimp only
  rw [if_pos (by rw [sz']; exact hl), set_last]
theorem eMl_app {f : ED} {fs : AD} {ρ : Env} {h : CH} {xs : List D} {d : D} (e1 : f ρ (h ++ [.lst xs]) = .ok (.ref h.length) (h ++ [.lst xs])) (e2 : fs ρ (h ++ [.lst xs]) = .ok [d] (h ++ [.lst xs])) (hl : xs.length < 16777216) : eMl dApp f fs ρ (h ++ [.lst xs]) = .ok .non (h ++ [.lst (xs ++ [d])]) := by
  unfold eMl M.bind
  rw [e1]
  dsimp only
  rw [vw_last]
  dsimp only
  rw [e2]
  exact app_last h xs d hl
theorem lstOf_last (h : CH) (xs : List D) : lstOf (h ++ [.lst xs]) (.ref h.length) = some xs := by unfold lstOf; rw [vw_last]
theorem lstOf_app {h : CH} {d : D} {xs : List D} (e : lstOf h d = some xs) {j : CH} : lstOf (h ++ j) d = some xs := by
  unfold lstOf vw at *
  cases d with
  | ref k =>
    dsimp only at *
    cases q : h[k]? with
    | none => rw [q] at e; cases e
    | some c =>
      obtain ⟨hk, _⟩ := List.getElem?_eq_some_iff.mp q
      rw [List.getElem?_append_left hk, q]
      rw [q] at e
      exact e
  | lst ys => exact e
  | _ => cases e
theorem fz_lstOf {h : CH} {d : D} {xs : List D} (e : lstOf h d = some xs) (n : D.nrL xs = true) : fz h d = some (.lst xs) := by
  unfold lstOf vw at e
  cases d with
  | ref k =>
    dsimp only at e
    cases q : h[k]? with
    | none => rw [q] at e; cases e
    | some c =>
      rw [q] at e
      cases c with
      | lst ys => cases e; exact fz_ref q n
      | ins _ _ _ => cases e
  | lst ys => cases e; exact fz_nr n
  | _ => cases e
theorem flatL_nrL {xs : List D} (h : D.flatL xs = true) : D.nrL xs = true := D.nr_flat (.tup xs) h
theorem callP_lf {n : Nat} {F : FD} {d r : D} {xs rest : List D} {h h' : CH} (hl : lstOf h d = some xs) (hx : D.nrL xs = true) (hr : D.nrL rest = true) (e : F (.lst xs :: rest) [] = .ok r h') (hf : r.flat = true) (hn : rest.length + 1 = n := by rfl) : callP n F (d :: rest) h = .ok r h := by
  by_cases q : D.nrL (d :: rest) = true
  · have : d = .lst xs := by
      cases d with
      | ref k => cases q
      | lst ys => cases hl; rfl
      | _ => cases hl
    subst this
    exact callP_ok q e (fz_nr (D.nr_flat r hf)) hn
  · refine callP_fz (es := .lst xs :: rest) (Bool.eq_false_iff.mpr q) ?_ e hf hn
    unfold mapO
    rw [fz_lstOf hl hx, mapO_id fun d hd => fz_nr (nrL_iff.mp hr d hd)]
theorem callP_ll {n : Nat} {F : FD} {d : D} {k : Nat} {xs ys rest : List D} {h h' : CH} (hl : lstOf h d = some xs) (hx : D.nrL xs = true) (hr : D.nrL rest = true) (e : F (.lst xs :: rest) [] = .ok (.ref k) h') (hk : h'[k]? = some (.lst ys)) (hf : D.flatL ys = true) (hn : rest.length + 1 = n := by rfl) : callP n F (d :: rest) h = .ok (.lst ys) h := by
  by_cases q : D.nrL (d :: rest) = true
  · have : d = .lst xs := by
      cases d with
      | ref k => cases q
      | lst ys => cases hl; rfl
      | _ => cases hl
    subst this
    exact callP_ok q e (fz_ref hk (flatL_nrL hf)) hn
  · have hm : mapO (fz h) (d :: rest) = some (.lst xs :: rest) := by
      unfold mapO
      rw [fz_lstOf hl hx, mapO_id fun d hd => fz_nr (nrL_iff.mp hr d hd)]
    unfold callP
    rw [if_pos (show (d :: rest).length = n from hn), if_neg q, hm]
    dsimp only
    rw [e]
    dsimp only
    rw [if_neg (show ¬ (D.flat (.ref k) = true) from fun z => nomatch z)]
    unfold own
    dsimp only
    rw [hk]
    dsimp only
    rw [if_pos hf]
theorem callN_ok {n : Nat} {F : FD} {ds ys : List D} {k : Nat} {h h' : CH} (hr : D.nrL ds = true) (e : F ds [] = .ok (.ref k) h') (hk : h'[k]? = some (.lst ys)) (hy : D.nrL ys = true) (hn : ds.length = n := by rfl) : callN n F ds h = .ok (.ref h.length) (h ++ [.lst ys]) := by
  unfold callN
  rw [if_pos ⟨hn, hr⟩, e]
  dsimp only
  rw [hk]
  dsimp only
  rw [if_pos hy]
/-! operators on plain data, one by one -/
theorem dEq_int (a b : Int) (h : CH) : dEq (.int a) (.int b) h = .ok (.bl (decide (a = b))) h := by
  have : D.eqb (.int a) (.int b) = decide (a = b) := by
    show (a == b) = _
    by_cases h : a = b <;> simp [h]
  unfold dEq
  rw [if_pos ⟨rfl, rfl, by show min 0 0 ≤ 60; decide⟩]
  show R.ok (D.bl (D.eqb (.int a) (.int b))) h = _
  rw [this]
theorem dNe_int (a b : Int) (h : CH) : dNe (.int a) (.int b) h = .ok (.bl (!decide (a = b))) h := by
  have : D.eqb (.int a) (.int b) = decide (a = b) := by
    show (a == b) = _
    by_cases h : a = b <;> simp [h]
  unfold dNe
  rw [if_pos ⟨rfl, rfl, by show min 0 0 ≤ 60; decide⟩]
  show R.ok (D.bl (!D.eqb (.int a) (.int b))) h = _
  rw [this]
theorem dIs_non (h : CH) : dIs .non .non h = .ok (.bl true) h := rfl
theorem dIsnt_non (h : CH) : dIsnt .non .non h = .ok (.bl false) h := rfl
theorem dIs_I (i : Id) (h : CH) : dIs (encI i) .non h = .ok (.bl false) h := rfl
theorem dIsnt_I (i : Id) (h : CH) : dIsnt (encI i) .non h = .ok (.bl true) h := rfl
theorem dIdx_tup (xs : List D) (k : Int) (h : CH) : dIdx (.tup xs) (.int k) h = match atI xs k with | some d => .ok d h | none => .bad := rfl
theorem dIdx_lst (xs : List D) (k : Int) (h : CH) : dIdx (.lst xs) (.int k) h = match atI xs k with | some d => .ok d h | none => .bad := rfl
theorem dIdx_scr (xs : List D) (k : Int) (h : CH) : dIdx (.scr xs) (.int k) h = match atI xs k with | some d => .ok d h | none => .bad := rfl
theorem dAdd_int (a b : Int) (h : CH) : dAdd (.int a) (.int b) h = .ok (.int (a + b)) h := rfl
/-! a loop as a machine -/
inductive Stp (S : Type) where
  | ret (d : D)
  | go (s : S)
  | stop (s : S)
def runX {X S : Type} (st : S → X → Stp S) : List X → S → (D × S) ⊕ S
  | [], s => .inr s
  | x :: xs, s => match st s x with
    | .ret d => .inl (d, s)
    | .go s' => runX st xs s'
    | .stop s' => .inr s'
/-- what a turn must show -/
def Turn {S : Type} (r : RS) (hh : S → CH) (I : S → Env → Prop) (s : S) : Stp S → Prop
  | .ret d => ∃ ρ2, r = .ok (.rt d) ρ2 (hh s)
  | .go s => ∃ ρ2, (r = .ok .nx ρ2 (hh s) ∨ r = .ok .ct ρ2 (hh s)) ∧ I s ρ2
  | .stop s => ∃ ρ2, r = .ok .bk ρ2 (hh s) ∧ I s ρ2
/-- the state when all turns so far went on -/
def goX {X S : Type} (st : S → X → Stp S) : List X → S → Option S
  | [], s => some s
  | x :: xs, s => match st s x with
    | .go s' => goX st xs s'
    | _ => none
theorem goX_snoc {X S : Type} {st : S → X → Stp S} {y : X} {s2 : S} : ∀ {xs : List X} {s s1 : S}, goX st xs s = some s1 → st s1 y = .go s2 → goX st (xs ++ [y]) s = some s2
  | [], s, s1, e, q => by
    cases e
    show (match st s y with | .go s' => goX st [] s' | _ => none) = _
    rw [q]
    rfl
  | x :: xs, s, s1, e, q => by
    unfold goX at e
    show (match st s x with | .go s' => goX st (xs ++ [y]) s' | _ => none) = _
    cases h : st s x with
    | go s' => rw [h] at e; exact goX_snoc (xs := xs) e q
    | ret d => rw [h] at e; cases e
    | stop s' => rw [h] at e; cases e
theorem Good.runP {X S : Type} {en : X → D} (st : S → X → Stp S) {hh : S → CH} {g : GD} {body : SD} {o : Option Nat} (I : S → Env → Prop) {h0 : CH} {N : Env → CH → Prop} {T : D → CH → Prop} {it : ITD} {xs : List X} (s : S) {ρ : Env} (ei : it ρ h0 = .ok (xs.map en, o) (hh s)) (hg : ∀ s, gd o (xs.map en) (hh s)) (hI : I s ρ)
    (step : ∀ pre x post, xs = pre ++ x :: post → ∀ s' ρ, goX st pre s = some s' → I s' ρ → ∃ ρ1, g (en x) ρ = some ρ1 ∧ Turn (body ρ1 (hh s')) hh I s' (st s' x)) (ret : ∀ d s', runX st xs s = .inl (d, s') → T d (hh s')) (done : ∀ s' ρ', runX st xs s = .inr s' → I s' ρ' → N ρ' (hh s')) : Good (FK.sFor it g body ρ h0) N T := by
  have key : ∀ (ys pre : List X) (s1 : S) (ρ : Env), xs = pre ++ ys → goX st pre s = some s1 → I s1 ρ → Good (forX o (xs.map en) g body (ys.map en) ρ (hh s1)) (fun ρ' h' => ∃ s', runX st ys s1 = .inr s' ∧ I s' ρ' ∧ h' = hh s') (fun d h' => ∃ s', runX st ys s1 = .inl (d, s') ∧ h' = hh s') := by
    intro ys
    induction ys with
    | nil =>
      intro pre s1 ρ _ _ hI
      cases o with
      | none => exact ⟨s1, rfl, hI, rfl⟩
      | some n =>
        have : forX (some n) (xs.map en) g body (([] : List X).map en) ρ (hh s1) = .ok .nx ρ (hh s1) := if_pos (hg s1)
        rw [this]
        exact ⟨s1, rfl, hI, rfl⟩
    | cons y ys ih =>
      intro pre s1 ρ hx hgo hI
      obtain ⟨ρ1, e1, t⟩ := step pre y ys hx s1 ρ hgo hI
      have one : forX o (xs.map en) g body ((y :: ys).map en) ρ (hh s1) = (match body ρ1 (hh s1) with
        | .ok .nx ρ2 h2 => forX o (xs.map en) g body (ys.map en) ρ2 h2
        | .ok .ct ρ2 h2 => forX o (xs.map en) g body (ys.map en) ρ2 h2
        | .ok .bk ρ2 h2 => .ok .nx ρ2 h2
        | r => r) := by
        cases o with
        | none =>
          show FK.forL g body (en y :: ys.map en) ρ (hh s1) = _
          unfold FK.forL
          rw [e1]
          rfl
        | some n =>
          show FK.forC n (xs.map en) g body (en y :: ys.map en) ρ (hh s1) = _
          unfold FK.forC
          rw [if_pos (show (hh s1)[n]? = some (.lst (xs.map en)) from hg s1), e1]
          rfl
      rw [one]
      unfold runX
      cases q : st s1 y with
      | ret d =>
        rw [q] at t
        obtain ⟨ρ2, e2⟩ := t
        rw [e2]
        exact ⟨s1, rfl, rfl⟩
      | go s' =>
        rw [q] at t
        obtain ⟨ρ2, e2, t2⟩ := t
        have := ih (pre ++ [y]) s' ρ2 (by rw [hx, List.append_assoc]; rfl) (goX_snoc hgo q) t2
        rcases e2 with e2 | e2 <;> rw [e2] <;> exact this
      | stop s' =>
        rw [q] at t
        obtain ⟨ρ2, e2, t2⟩ := t
        rw [e2]
        exact ⟨s', rfl, t2, rfl⟩
  unfold FK.sFor
  rw [ei]
  dsimp only
  have k := key xs [] s ρ rfl rfl hI
  generalize forX o (xs.map en) g body (xs.map en) ρ (hh s) = r at k
  cases r with
  | ok f ρ' h' =>
    cases f with
    | nx => obtain ⟨s', a, b, c⟩ := k; subst c; exact done s' ρ' a b
    | rt d => obtain ⟨s', a, c⟩ := k; subst c; exact ret d s' a
    | _ => exact k.elim
  | _ => exact k.elim
theorem Good.run {X S : Type} {en : X → D} (st : S → X → Stp S) {hh : S → CH} {g : GD} {body : SD} {o : Option Nat} (I : S → Env → Prop) {h0 : CH} {N : Env → CH → Prop} {T : D → CH → Prop} {it : ITD} {xs : List X} (s : S) {ρ : Env} (ei : it ρ h0 = .ok (xs.map en, o) (hh s)) (hg : ∀ s, gd o (xs.map en) (hh s)) (hI : I s ρ)
    (step : ∀ x ∈ xs, ∀ s ρ, I s ρ → ∃ ρ1, g (en x) ρ = some ρ1 ∧ Turn (body ρ1 (hh s)) hh I s (st s x)) (ret : ∀ d s', runX st xs s = .inl (d, s') → T d (hh s')) (done : ∀ s' ρ', runX st xs s = .inr s' → I s' ρ' → N ρ' (hh s')) : Good (FK.sFor it g body ρ h0) N T :=
  Good.runP st I s ei hg hI (fun pre x post hx s' ρ _ hI => step x (by rw [hx]; simp) s' ρ hI) ret done
/-- a loop, by what holds behind each part of the items -/
theorem Good.pre {X : Type} {en : X → D} {g : GD} {body : SD} {o : Option Nat} (I : List X → Env → CH → Prop) {h0 h : CH} {N : Env → CH → Prop} {T : D → CH → Prop} {it : ITD} {xs : List X} {ρ : Env} (ei : it ρ h0 = .ok (xs.map en, o) h) (hI : I [] ρ h) (hgd : ∀ pre ρ h, I pre ρ h → gd o (xs.map en) h)
    (step : ∀ pre x post, xs = pre ++ x :: post → ∀ ρ h, I pre ρ h → ∃ ρ1, g (en x) ρ = some ρ1 ∧ Good (body ρ1 h) (I (pre ++ [x])) T) (done : ∀ ρ' h', I xs ρ' h' → N ρ' h') : Good (FK.sFor it g body ρ h0) N T := by
  have key : ∀ (ys pre : List X) (ρ : Env) (h : CH), xs = pre ++ ys → I pre ρ h → Good (forX o (xs.map en) g body (ys.map en) ρ h) (I xs) T := by
    intro ys
    induction ys with
    | nil =>
      intro pre ρ h e hI
      rw [List.append_nil] at e
      subst e
      have : forX o (xs.map en) g body (([] : List X).map en) ρ h = .ok .nx ρ h := by
        cases o with
        | none => rfl
        | some n => exact if_pos (hgd _ _ _ hI)
      rw [this]
      exact hI
    | cons y ys ih =>
      intro pre ρ h e hI
      obtain ⟨ρ1, e1, t⟩ := step pre y ys e ρ h hI
      have one : forX o (xs.map en) g body ((y :: ys).map en) ρ h = (match body ρ1 h with
        | .ok .nx ρ2 h2 => forX o (xs.map en) g body (ys.map en) ρ2 h2
        | .ok .ct ρ2 h2 => forX o (xs.map en) g body (ys.map en) ρ2 h2
        | .ok .bk ρ2 h2 => .ok .nx ρ2 h2
        | r => r) := by
        cases o with
        | none =>
          show FK.forL g body (en y :: ys.map en) ρ h = _
          unfold FK.forL
          rw [e1]
          rfl
        | some n =>
          show FK.forC n (xs.map en) g body (en y :: ys.map en) ρ h = _
          unfold FK.forC
          rw [if_pos (show h[n]? = some (.lst (xs.map en)) from hgd _ _ _ hI), e1]
          rfl
      rw [one]
      cases eb : body ρ1 h with
      | ok f ρ2 h2 =>
        rw [eb] at t
        cases f with
        | nx => exact ih (pre ++ [y]) ρ2 h2 (by rw [e, List.append_assoc]; rfl) t
        | rt d => exact t
        | _ => exact t.elim
      | _ => rw [eb] at t; exact t.elim
  unfold FK.sFor
  rw [ei]
  dsimp only
  exact Good.cut (key xs [] ρ h rfl hI) done
theorem dSl_L {h : CH} {d : D} {xs : List D} (hl : lstOf h d = some xs) (lo hi : Option Int) : dSl d lo hi h = .ok (.lst (cut xs lo hi)) h := by
  unfold lstOf at hl
  cases d with
  | ref k =>
    unfold dSl
    dsimp only
    cases q : vw h (.ref k) with
    | lst ys => rw [q] at hl; cases hl; rfl
    | _ => rw [q] at hl; cases hl
  | lst ys => cases hl; rfl
  | _ => cases hl
theorem dIdx_L {h : CH} {d : D} {xs : List D} (hl : lstOf h d = some xs) (k : Int) : dIdx d (.int k) h = match atI xs k with | some d => .ok d h | none => .bad := by
  unfold lstOf at hl
  cases d with
  | ref k =>
    unfold dIdx
    dsimp only
    unfold seq
    cases q : vw h (.ref k) with
    | lst ys => rw [q] at hl; cases hl; rfl
    | _ => rw [q] at hl; cases hl
  | lst ys => cases hl; rfl
  | _ => cases hl
theorem dAdd_lst (xs ys : List D) (h : CH) (hl : xs.length + ys.length ≤ 16777216) : dAdd (.lst xs) (.lst ys) h = .ok (.lst (xs ++ ys)) h := by
  unfold dAdd
  exact if_pos (by rw [sz]; exact hl)
theorem cut_to {xs : List D} {k : Nat} (hk : k ≤ xs.length) : cut xs none (some (k : Int)) = xs.take k := by
  unfold cut
  rw [HT.sIx_nat]
  show ((xs.drop 0).take (min k xs.length - 0)) = _
  rw [List.drop_zero, Nat.sub_zero, Nat.min_eq_left hk]
theorem cut_from {xs : List D} {k : Nat} (hk : k ≤ xs.length) : cut xs (some (k : Int)) none = xs.drop k := by
  unfold cut
  rw [HT.sIx_nat]
  show ((xs.drop (min k xs.length)).take (xs.length - min k xs.length)) = _
  rw [Nat.min_eq_left hk, List.take_of_length_le (by rw [List.length_drop]; exact Nat.le_refl _)]
/-- [f for g in xs if b] -/
theorem eLc_fm {X : Type} {en : X → D} (p : X → Bool) (val : X → D) {it : ITD} {g : GD} {b : BD} {f : ED} {vs : List Nat} {ρ : Env} {h : CH} {o : Option Nat} {xs : List X} (ei : it ρ h = .ok (xs.map en, o) h) (hg : gd o (xs.map en) h) (hl : xs.length ≤ 16777216)
    (hq : ∀ x ∈ xs, ∃ ρ1, g (en x) (wipeE ρ vs) = some ρ1 ∧ b ρ1 h = .ok (p x) h ∧ (p x = true → f ρ1 h = .ok (val x) h)) : eLc lcEnd it g b f vs ρ h = .ok (.lst ((xs.filter p).map val)) h := by
  have one : ∀ x ∈ xs, lcT g b f (wipeE ρ vs) (en x) h = .ok (if p x = true then some (val x) else none) h := by
    intro x hx
    obtain ⟨ρ1, e1, e2, e3⟩ := hq x hx
    unfold lcT
    rw [e1]
    dsimp only
    rw [e2]
    cases q : p x with
    | true => dsimp only; rw [e3 q]; rfl
    | false => rfl
  have key : ∀ ys : List X, (∀ y ∈ ys, y ∈ xs) → lcX o (xs.map en) g b f (wipeE ρ vs) (ys.map en) h = .ok ((ys.filter p).map val) h := by
    intro ys
    induction ys with
    | nil =>
      intro _
      cases o with
      | none => rfl
      | some n => exact if_pos hg
    | cons y ys ih =>
      intro hy
      have e1 := one y (hy y List.mem_cons_self)
      have e2 := ih fun z hz => hy z (List.mem_cons_of_mem _ hz)
      have step : lcX o (xs.map en) g b f (wipeE ρ vs) ((y :: ys).map en) h = M.bind (lcT g b f (wipeE ρ vs) (en y)) (fun q => M.bind (lcX o (xs.map en) g b f (wipeE ρ vs) (ys.map en)) fun r => M.pure (q.toList ++ r)) h := by
        cases o with
        | none => rfl
        | some n => exact if_pos hg
      rw [step]
      unfold M.bind
      rw [e1]
      dsimp only
      rw [e2]
      cases q : p y with
      | true => rw [if_pos rfl, List.filter_cons_of_pos q]; rfl
      | false => rw [if_neg (by decide), List.filter_cons_of_neg (by simp [q])]; rfl
  unfold eLc M.bind
  rw [ei]
  dsimp only
  rw [key xs fun _ h => h]
  unfold lcEnd
  have := List.length_filter_le p xs
  exact if_pos (by rw [sz, List.length_map]; omega)
theorem wipe_gN {ρ : Env} {v : Nat} {d : D} : gN v d (wipeE ρ [v]) = some (ρ.set v (some d)) := by
  show some ((ρ.set v none).set v (some d)) = _
  rw [set_set]
theorem Good.toNx {r : RS} {N : Env → CH → Prop} (g : Good r N (fun _ _ => False)) : ∃ ρ h, r = .ok .nx ρ h ∧ N ρ h := by
  cases r with
  | ok f ρ h =>
    cases f with
    | nx => exact ⟨ρ, h, rfl, g⟩
    | rt d => exact g.elim
    | _ => exact g.elim
  | _ => exact g.elim
end FK

/-! part: LM -/
set_option linter.all false
set_option maxRecDepth 100000
set_option maxHeartbeats 4000000
namespace FK
open PySem PySem.Spec L2
/-! LM: lines, edits, in plain Lean. -/
abbrev Mk4 := Int × Int × Int × Bool
structure Ln where
  id : Id
  head : Id
  ins : Option Id
  below : List Str
  ct : Option Mk4
structure Pc where
  ins : Option Id
  below : List Str
  seen : List Str
inductive Ed where
  | write (id : Id) (pl : Pc) (ct : Option Mk4) (meant : Option Id) (reps : List Id)
  | drop (id : Id) (hs : List Id)
  | move (id : Id) (ms : List (Option Id × Option Id × Pc))
def fline (ls : List Ln) (o : Option Id) : Option Ln := ls.find? fun l => decide (some l.id = o)
def fhead (ls : List Ln) (o : Option Id) : Option Ln := ls.find? fun l => decide (some l.head = o)
def ffold (ls : List Ln) (o : Option Id) : Option Ln := match fline ls o with
  | some l => if l.ct = none then some l else none
  | none => none
def settleF (ls : List Ln) (p : Pc) : Option Id × List Str := if p.ins.isSome = true ∧ (ffold ls p.ins).isSome = true then (p.ins, p.below) else (none, p.seen)
def standsIn (ls : List Ln) (x : Id) : Nat → Option Id → Bool
  | 0, _ => false
  | n + 1, none => false
  | n + 1, some i => if i = x then true else match ffold ls (some i) with
    | none => false
    | some f => standsIn ls x n f.ins
def endF (g l : Ln) : List Ln := if l.id = g.id then [] else if l.ins = some g.id then [{ l with ins := g.ins, below := g.below ++ l.below }] else [l]
def endL (ls : List Ln) (g : Ln) : List Ln := ls.flatMap (endF g)
def endH (ls : List Ln) (h : Id) : List Ln := match fhead ls (some h) with
  | some g => endL ls g
  | none => ls
def endHs (ls : List Ln) (hs : List Id) : List Ln := hs.foldl endH ls
def newL (ls : List Ln) (id : Id) (pl : Pc) (ct : Option Mk4) (meant : Option Id) : Ln := match fline ls meant with
  | some l => ⟨id, id, l.ins, l.below, ct⟩
  | none => ⟨id, id, (settleF ls pl).1, (settleF ls pl).2, ct⟩
def contd (ls : List Ln) (reps : List Id) : Option Ln := ls.find? fun l => l.ct.isSome && decide (l.head ∈ reps)
def goOn (ls : List Ln) (ct : Option Mk4) (reps : List Id) : Option Ln := if ct.isSome = true then contd ls reps else none
def wr0 (ls : List Ln) (id : Id) (pl : Pc) (ct : Option Mk4) (meant : Option Id) (reps : List Id) : List Ln := match goOn ls ct reps with
  | some g => ls.map fun l => if l.id = g.id then { l with head := id, ct := ct } else l
  | none => ls ++ [newL ls id pl ct meant]
def moveL (ls : List Ln) (m : Option Id × Option Id × Pc) : List Ln := match (fhead ls m.1).or (fline ls m.2.1) with
  | none => ls
  | some l => if standsIn ls l.id (ls.length + 1) (settleF ls m.2.2).1 = true then ls else ls.map fun x => if x.id = l.id then { x with ins := (settleF ls m.2.2).1, below := (settleF ls m.2.2).2 } else x
def afterL (ls : List Ln) : Ed → List Ln
  | .write id pl ct meant reps => endHs (wr0 ls id pl ct meant reps) reps
  | .drop _ hs => endHs ls hs
  | .move _ ms => ms.foldl moveL ls
/-- how lines lie: each stands in a folder that is there, none in itself; their names are few -/
structure Snd (n : Nat) (ls : List Ln) : Prop where
  nd : (ls.map Ln.id).Nodup
  ins : ∀ l ∈ ls, ∀ i, l.ins = some i → ∃ f ∈ ls, f.id = i ∧ f.ct = none
  rk : ∃ r : Id → Nat, ∀ l ∈ ls, ∀ i, l.ins = some i → r i < r l.id
  tg : ∃ t : Id → List Nat, (∀ l ∈ ls, (t l.id).length = l.below.length ∧ (t l.id).Nodup ∧ ∀ k ∈ t l.id, k < n) ∧ ∀ a ∈ ls, ∀ b ∈ ls, ∀ k, k ∈ t a.id → k ∈ t b.id → a.ins = b.ins
theorem Snd.nil (n : Nat) : Snd n [] := ⟨List.nodup_nil, by simp, ⟨fun _ => 0, by simp⟩, ⟨fun _ => [], by simp⟩⟩
theorem nodup_lt : ∀ {n : Nat} {xs : List Nat}, xs.Nodup → (∀ k ∈ xs, k < n) → xs.length ≤ n
  | 0, xs, _, h => by
    cases xs with
    | nil => exact Nat.le_refl _
    | cons x xs => exact absurd (h x List.mem_cons_self) (Nat.not_lt_zero _)
  | n + 1, xs, d, h => by
    have ih := nodup_lt (n := n) (xs := xs.erase n) (d.erase n) fun k hk => by
      have q := (List.Nodup.mem_erase_iff d).mp hk
      have := h k q.2
      have := q.1
      omega
    by_cases hm : n ∈ xs
    · have := List.length_erase_of_mem hm
      omega
    · rw [List.erase_of_not_mem hm] at ih
      omega
theorem Snd.len {n : Nat} {ls : List Ln} (w : Snd n ls) : ∀ l ∈ ls, l.below.length ≤ n := by
  obtain ⟨t, h, _⟩ := w.tg
  intro l hl
  obtain ⟨a, b, c⟩ := h l hl
  rw [← a]
  exact nodup_lt b c
theorem Snd.le {n m : Nat} {ls : List Ln} (w : Snd n ls) (h : n ≤ m) : Snd m ls := by
  obtain ⟨t, q, s⟩ := w.tg
  exact ⟨w.nd, w.ins, w.rk, t, fun l hl => ⟨(q l hl).1, (q l hl).2.1, fun k hk => Nat.lt_of_lt_of_le ((q l hl).2.2 k hk) h⟩, s⟩
theorem uniq {ls : List Ln} (nd : (ls.map Ln.id).Nodup) : ∀ {a b : Ln}, a ∈ ls → b ∈ ls → a.id = b.id → a = b := by
  induction ls with
  | nil => intro a b h; cases h
  | cons x xs ih =>
    rw [List.map_cons, List.nodup_cons] at nd
    intro a b ha hb e
    rcases List.mem_cons.mp ha with ha | ha <;> rcases List.mem_cons.mp hb with hb | hb
    · rw [ha, hb]
    · exact absurd (List.mem_map.mpr ⟨b, hb, by rw [← e, ha]⟩) nd.1
    · exact absurd (List.mem_map.mpr ⟨a, ha, by rw [e, hb]⟩) nd.1
    · exact ih nd.2 ha hb e
theorem mem_endL {ls : List Ln} {g x : Ln} : x ∈ endL ls g ↔ ∃ l ∈ ls, l.id ≠ g.id ∧ ((l.ins = some g.id ∧ x = { l with ins := g.ins, below := g.below ++ l.below }) ∨ (l.ins ≠ some g.id ∧ x = l)) := by
  unfold endL
  rw [List.mem_flatMap]
  constructor
  · rintro ⟨l, hl, hx⟩
    unfold endF at hx
    split at hx
    · cases hx
    · rename_i h1
      split at hx
      · rename_i h2
        exact ⟨l, hl, h1, .inl ⟨h2, List.mem_singleton.mp hx⟩⟩
      · rename_i h2
        exact ⟨l, hl, h1, .inr ⟨h2, List.mem_singleton.mp hx⟩⟩
  · rintro ⟨l, hl, h1, h2⟩
    refine ⟨l, hl, ?_⟩
    unfold endF
    rw [if_neg h1]
    rcases h2 with ⟨h2, rfl⟩ | ⟨h2, rfl⟩
    · rw [if_pos h2]; exact List.mem_singleton.mpr rfl
    · rw [if_neg h2]; exact List.mem_singleton.mpr rfl
theorem ids_endL {ls : List Ln} {g : Ln} : (endL ls g).map Ln.id = (ls.map Ln.id).filter fun i => decide (i ≠ g.id) := by
  unfold endL
  induction ls with
  | nil => rfl
  | cons l ls ih =>
    rw [List.flatMap_cons, List.map_append, ih, List.map_cons]
    unfold endF
    by_cases h : l.id = g.id
    · rw [if_pos h, List.filter_cons_of_neg (by simp [h])]; rfl
    · rw [if_neg h, List.filter_cons_of_pos (by simp [h])]
      split <;> rfl
theorem Snd.endL {n : Nat} {ls : List Ln} (w : Snd n ls) {g : Ln} (hg : g ∈ ls) : Snd n (endL ls g) := by
  obtain ⟨r, hr⟩ := w.rk
  obtain ⟨t, q, s⟩ := w.tg
  have self : g.ins ≠ some g.id := fun z => Nat.lt_irrefl _ (hr g hg _ z)
  refine ⟨by rw [ids_endL]; exact List.Pairwise.filter _ w.nd, ?_, ⟨r, ?_⟩, ?_⟩
  · have key : ∀ i, i ≠ g.id → (∃ f ∈ ls, f.id = i ∧ f.ct = none) → ∃ f ∈ FK.endL ls g, f.id = i ∧ f.ct = none := by
      rintro i hi ⟨f, hf, rfl, hc⟩
      by_cases h : f.ins = some g.id
      · exact ⟨_, mem_endL.mpr ⟨f, hf, hi, .inl ⟨h, rfl⟩⟩, rfl, hc⟩
      · exact ⟨_, mem_endL.mpr ⟨f, hf, hi, .inr ⟨h, rfl⟩⟩, rfl, hc⟩
    intro x hx i e
    obtain ⟨l, hl, h1, ⟨h2, rfl⟩ | ⟨h2, rfl⟩⟩ := mem_endL.mp hx
    · refine key i (fun z => self (z ▸ e)) (w.ins g hg i e)
    · exact key i (fun z => h2 (z ▸ e)) (w.ins _ hl i e)
  · intro x hx i e
    obtain ⟨l, hl, h1, ⟨h2, rfl⟩ | ⟨h2, rfl⟩⟩ := mem_endL.mp hx
    · exact Nat.lt_trans (hr g hg i e) (hr l hl _ h2)
    · exact hr _ hl i e
  · classical
    refine ⟨fun i => if ∃ l ∈ ls, l.id = i ∧ l.ins = some g.id then t g.id ++ t i else t i, ?_, ?_⟩
    · intro x hx
      obtain ⟨l, hl, h1, ⟨h2, rfl⟩ | ⟨h2, rfl⟩⟩ := mem_endL.mp hx
      · dsimp only
        rw [if_pos ⟨l, hl, rfl, h2⟩]
        obtain ⟨a1, b1, c1⟩ := q l hl
        obtain ⟨a2, b2, c2⟩ := q g hg
        refine ⟨by rw [List.length_append, List.length_append, a1, a2], List.nodup_append.mpr ⟨b2, b1, fun x hx y hy z => ?_⟩, fun k hk => ?_⟩
        · subst z
          exact self ((s g hg l hl x hx hy).trans h2)
        · rcases List.mem_append.mp hk with z | z
          · exact c2 k z
          · exact c1 k z
      · dsimp only
        rw [if_neg (fun ⟨l2, hl2, e1, e2⟩ => h2 (by rw [← uniq w.nd hl2 hl e1]; exact e2))]
        exact q x hl
    · -- what the tags of a line are
      have A : ∀ x ∈ FK.endL ls g, ∃ l ∈ ls, l.id = x.id ∧ ((l.ins = some g.id ∧ x.ins = g.ins) ∨ (l.ins ≠ some g.id ∧ x.ins = l.ins)) := by
        intro x hx
        obtain ⟨l, hl, h1, ⟨h2, rfl⟩ | ⟨h2, rfl⟩⟩ := mem_endL.mp hx
        · exact ⟨l, hl, rfl, .inl ⟨h2, rfl⟩⟩
        · exact ⟨x, hl, rfl, .inr ⟨h2, rfl⟩⟩
      intro a ha b hb k hka hkb
      obtain ⟨la, hla, ea, ca⟩ := A a ha
      obtain ⟨lb, hlb, eb, cb⟩ := A b hb
      dsimp only at hka hkb
      rw [← ea] at hka
      rw [← eb] at hkb
      have tl : ∀ l ∈ ls, ∀ k, k ∈ (if ∃ l' ∈ ls, l'.id = l.id ∧ l'.ins = some g.id then t g.id ++ t l.id else t l.id) → (l.ins = some g.id ∧ k ∈ t g.id) ∨ k ∈ t l.id := by
        intro l hl k hk
        split at hk
        · rename_i h
          obtain ⟨l', hl', e1, e2⟩ := h
          rcases List.mem_append.mp hk with z | z
          · exact .inl ⟨by rw [← uniq w.nd hl' hl e1]; exact e2, z⟩
          · exact .inr z
        · exact .inr hk
      rcases tl la hla k hka with ⟨pa, ka⟩ | ka <;> rcases tl lb hlb k hkb with ⟨pb, kb⟩ | kb
      · rcases ca with ⟨_, ca⟩ | ⟨ca, _⟩
        · rcases cb with ⟨_, cb⟩ | ⟨cb, _⟩
          · rw [ca, cb]
          · exact absurd pb cb
        · exact absurd pa ca
      · have e := s g hg lb hlb k ka kb
        rcases ca with ⟨_, ca⟩ | ⟨ca, _⟩
        · rcases cb with ⟨z, cb⟩ | ⟨_, cb⟩
          · exact absurd (e.trans z) self
          · rw [ca, cb, e]
        · exact absurd pa ca
      · have e := s g hg la hla k kb ka
        rcases cb with ⟨_, cb⟩ | ⟨cb, _⟩
        · rcases ca with ⟨z, ca⟩ | ⟨_, ca⟩
          · exact absurd (e.trans z) self
          · rw [ca, cb, e]
        · exact absurd pb cb
      · have e := s la hla lb hlb k ka kb
        rcases ca with ⟨pa, ca⟩ | ⟨pa, ca⟩ <;> rcases cb with ⟨pb, cb⟩ | ⟨pb, cb⟩
        · rw [ca, cb]
        · exact absurd (e.symm.trans pa) pb
        · exact absurd (e.trans pb) pa
        · rw [ca, cb, e]
theorem fhead_mem {ls : List Ln} {o : Option Id} {l : Ln} (e : fhead ls o = some l) : l ∈ ls ∧ some l.head = o := ⟨List.mem_of_find?_eq_some e, of_decide_eq_true (List.find?_some (p := fun l : Ln => decide (some l.head = o)) e)⟩
theorem fline_mem {ls : List Ln} {o : Option Id} {l : Ln} (e : fline ls o = some l) : l ∈ ls ∧ some l.id = o := ⟨List.mem_of_find?_eq_some e, of_decide_eq_true (List.find?_some (p := fun l : Ln => decide (some l.id = o)) e)⟩
theorem Snd.endH {n : Nat} {ls : List Ln} (w : Snd n ls) (h : Id) : Snd n (endH ls h) := by
  unfold FK.endH
  split
  · rename_i g e
    exact w.endL (fhead_mem e).1
  · exact w
theorem Snd.endHs {n : Nat} : ∀ (hs : List Id) {ls : List Ln}, Snd n ls → Snd n (endHs ls hs)
  | [], ls, w => w
  | h :: hs, ls, w => Snd.endHs hs (w.endH h)
theorem ffold_some {ls : List Ln} {o : Option Id} {l : Ln} (e : ffold ls o = some l) : l ∈ ls ∧ some l.id = o ∧ l.ct = none := by
  unfold ffold at e
  cases q : fline ls o with
  | none => rw [q] at e; cases e
  | some x =>
    rw [q] at e
    dsimp only at e
    split at e
    · rename_i h
      cases e
      exact ⟨(fline_mem q).1, (fline_mem q).2, h⟩
    · cases e
theorem fline_of {ls : List Ln} (nd : (ls.map Ln.id).Nodup) {l : Ln} (hl : l ∈ ls) : fline ls (some l.id) = some l := by
  cases e : fline ls (some l.id) with
  | none =>
    have := List.find?_eq_none.mp e l hl
    simp at this
  | some x =>
    obtain ⟨h1, h2⟩ := fline_mem e
    rw [uniq nd h1 hl (Option.some.inj h2)]
theorem ffold_of {ls : List Ln} (nd : (ls.map Ln.id).Nodup) {l : Ln} (hl : l ∈ ls) (hc : l.ct = none) : ffold ls (some l.id) = some l := by
  unfold ffold
  rw [fline_of nd hl]
  exact if_pos hc
theorem settle_ins {ls : List Ln} {p : Pc} {i : Id} (e : (settleF ls p).1 = some i) : ∃ f ∈ ls, f.id = i ∧ f.ct = none := by
  unfold settleF at e
  split at e
  · rename_i h
    have e : p.ins = some i := e
    rw [e] at h
    cases q : ffold ls (some i) with
    | none => rw [q] at h; cases h.2
    | some f =>
      obtain ⟨a, b, c⟩ := ffold_some q
      exact ⟨f, a, Option.some.inj b, c⟩
  · cases e
theorem settle_len {ls : List Ln} {p : Pc} (h1 : p.below.length ≤ 3) (h2 : p.seen.length ≤ 3) : (settleF ls p).2.length ≤ 3 := by
  unfold settleF
  split
  · exact h1
  · exact h2
/-- a new line -/
theorem Snd.new {n : Nat} {ls : List Ln} (w : Snd n ls) {x : Ln} (fresh : ∀ l ∈ ls, l.id ≠ x.id) (hi : ∀ i, x.ins = some i → ∃ f ∈ ls, f.id = i ∧ f.ct = none) (hb : x.below.length ≤ 3 ∨ ∃ l ∈ ls, l.ins = x.ins ∧ l.below = x.below) : Snd (n + 3) (ls ++ [x]) := by
  obtain ⟨r, hr⟩ := w.rk
  obtain ⟨t, q, s⟩ := w.tg
  have inF : ∀ i, (∃ f ∈ ls, f.id = i ∧ f.ct = none) → ∃ f ∈ ls ++ [x], f.id = i ∧ f.ct = none := fun i ⟨f, a, b⟩ => ⟨f, List.mem_append_left _ a, b⟩
  have nx : ∀ i, (∃ f ∈ ls, f.id = i ∧ f.ct = none) → i ≠ x.id := fun i ⟨f, a, b, _⟩ => b ▸ fresh f a
  refine ⟨?_, ?_, ?_, ?_⟩
  · rw [List.map_append, List.map_cons, List.map_nil]
    refine List.nodup_append.mpr ⟨w.nd, by simp, fun a ha b hb e => ?_⟩
    obtain ⟨l, hl, rfl⟩ := List.mem_map.mp ha
    rw [List.mem_singleton.mp hb] at e
    exact fresh l hl e
  · intro l hl i e
    rcases List.mem_append.mp hl with h | h
    · exact inF i (w.ins l h i e)
    · rw [List.mem_singleton.mp h] at e
      exact inF i (hi i e)
  · refine ⟨fun y => if y = x.id then (match x.ins with | some i => r i + 1 | none => 0) else r y, fun l hl i e => ?_⟩
    dsimp only
    rcases List.mem_append.mp hl with h | h
    · rw [if_neg (fresh l h), if_neg (nx i (w.ins l h i e))]
      exact hr l h i e
    · rw [List.mem_singleton.mp h] at e ⊢
      rw [if_pos rfl, e, if_neg (nx i (hi i e))]
      exact Nat.lt_succ_self _
  · obtain ⟨tx, h1, h2, h3, h4⟩ : ∃ tx : List Nat, tx.length = x.below.length ∧ tx.Nodup ∧ (∀ k ∈ tx, k < n + 3) ∧ ∀ l ∈ ls, ∀ k, k ∈ tx → k ∈ t l.id → x.ins = l.ins := by
      rcases hb with hb | ⟨l, hl, e1, e2⟩
      · refine ⟨(List.range x.below.length).map (n + ·), by simp, ?_, fun k hk => ?_, fun l hl k hk hk2 => ?_⟩
        · refine List.Pairwise.map _ (fun a b hab => ?_) List.nodup_range
          intro z
          exact hab (by simpa using z)
        · obtain ⟨j, hj, rfl⟩ := List.mem_map.mp hk
          have := List.mem_range.mp hj
          omega
        · obtain ⟨j, hj, rfl⟩ := List.mem_map.mp hk
          have := (q l hl).2.2 _ hk2
          omega
      · exact ⟨t l.id, by rw [(q l hl).1, e2], (q l hl).2.1, fun k hk => Nat.lt_of_lt_of_le ((q l hl).2.2 k hk) (by omega), fun l2 hl2 k ha hb => e1.symm.trans (s l hl l2 hl2 k ha hb)⟩
    refine ⟨fun y => if y = x.id then tx else t y, fun l hl => ?_, fun a ha b hb k hka hkb => ?_⟩ <;> dsimp only at *
    · rcases List.mem_append.mp hl with h | h
      · rw [if_neg (fresh l h)]
        exact ⟨(q l h).1, (q l h).2.1, fun k hk => Nat.lt_of_lt_of_le ((q l h).2.2 k hk) (by omega)⟩
      · rw [List.mem_singleton.mp h, if_pos rfl]
        exact ⟨h1, h2, h3⟩
    · rcases List.mem_append.mp ha with ha | ha <;> rcases List.mem_append.mp hb with hb | hb
      · rw [if_neg (fresh a ha)] at hka
        rw [if_neg (fresh b hb)] at hkb
        exact s a ha b hb k hka hkb
      · rw [List.mem_singleton.mp hb] at hkb ⊢
        rw [if_neg (fresh a ha)] at hka
        rw [if_pos rfl] at hkb
        exact (h4 a ha k hkb hka).symm
      · rw [List.mem_singleton.mp ha] at hka ⊢
        rw [if_neg (fresh b hb)] at hkb
        rw [if_pos rfl] at hka
        exact h4 b hb k hka hkb
      · rw [List.mem_singleton.mp ha, List.mem_singleton.mp hb]
/-- a file's line goes on -/
theorem Snd.goOn {n : Nat} {ls : List Ln} (w : Snd n ls) {g : Ln} (hg : g ∈ ls) (hc : g.ct ≠ none) (hd : Id) {ct : Option Mk4} (hct : ct ≠ none) : Snd n (ls.map fun l => if l.id = g.id then { l with head := hd, ct := ct } else l) := by
  obtain ⟨r, hr⟩ := w.rk
  obtain ⟨t, q, s⟩ := w.tg
  have mem : ∀ x ∈ ls.map fun l => if l.id = g.id then { l with head := hd, ct := ct } else l, ∃ l ∈ ls, x.id = l.id ∧ x.ins = l.ins ∧ x.below = l.below := by
    intro x hx
    obtain ⟨l, hl, rfl⟩ := List.mem_map.mp hx
    refine ⟨l, hl, ?_⟩
    split <;> exact ⟨rfl, rfl, rfl⟩
  refine ⟨?_, ?_, ⟨r, ?_⟩, ⟨t, ?_, ?_⟩⟩
  · rw [List.map_map]
    have : (Ln.id ∘ fun l : Ln => if l.id = g.id then { l with head := hd, ct := ct } else l) = Ln.id := by
      funext l
      show (if l.id = g.id then { l with head := hd, ct := ct } else l).id = l.id
      split <;> rfl
    rw [this]
    exact w.nd
  · intro x hx i e
    obtain ⟨l, hl, e1, e2, e3⟩ := mem x hx
    obtain ⟨f, hf, h1, h2⟩ := w.ins l hl i (e2 ▸ e)
    refine ⟨f, List.mem_map.mpr ⟨f, hf, if_neg fun z => ?_⟩, h1, h2⟩
    rw [uniq w.nd hf hg z] at h2
    exact hc h2
  · intro x hx i e
    obtain ⟨l, hl, e1, e2, e3⟩ := mem x hx
    rw [e1]
    exact hr l hl i (e2 ▸ e)
  · intro x hx
    obtain ⟨l, hl, e1, e2, e3⟩ := mem x hx
    rw [e1, e3]
    exact q l hl
  · intro a ha b hb k hka hkb
    obtain ⟨la, hla, a1, a2, a3⟩ := mem a ha
    obtain ⟨lb, hlb, b1, b2, b3⟩ := mem b hb
    rw [a1] at hka
    rw [b1] at hkb
    rw [a2, b2]
    exact s la hla lb hlb k hka hkb
inductive Rch (ls : List Ln) (m : Id) : Id → Prop where
  | refl : Rch ls m m
  | step {l : Ln} {p : Id} : l ∈ ls → l.ins = some p → Rch ls m p → Rch ls m l.id
theorem rch_stands {ls : List Ln} {r : Id → Nat} (nd : (ls.map Ln.id).Nodup) (hi : ∀ l ∈ ls, ∀ i, l.ins = some i → ∃ f ∈ ls, f.id = i ∧ f.ct = none) (hr : ∀ l ∈ ls, ∀ i, l.ins = some i → r i < r l.id) {m y : Id} (h : Rch ls m y) :
    (∃ f ∈ ls, f.id = y ∧ f.ct = none) → ∀ K, (ls.filter fun l => decide (r l.id ≤ r y)).length ≤ K → standsIn ls m K (some y) = true := by
  induction h with
  | refl =>
    rintro ⟨f, hf, e, _⟩ K hK
    cases K with
    | zero =>
      have : f ∈ ls.filter fun l => decide (r l.id ≤ r m) := List.mem_filter.mpr ⟨hf, by simp [e]⟩
      have := List.length_pos_of_mem this
      omega
    | succ K => show (if m = m then true else _) = true; rw [if_pos rfl]
  | @step l p hl hp _ ih =>
    rintro ⟨f, hf, e, hc⟩ K hK
    have : l = f := uniq nd hl hf e.symm
    subst this
    cases K with
    | zero =>
      have : l ∈ ls.filter fun x => decide (r x.id ≤ r l.id) := List.mem_filter.mpr ⟨hl, by simp⟩
      have := List.length_pos_of_mem this
      omega
    | succ K =>
      show (if l.id = m then true else _) = true
      by_cases hm : l.id = m
      · rw [if_pos hm]
      · rw [if_neg hm, ffold_of nd hl hc]
        dsimp only
        rw [hp]
        refine ih (hi l hl p hp) K ?_
        have hlt := hr l hl p hp
        classical
        have sub : ∀ xs : List Ln, (xs.filter fun x => decide (r x.id ≤ r p)).length + (if l ∈ xs then 1 else 0) ≤ (xs.filter fun x => decide (r x.id ≤ r l.id)).length := by
          classical
          intro xs
          induction xs with
          | nil => simp
          | cons x xs ihx =>
            by_cases h1 : r x.id ≤ r p
            · rw [List.filter_cons_of_pos (by simp [h1]), List.filter_cons_of_pos (by simp; omega)]
              have : x ≠ l := fun z => by rw [z] at h1; omega
              have : (l ∈ x :: xs) ↔ l ∈ xs := by simp [Ne.symm this]
              simp only [this, List.length_cons]
              omega
            · rw [List.filter_cons_of_neg (by simp [h1])]
              by_cases h2 : r x.id ≤ r l.id
              · rw [List.filter_cons_of_pos (by simp [h2]), List.length_cons]
                have : (if l ∈ x :: xs then 1 else 0) ≤ (1 : Nat) := by split <;> omega
                split at ihx <;> omega
              · rw [List.filter_cons_of_neg (by simp [h2])]
                have : x ≠ l := fun z => by rw [z] at h2; omega
                have : (l ∈ x :: xs) ↔ l ∈ xs := by simp [Ne.symm this]
                simp only [this]
                exact ihx
        have := sub ls
        rw [if_pos hl] at this
        omega
/-- a line is moved, not into itself -/
theorem Snd.move {n : Nat} {ls : List Ln} (w : Snd n ls) {m : Ln} {o : Option Id} {b : List Str} (ho : ∀ i, o = some i → ∃ f ∈ ls, f.id = i ∧ f.ct = none) (hs : standsIn ls m.id (ls.length + 1) o = false) (hb : b.length ≤ 3) :
    Snd (n + 3) (ls.map fun l => if l.id = m.id then { l with ins := o, below := b } else l) := by
  obtain ⟨r, hr⟩ := w.rk
  obtain ⟨t, q, s⟩ := w.tg
  have nr : ∀ i, o = some i → ¬ Rch ls m.id i := fun i e z => by
    have := rch_stands w.nd w.ins hr z (ho i e) (ls.length + 1) (Nat.le_trans (List.length_filter_le _ _) (by omega))
    rw [e, this] at hs
    cases hs
  have mem : ∀ x ∈ ls.map fun l => if l.id = m.id then { l with ins := o, below := b } else l, ∃ l ∈ ls, x.id = l.id ∧ x.ct = l.ct ∧ ((l.id = m.id ∧ x.ins = o ∧ x.below = b) ∨ (l.id ≠ m.id ∧ x.ins = l.ins ∧ x.below = l.below)) := by
    intro x hx
    obtain ⟨l, hl, rfl⟩ := List.mem_map.mp hx
    refine ⟨l, hl, ?_⟩
    split
    · exact ⟨rfl, rfl, .inl ⟨by assumption, rfl, rfl⟩⟩
    · exact ⟨rfl, rfl, .inr ⟨by assumption, rfl, rfl⟩⟩
  refine ⟨?_, ?_, ?_, ?_⟩
  · rw [List.map_map]
    have : (Ln.id ∘ fun l : Ln => if l.id = m.id then { l with ins := o, below := b } else l) = Ln.id := by
      funext l
      show (if l.id = m.id then { l with ins := o, below := b } else l).id = l.id
      split <;> rfl
    rw [this]
    exact w.nd
  · have key : ∀ i, (∃ f ∈ ls, f.id = i ∧ f.ct = none) → ∃ f ∈ ls.map fun l => if l.id = m.id then { l with ins := o, below := b } else l, f.id = i ∧ f.ct = none := by
      rintro i ⟨f, hf, h1, h2⟩
      refine ⟨_, List.mem_map.mpr ⟨f, hf, rfl⟩, ?_⟩
      split <;> exact ⟨h1, h2⟩
    intro x hx i e
    obtain ⟨l, hl, e1, e2, ⟨h1, h2, h3⟩ | ⟨h1, h2, h3⟩⟩ := mem x hx
    · exact key i (ho i (h2 ▸ e))
    · exact key i (w.ins l hl i (h2 ▸ e))
  · classical
    refine ⟨fun y => if Rch ls m.id y then r y + ((match o with | some i => r i | none => 0) + 1) else r y, fun x hx i e => ?_⟩
    dsimp only
    obtain ⟨l, hl, e1, e2, ⟨h1, h2, h3⟩ | ⟨h1, h2, h3⟩⟩ := mem x hx
    · rw [h2] at e
      subst e
      rw [if_neg (nr i rfl), e1, h1, if_pos .refl]
      dsimp only
      omega
    · rw [h2] at e
      have := hr l hl i e
      rw [e1]
      by_cases z : Rch ls m.id i
      · rw [if_pos z, if_pos (.step hl e z)]
        omega
      · rw [if_neg z]
        split <;> omega
  · refine ⟨fun y => if y = m.id then (List.range b.length).map (n + ·) else t y, fun x hx => ?_, fun a ha c hc k hka hkc => ?_⟩ <;> dsimp only at *
    · obtain ⟨l, hl, e1, e2, ⟨h1, h2, h3⟩ | ⟨h1, h2, h3⟩⟩ := mem x hx
      · rw [e1, h1, if_pos rfl, h3]
        refine ⟨by simp, List.Pairwise.map _ (fun a b hab => ?_) List.nodup_range, fun k hk => ?_⟩
        · intro z
          exact hab (by simpa using z)
        · obtain ⟨j, hj, rfl⟩ := List.mem_map.mp hk
          have := List.mem_range.mp hj
          omega
      · rw [e1, if_neg h1, h3]
        exact ⟨(q l hl).1, (q l hl).2.1, fun k hk => Nat.lt_of_lt_of_le ((q l hl).2.2 k hk) (by omega)⟩
    · obtain ⟨la, hla, a1, _, a3⟩ := mem a ha
      obtain ⟨lc, hlc, c1, _, c3⟩ := mem c hc
      rw [a1] at hka
      rw [c1] at hkc
      rcases a3 with ⟨a3, a4, _⟩ | ⟨a3, a4, _⟩ <;> rcases c3 with ⟨c3, c4, _⟩ | ⟨c3, c4, _⟩
      · rw [a4, c4]
      · rw [if_pos a3] at hka
        rw [if_neg c3] at hkc
        obtain ⟨j, hj, rfl⟩ := List.mem_map.mp hka
        have := (q lc hlc).2.2 _ hkc
        omega
      · rw [if_neg a3] at hka
        rw [if_pos c3] at hkc
        obtain ⟨j, hj, rfl⟩ := List.mem_map.mp hkc
        have := (q la hla).2.2 _ hka
        omega
      · rw [if_neg a3] at hka
        rw [if_neg c3] at hkc
        rw [a4, c4]
        exact s la hla lc hlc k hka hkc
def okP (p : Pc) : Prop := p.below.length ≤ 3 ∧ p.seen.length ≤ 3
theorem Snd.moveL {n : Nat} {ls : List Ln} (w : Snd n ls) (m : Option Id × Option Id × Pc) (hp : okP m.2.2) : Snd (n + 3) (moveL ls m) := by
  unfold FK.moveL
  split
  · exact w.le (by omega)
  · split
    · exact w.le (by omega)
    · rename_i h
      exact w.move (fun i e => settle_ins e) (Bool.eq_false_iff.mpr h) (settle_len hp.1 hp.2)
theorem Snd.moves : ∀ (ms : List (Option Id × Option Id × Pc)) {n : Nat} {ls : List Ln}, Snd n ls → (∀ m ∈ ms, okP m.2.2) → Snd (n + 3 * ms.length) (ms.foldl FK.moveL ls)
  | [], n, ls, w, _ => w
  | m :: ms, n, ls, w, h => by
    have := Snd.moves ms (w.moveL m (h m List.mem_cons_self)) fun x hx => h x (List.mem_cons_of_mem _ hx)
    exact this.le (by rw [List.length_cons]; omega)
theorem goOn_some {ls : List Ln} {ct : Option Mk4} {reps : List Id} {g : Ln} (e : goOn ls ct reps = some g) : g ∈ ls ∧ g.ct ≠ none ∧ ct ≠ none := by
  unfold goOn at e
  split at e
  · rename_i h
    have := List.find?_some (p := fun l : Ln => l.ct.isSome && decide (l.head ∈ reps)) e
    rw [Bool.and_eq_true] at this
    refine ⟨List.mem_of_find?_eq_some e, fun z => ?_, fun z => ?_⟩
    · rw [z] at this; cases this.1
    · rw [z] at h; cases h
  · cases e
theorem newL_id {ls : List Ln} {id : Id} {pl : Pc} {ct : Option Mk4} {meant : Option Id} : (newL ls id pl ct meant).id = id := by
  unfold newL
  split <;> rfl
theorem Snd.wr0 {n : Nat} {ls : List Ln} (w : Snd n ls) {id : Id} {pl : Pc} {ct : Option Mk4} {meant : Option Id} {reps : List Id} (fresh : ∀ l ∈ ls, l.id ≠ id) (hp : okP pl) : Snd (n + 3) (wr0 ls id pl ct meant reps) := by
  unfold FK.wr0
  split
  · rename_i g e
    obtain ⟨h1, h2, h3⟩ := goOn_some e
    exact (w.goOn h1 h2 id h3).le (by omega)
  · refine w.new (by rw [newL_id]; exact fresh) (fun i e => ?_) ?_
    · unfold newL at e
      split at e
      · rename_i l q
        exact w.ins l (fline_mem q).1 i e
      · exact settle_ins e
    · unfold newL
      split
      · rename_i l q
        exact .inr ⟨l, (fline_mem q).1, rfl, rfl⟩
      · exact .inl (settle_len hp.1 hp.2)
def Ed.id : Ed → Id
  | .write i _ _ _ _ => i
  | .drop i _ => i
  | .move i _ => i
def okE : Ed → Prop
  | .write _ pl _ _ reps => okP pl ∧ reps.length ≤ 1000
  | .drop _ hs => hs.length ≤ 1000
  | .move _ ms => ms.length ≤ 4 ∧ ∀ m ∈ ms, okP m.2.2
theorem Snd.after {n : Nat} {ls : List Ln} (w : Snd n ls) {e : Ed} (he : okE e) (fresh : ∀ l ∈ ls, l.id ≠ e.id) : Snd (n + 12) (afterL ls e) := by
  cases e with
  | write id pl ct meant reps => exact (Snd.endHs reps (w.wr0 fresh he.1)).le (by omega)
  | drop id hs => exact (Snd.endHs hs w).le (by omega)
  | move id ms => exact (Snd.moves ms w he.2).le (by have := he.1; omega)
theorem ids_map {ls : List Ln} {f : Ln → Ln} (h : ∀ l, (f l).id = l.id) : (ls.map f).map Ln.id = ls.map Ln.id := by
  rw [List.map_map]
  congr 1
  funext l
  exact h l
theorem ids_endHs : ∀ (hs : List Id) {ls : List Ln} {i : Id}, i ∈ (endHs ls hs).map Ln.id → i ∈ ls.map Ln.id
  | [], ls, i, h => h
  | h :: hs, ls, i, e => by
    have q := ids_endHs hs (ls := endH ls h) e
    unfold endH at q
    split at q
    · rw [ids_endL] at q
      exact (List.mem_filter.mp q).1
    · exact q
theorem ids_moves : ∀ (ms : List (Option Id × Option Id × Pc)) {ls : List Ln}, (ms.foldl moveL ls).map Ln.id = ls.map Ln.id
  | [], ls => rfl
  | m :: ms, ls => by
    rw [List.foldl_cons, ids_moves ms]
    unfold moveL
    split
    · rfl
    · split
      · rfl
      · exact ids_map fun l => by split <;> rfl
theorem ids_after {ls : List Ln} {e : Ed} {i : Id} (h : i ∈ (afterL ls e).map Ln.id) : i = e.id ∨ i ∈ ls.map Ln.id := by
  cases e with
  | write id pl ct meant reps =>
    have q := ids_endHs reps h
    unfold wr0 at q
    split at q
    · rw [ids_map (fun l => by split <;> rfl)] at q
      exact .inr q
    · rw [List.map_append, List.mem_append] at q
      rcases q with q | q
      · exact .inr q
      · rw [List.map_cons, List.map_nil, newL_id] at q
        exact .inl (List.mem_singleton.mp q)
  | drop id hs => exact .inr (ids_endHs hs h)
  | move id ms =>
    unfold afterL at h
    rw [ids_moves] at h
    exact .inr h
theorem len_endL (ls : List Ln) (g : Ln) : (endL ls g).length ≤ ls.length := by
  have := congrArg List.length (ids_endL (ls := ls) (g := g))
  rw [List.length_map] at this
  rw [this]
  exact Nat.le_trans (List.length_filter_le _ _) (by rw [List.length_map]; exact Nat.le_refl _)
theorem len_endHs : ∀ (hs : List Id) {ls : List Ln}, (endHs ls hs).length ≤ ls.length
  | [], ls => Nat.le_refl _
  | h :: hs, ls => by
    refine Nat.le_trans (len_endHs hs (ls := endH ls h)) ?_
    unfold endH
    split
    · exact len_endL _ _
    · exact Nat.le_refl _
theorem len_after {ls : List Ln} {e : Ed} : (afterL ls e).length ≤ ls.length + 1 := by
  cases e with
  | write id pl ct meant reps =>
    refine Nat.le_trans (len_endHs reps) ?_
    unfold wr0
    split
    · rw [List.length_map]; omega
    · rw [List.length_append]; exact Nat.le_refl _
  | drop id hs => exact Nat.le_succ_of_le (len_endHs hs)
  | move id ms =>
    have := congrArg List.length (ids_moves ms (ls := ls))
    rw [List.length_map, List.length_map] at this
    show (ms.foldl moveL ls).length ≤ _
    omega
/-! places in the list -/
theorem split_at {ls : List Ln} (nd : (ls.map Ln.id).Nodup) {k : Nat} {g : Ln} (e : ls[k]? = some g) : k < ls.length ∧ ls = ls.take k ++ g :: ls.drop (k + 1) ∧ (∀ l ∈ ls.take k, l.id ≠ g.id) ∧ ∀ l ∈ ls.drop (k + 1), l.id ≠ g.id := by
  obtain ⟨hk, hg⟩ := List.getElem?_eq_some_iff.mp e
  have h1 : ls = ls.take k ++ g :: ls.drop (k + 1) := by
    rw [← hg, List.getElem_cons_drop, List.take_append_drop]
  refine ⟨hk, h1, fun l hl z => ?_, fun l hl z => ?_⟩
  · rw [h1, List.map_append, List.nodup_append] at nd
    exact nd.2.2 l.id (List.mem_map.mpr ⟨l, hl, rfl⟩) g.id (by simp) z
  · rw [h1, List.map_append, List.nodup_append] at nd
    have := nd.2.1
    rw [List.map_cons, List.nodup_cons] at this
    exact this.1 (List.mem_map.mpr ⟨l, hl, z⟩)
theorem map_same {f : Ln → Ln} {a : List Ln} (h : ∀ x ∈ a, f x = x) : a.map f = a := (List.map_congr_left h).trans (List.map_id a)
theorem repl_at {ls : List Ln} (nd : (ls.map Ln.id).Nodup) {k : Nat} {g : Ln} (e : ls[k]? = some g) (f : Ln → Ln) : ls.take k ++ f g :: ls.drop (k + 1) = ls.map fun x => if x.id = g.id then f x else x := by
  obtain ⟨_, h1, h2, h3⟩ := split_at nd e
  generalize ls.take k = a at *
  generalize ls.drop (k + 1) = b at *
  rw [h1, List.map_append, List.map_cons, if_pos rfl]
  congr 1
  · exact (map_same fun x hx => if_neg (h2 x hx)).symm
  · congr 1
    exact (map_same fun x hx => if_neg (h3 x hx)).symm
def endM (g l : Ln) : Ln := if l.ins = some g.id then { l with ins := g.ins, below := g.below ++ l.below } else l
theorem endL_at {ls : List Ln} (nd : (ls.map Ln.id).Nodup) {k : Nat} {g : Ln} (e : ls[k]? = some g) : (ls.take k ++ ls.drop (k + 1)).map (endM g) = endL ls g := by
  obtain ⟨_, h1, h2, h3⟩ := split_at nd e
  generalize ls.take k = a at *
  generalize ls.drop (k + 1) = b at *
  have key : ∀ c : List Ln, (∀ l ∈ c, l.id ≠ g.id) → c.flatMap (endF g) = c.map (endM g) := by
    intro c hc
    induction c with
    | nil => rfl
    | cons x c ih =>
      rw [List.flatMap_cons, List.map_cons, ih fun l hl => hc l (List.mem_cons_of_mem _ hl)]
      unfold endF endM
      rw [if_neg (hc x List.mem_cons_self)]
      split <;> rfl
  unfold endL
  rw [h1, List.flatMap_append, List.flatMap_cons, key a h2, key b h3, List.map_append]
  have : endF g g = [] := if_pos rfl
  rw [this]
  rfl
def fixN (p : Ln → Bool) (ls : List Ln) : Option Nat := (List.range ls.length).find? fun k => match ls[k]? with
  | some l => p l
  | none => false
theorem fixN_some {p : Ln → Bool} {ls : List Ln} {k : Nat} (e : fixN p ls = some k) : ∃ l, ls[k]? = some l ∧ ls.find? p = some l := by
  unfold fixN at e
  obtain ⟨h1, h2, h3⟩ := List.find?_range_eq_some.mp e
  have hk : k < ls.length := List.mem_range.mp h2
  rw [List.getElem?_eq_getElem hk] at h1
  refine ⟨ls[k], List.getElem?_eq_getElem hk, List.find?_eq_some_iff_getElem.mpr ⟨h1, k, hk, rfl, fun j hj => ?_⟩⟩
  have := h3 j hj
  rw [List.getElem?_eq_getElem (by omega)] at this
  simpa using this
theorem fixN_none {p : Ln → Bool} {ls : List Ln} (e : fixN p ls = none) : ls.find? p = none := by
  unfold fixN at e
  refine List.find?_eq_none.mpr fun l hl => ?_
  obtain ⟨k, hk, rfl⟩ := List.mem_iff_getElem.mp hl
  have := List.find?_eq_none.mp e k (List.mem_range.mpr hk)
  rw [List.getElem?_eq_getElem hk] at this
  exact this
theorem fold_inv : ∀ (es : List Ed) {n : Nat} {ls : List Ln}, Snd n ls → (∀ e ∈ es, okE e) → (es.map Ed.id).Nodup → (∀ l ∈ ls, ∀ e ∈ es, l.id ≠ e.id) →
    Snd (n + 12 * es.length) (es.foldl afterL ls) ∧ (∀ i ∈ (es.foldl afterL ls).map Ln.id, i ∈ ls.map Ln.id ∨ i ∈ es.map Ed.id) ∧ (es.foldl afterL ls).length ≤ ls.length + es.length
  | [], n, ls, w, _, _, _ => ⟨w, fun i h => .inl h, Nat.le_refl _⟩
  | e :: es, n, ls, w, ho, nd, fr => by
    rw [List.map_cons, List.nodup_cons] at nd
    have w1 := w.after (ho e List.mem_cons_self) (fun l hl => fr l hl e List.mem_cons_self)
    obtain ⟨h1, h2, h3⟩ := fold_inv es w1 (fun x hx => ho x (List.mem_cons_of_mem _ hx)) nd.2 (fun l hl x hx z => by
      rcases ids_after (List.mem_map.mpr ⟨l, hl, rfl⟩) with q | q
      · exact nd.1 (List.mem_map.mpr ⟨x, hx, by rw [← z, q]⟩)
      · obtain ⟨l', hl', e'⟩ := List.mem_map.mp q
        exact fr l' hl' x (List.mem_cons_of_mem _ hx) (e'.trans z))
    refine ⟨h1.le (by rw [List.length_cons]; omega), fun i hi => ?_, ?_⟩
    · rcases h2 i hi with q | q
      · rcases ids_after q with q | q
        · exact .inr (by rw [q]; exact List.mem_cons_self)
        · exact .inl q
      · exact .inr (List.mem_cons_of_mem _ q)
    · have := len_after (ls := ls) (e := e)
      rw [List.length_cons, List.foldl_cons]
      omega
/-- behind a part of the edits -/
theorem fold_part {es pre post : List Ed} {e : Ed} (ho : ∀ e ∈ es, okE e) (nd : (es.map Ed.id).Nodup) (h : es = pre ++ e :: post) : Snd (12 * pre.length) (pre.foldl afterL []) ∧ (∀ l ∈ pre.foldl afterL [], l.id ≠ e.id) ∧ (pre.foldl afterL []).length ≤ pre.length ∧ okE e := by
  subst h
  rw [List.map_append, List.nodup_append] at nd
  obtain ⟨h1, h2, h3⟩ := fold_inv pre (Snd.nil 0) (fun x hx => ho x (List.mem_append_left _ hx)) nd.1 (fun l hl => by cases hl)
  refine ⟨h1.le (by omega), fun l hl z => ?_, by simpa using h3, ho e (List.mem_append_right _ List.mem_cons_self)⟩
  rcases h2 l.id (List.mem_map.mpr ⟨l, hl, rfl⟩) with q | q
  · cases q
  · exact nd.2.2 l.id q e.id (List.mem_map.mpr ⟨e, List.mem_cons_self, rfl⟩) z
end FK

/-! part: LP -/
set_option linter.all false
set_option maxRecDepth 100000
set_option maxHeartbeats 4000000
namespace FK
open PySem PySem.Spec L2
/-! LP: where lines stand. -/
theorem cnt_lt {ls : List Ln} {r : Id → Nat} {l : Ln} {p : Id} (hl : l ∈ ls) (hlt : r p < r l.id) : (ls.filter fun x => decide (r x.id ≤ r p)).length + 1 ≤ (ls.filter fun x => decide (r x.id ≤ r l.id)).length := by
  classical
  have sub : ∀ xs : List Ln, (xs.filter fun x => decide (r x.id ≤ r p)).length + (if l ∈ xs then 1 else 0) ≤ (xs.filter fun x => decide (r x.id ≤ r l.id)).length := by
    intro xs
    induction xs with
    | nil => simp
    | cons x xs ihx =>
      by_cases h1 : r x.id ≤ r p
      · rw [List.filter_cons_of_pos (by simp [h1]), List.filter_cons_of_pos (by simp; omega)]
        have : x ≠ l := fun z => by rw [z] at h1; omega
        have : (l ∈ x :: xs) ↔ l ∈ xs := by simp [Ne.symm this]
        simp only [this, List.length_cons]
        omega
      · rw [List.filter_cons_of_neg (by simp [h1])]
        by_cases h2 : r x.id ≤ r l.id
        · rw [List.filter_cons_of_pos (by simp [h2]), List.length_cons]
          have : (if l ∈ x :: xs then 1 else 0) ≤ (1 : Nat) := by split <;> omega
          split at ihx <;> omega
        · rw [List.filter_cons_of_neg (by simp [h2])]
          have : x ≠ l := fun z => by rw [z] at h2; omega
          have : (l ∈ x :: xs) ↔ l ∈ xs := by simp [Ne.symm this]
          simp only [this]
          exact ihx
  have := sub ls
  rwa [if_pos hl] at this
def up (ls : List Ln) : Nat → Option Id → List Str
  | 0, _ => []
  | n + 1, none => []
  | n + 1, some i => match ffold ls (some i) with
    | none => []
    | some f => up ls n f.ins ++ f.below
theorem up_none (ls : List Ln) (n : Nat) : up ls n none = [] := by cases n <;> rfl
def FoldIn (ls : List Ln) (o : Option Id) : Prop := ∀ i, o = some i → ∃ f ∈ ls, f.id = i ∧ f.ct = none
theorem up_fuel {ls : List Ln} {r : Id → Nat} (nd : (ls.map Ln.id).Nodup) (hi : ∀ l ∈ ls, ∀ i, l.ins = some i → ∃ f ∈ ls, f.id = i ∧ f.ct = none) (hr : ∀ l ∈ ls, ∀ i, l.ins = some i → r i < r l.id) : ∀ (n m : Nat) (i : Id), (∃ f ∈ ls, f.id = i ∧ f.ct = none) →
    (ls.filter fun x => decide (r x.id ≤ r i)).length ≤ n → (ls.filter fun x => decide (r x.id ≤ r i)).length ≤ m → up ls n (some i) = up ls m (some i)
  | n, m, i, ⟨f, hf, e, hc⟩, hn, hm => by
    subst e
    have pos : 0 < (ls.filter fun x => decide (r x.id ≤ r f.id)).length := List.length_pos_of_mem (List.mem_filter.mpr ⟨hf, by simp⟩)
    cases n with
    | zero => omega
    | succ n =>
      cases m with
      | zero => omega
      | succ m =>
        unfold up
        rw [ffold_of nd hf hc]
        dsimp only
        cases e : f.ins with
        | none => rw [up_none, up_none]
        | some p =>
          have := cnt_lt hf (hr f hf p e)
          rw [up_fuel nd hi hr n m p (hi f hf p e) (by omega) (by omega)]
def PP (ls : List Ln) (o : Option Id) : List Str := up ls ls.length o
theorem PP_none (ls : List Ln) : PP ls none = [] := up_none _ _
theorem PP_some {n : Nat} {ls : List Ln} (w : Snd n ls) {f : Ln} (hf : f ∈ ls) (hc : f.ct = none) : PP ls (some f.id) = PP ls f.ins ++ f.below := by
  obtain ⟨r, hr⟩ := w.rk
  unfold PP
  cases k : ls.length with
  | zero => have := List.length_pos_of_mem hf; omega
  | succ k' =>
    have e1 : up ls (k' + 1) (some f.id) = up ls k' f.ins ++ f.below := by
      show (match ffold ls (some f.id) with | none => [] | some f => up ls k' f.ins ++ f.below) = _
      rw [ffold_of w.nd hf hc]
    rw [e1]
    cases e : f.ins with
    | none => rw [up_none, up_none]
    | some p =>
      have h1 := cnt_lt hf (hr f hf p e)
      have h2 := List.length_filter_le (fun x : Ln => decide (r x.id ≤ r f.id)) ls
      rw [up_fuel w.nd w.ins hr k' (k' + 1) p (w.ins f hf p e) (by omega) (by omega)]
/-- the path at which a line stands -/
def pth' (ls : List Ln) (l : Ln) : List Str := PP ls l.ins ++ l.below
/-- a path above is fixed by what it is one level up -/
theorem PP_uniq {n : Nat} {ls : List Ln} (w : Snd n ls) (Q : Option Id → List Str) (h0 : Q none = []) (h1 : ∀ f ∈ ls, f.ct = none → (∀ i, f.ins = some i → Q (some i) = PP ls (some i)) → Q (some f.id) = Q f.ins ++ f.below) : ∀ o, FoldIn ls o → Q o = PP ls o := by
  obtain ⟨r, hr⟩ := w.rk
  have key : ∀ (m : Nat) (i : Id), r i < m → (∃ f ∈ ls, f.id = i ∧ f.ct = none) → Q (some i) = PP ls (some i) := by
    intro m
    induction m with
    | zero => intro i h; omega
    | succ m ih =>
      rintro i h ⟨f, hf, rfl, hc⟩
      have q : ∀ j, f.ins = some j → Q (some j) = PP ls (some j) := fun j e => ih j (by have := hr f hf j e; omega) (w.ins f hf j e)
      rw [h1 f hf hc q, PP_some w hf hc]
      cases e : f.ins with
      | none => rw [h0, PP_none]
      | some j => rw [q j e]
  intro o ho
  cases o with
  | none => rw [h0, PP_none]
  | some i => exact key _ i (Nat.lt_succ_self _) (ho i rfl)
theorem PP_endL {n : Nat} {ls : List Ln} (w : Snd n ls) {g : Ln} (hg : g ∈ ls) {o : Option Id} (ho : FoldIn ls o) (hne : o ≠ some g.id) : PP (endL ls g) o = PP ls o := by
  have w' := w.endL hg
  have self : g.ins ≠ some g.id := by
    obtain ⟨r, hr⟩ := w.rk
    exact fun z => Nat.lt_irrefl _ (hr g hg _ z)
  have := PP_uniq w (fun o => if o = some g.id then PP (endL ls g) g.ins ++ g.below else PP (endL ls g) o) (by rw [if_neg (by simp)]; exact PP_none _) (fun f hf hc ih => by
    by_cases h : f.id = g.id
    · have : f = g := uniq w.nd hf hg h
      subst this
      rw [if_pos rfl, if_neg self]
    · rw [if_neg (fun z => h (Option.some.inj z))]
      by_cases h2 : f.ins = some g.id
      · have hm : ({ f with ins := g.ins, below := g.below ++ f.below } : Ln) ∈ endL ls g := mem_endL.mpr ⟨f, hf, h, .inl ⟨h2, rfl⟩⟩
        have := PP_some w' hm hc
        dsimp only at this
        rw [if_pos h2, this, List.append_assoc]
      · have hm : f ∈ endL ls g := mem_endL.mpr ⟨f, hf, h, .inr ⟨h2, rfl⟩⟩
        rw [if_neg h2, PP_some w' hm hc]) o ho
  rw [if_neg hne] at this
  exact this
/-- what is seen of a line from outside -/
def rw4 (ls : List Ln) (l : Ln) : Id × Id × Option Mk4 × List Str := (l.id, l.head, l.ct, pth' ls l)
theorem rows_endL {n : Nat} {ls : List Ln} (w : Snd n ls) {g : Ln} (hg : g ∈ ls) : (endL ls g).map (rw4 (endL ls g)) = (ls.filter fun l => decide (l.id ≠ g.id)).map (rw4 ls) := by
  have self : g.ins ≠ some g.id := by
    obtain ⟨r, hr⟩ := w.rk
    exact fun z => Nat.lt_irrefl _ (hr g hg _ z)
  have gF : FoldIn ls g.ins := fun i e => w.ins g hg i e
  have key : ∀ xs : List Ln, (∀ l ∈ xs, l ∈ ls) → (xs.flatMap (endF g)).map (rw4 (endL ls g)) = (xs.filter fun l => decide (l.id ≠ g.id)).map (rw4 ls) := by
    intro xs
    induction xs with
    | nil => intro _; rfl
    | cons x xs ih =>
      intro hx
      have hxl := hx x List.mem_cons_self
      rw [List.flatMap_cons, List.map_append, ih fun l hl => hx l (List.mem_cons_of_mem _ hl)]
      unfold endF
      by_cases h : x.id = g.id
      · rw [if_pos h, List.filter_cons_of_neg (by simp [h])]; rfl
      · rw [if_neg h, List.filter_cons_of_pos (by simp [h]), List.map_cons]
        by_cases h2 : x.ins = some g.id
        · have hgc : g.ct = none := by
            obtain ⟨f, hf, e, hc⟩ := w.ins x hxl g.id h2
            rw [← uniq w.nd hf hg e]; exact hc
          rw [if_pos h2]
          show rw4 _ _ :: _ = _
          congr 1
          unfold rw4 pth'
          dsimp only
          rw [PP_endL w hg gF self, h2, PP_some w hg hgc, List.append_assoc]
        · rw [if_neg h2]
          show rw4 _ _ :: _ = _
          congr 1
          unfold rw4 pth'
          rw [PP_endL w hg (fun i e => w.ins x hxl i e) h2]
  exact key ls fun _ h => h
theorem heads_endL (ls : List Ln) (g : Ln) : ((endL ls g).map Ln.head).Sublist (ls.map Ln.head) := by
  unfold endL
  induction ls with
  | nil => exact List.Sublist.slnil
  | cons l ls ih =>
    rw [List.flatMap_cons, List.map_append, List.map_cons]
    unfold endF
    split
    · exact List.Sublist.cons _ ih
    · split
      · exact List.Sublist.cons_cons _ ih
      · exact List.Sublist.cons_cons _ ih
theorem uniqH {ls : List Ln} (nd : (ls.map Ln.head).Nodup) : ∀ {a b : Ln}, a ∈ ls → b ∈ ls → a.head = b.head → a = b := by
  induction ls with
  | nil => intro a b h; cases h
  | cons x xs ih =>
    rw [List.map_cons, List.nodup_cons] at nd
    intro a b ha hb e
    rcases List.mem_cons.mp ha with ha | ha <;> rcases List.mem_cons.mp hb with hb | hb
    · rw [ha, hb]
    · exact absurd (List.mem_map.mpr ⟨b, hb, by rw [← e, ha]⟩) nd.1
    · exact absurd (List.mem_map.mpr ⟨a, ha, by rw [e, hb]⟩) nd.1
    · exact ih nd.2 ha hb e
theorem rows_endHs {n : Nat} : ∀ (hs : List Id) {ls : List Ln}, Snd n ls → (ls.map Ln.head).Nodup → (endHs ls hs).map (rw4 (endHs ls hs)) = (ls.filter fun l => decide (l.head ∉ hs)).map (rw4 ls)
  | [], ls, w, nd => by
    show ls.map (rw4 ls) = _
    rw [List.filter_eq_self.mpr (by simp)]
  | h :: hs, ls, w, nd => by
    have w1 := w.endH h
    show (endHs (endH ls h) hs).map (rw4 (endHs (endH ls h) hs)) = _
    cases e : fhead ls (some h) with
    | none =>
      have e1 : endH ls h = ls := by unfold endH; rw [e]
      rw [e1, rows_endHs hs w nd]
      congr 1
      refine List.filter_congr fun l hl => ?_
      have : l.head ≠ h := fun z => by
        have := List.find?_eq_none.mp e l hl
        simp [z] at this
      simp [this]
    | some g =>
      obtain ⟨hg, hh⟩ := fhead_mem e
      have hh : g.head = h := Option.some.inj hh
      have e1 : endH ls h = endL ls g := by unfold endH; rw [e]
      rw [e1]
      have nd' : ((endL ls g).map Ln.head).Nodup := List.Sublist.nodup (heads_endL ls g) nd
      rw [rows_endHs hs (w.endL hg) nd']
      have r1 := rows_endL w hg
      have c1 : ((endL ls g).filter fun l => decide (l.head ∉ hs)).map (rw4 (endL ls g)) = ((endL ls g).map (rw4 (endL ls g))).filter fun t => decide (t.2.1 ∉ hs) := by
        rw [List.filter_map]; rfl
      rw [c1, r1, List.filter_map, List.filter_filter]
      congr 1
      refine List.filter_congr fun l hl => ?_
      show (decide (l.head ∉ hs) && decide (l.id ≠ g.id)) = decide (l.head ∉ h :: hs)
      have : (l.id ≠ g.id) ↔ l.head ≠ h := ⟨fun z1 z2 => z1 (by rw [uniqH nd hl hg (z2.trans hh.symm)]), fun z1 z2 => z1 (by rw [uniq w.nd hl hg z2]; exact hh)⟩
      by_cases a : l.head = h <;> by_cases b : l.head ∈ hs <;> simp [a, b, this]
/-! heads are apart -/
theorem heads_endHs : ∀ (hs : List Id) (ls : List Ln), ((endHs ls hs).map Ln.head).Sublist (ls.map Ln.head)
  | [], ls => List.Sublist.refl _
  | h :: hs, ls => by
    have := heads_endHs hs (endH ls h)
    refine this.trans ?_
    unfold endH
    split
    · exact heads_endL _ _
    · exact List.Sublist.refl _
theorem heads_moves : ∀ (ms : List (Option Id × Option Id × Pc)) {ls : List Ln}, (ms.foldl moveL ls).map Ln.head = ls.map Ln.head
  | [], ls => rfl
  | m :: ms, ls => by
    rw [List.foldl_cons, heads_moves ms]
    unfold moveL
    split
    · rfl
    · split
      · rfl
      · rw [List.map_map]
        congr 1
        funext l
        show Ln.head (if _ then _ else _) = _
        split <;> rfl
theorem heads_after {n : Nat} {ls : List Ln} (w : Snd n ls) {e : Ed} (nd : (ls.map Ln.head).Nodup) (fr : ∀ l ∈ ls, l.head ≠ e.id) : ((afterL ls e).map Ln.head).Nodup ∧ ∀ h ∈ (afterL ls e).map Ln.head, h = e.id ∨ h ∈ ls.map Ln.head := by
  cases e with
  | write id pl ct meant reps =>
    have key : ((wr0 ls id pl ct meant reps).map Ln.head).Nodup ∧ ∀ h ∈ (wr0 ls id pl ct meant reps).map Ln.head, h = id ∨ h ∈ ls.map Ln.head := by
      unfold wr0
      split
      · rename_i g q
        obtain ⟨hg, _, _⟩ := goOn_some q
        refine ⟨?_, fun h hh => ?_⟩
        · rw [List.map_map]
          have aux : ∀ xs : List Ln, (∀ x ∈ xs, x ∈ ls) → (xs.map Ln.id).Nodup → (xs.map Ln.head).Nodup → (xs.map (Ln.head ∘ fun l => if l.id = g.id then { l with head := id, ct := ct } else l)).Nodup := by
            intro xs
            induction xs with
            | nil => intro _ _ _; exact List.nodup_nil
            | cons x xs ih =>
              intro hx h1 h2
              rw [List.map_cons, List.nodup_cons] at h1 h2 ⊢
              refine ⟨fun z => ?_, ih (fun y hy => hx y (List.mem_cons_of_mem _ hy)) h1.2 h2.2⟩
              obtain ⟨y, hy, e⟩ := List.mem_map.mp z
              have hyl := hx y (List.mem_cons_of_mem _ hy)
              have hxl := hx x List.mem_cons_self
              have e : (if y.id = g.id then ({ y with head := id, ct := ct } : Ln) else y).head = (if x.id = g.id then ({ x with head := id, ct := ct } : Ln) else x).head := e
              by_cases a : y.id = g.id <;> by_cases b : x.id = g.id
              · exact h1.1 (List.mem_map.mpr ⟨y, hy, a.trans b.symm⟩)
              · rw [if_pos a, if_neg b] at e
                exact fr x hxl e.symm
              · rw [if_neg a, if_pos b] at e
                exact fr y hyl e
              · rw [if_neg a, if_neg b] at e
                exact h2.1 (List.mem_map.mpr ⟨y, hy, e⟩)
          exact aux ls (fun _ h => h) w.nd nd
        · obtain ⟨x, hx, rfl⟩ := List.mem_map.mp hh
          obtain ⟨y, hy, rfl⟩ := List.mem_map.mp hx
          by_cases a : y.id = g.id
          · rw [if_pos a]; exact .inl rfl
          · rw [if_neg a]; exact .inr (List.mem_map.mpr ⟨y, hy, rfl⟩)
      · have hN : (newL ls id pl ct meant).head = id := by unfold newL; split <;> rfl
        refine ⟨?_, fun h hh => ?_⟩
        · rw [List.map_append, List.map_cons, List.map_nil, hN]
          refine List.nodup_append.mpr ⟨nd, by simp, fun a ha b hb e => ?_⟩
          obtain ⟨l, hl, rfl⟩ := List.mem_map.mp ha
          rw [List.mem_singleton.mp hb] at e
          exact fr l hl e
        · rw [List.map_append, List.map_cons, List.map_nil, hN] at hh
          rcases List.mem_append.mp hh with z | z
          · exact .inr z
          · exact .inl (List.mem_singleton.mp z)
    have sub := heads_endHs reps (wr0 ls id pl ct meant reps)
    exact ⟨List.Sublist.nodup sub key.1, fun h hh => key.2 h (sub.subset hh)⟩
  | drop id hs =>
    have sub := heads_endHs hs ls
    exact ⟨List.Sublist.nodup sub nd, fun h hh => .inr (sub.subset hh)⟩
  | move id ms =>
    show ((ms.foldl moveL ls).map Ln.head).Nodup ∧ ∀ h ∈ (ms.foldl moveL ls).map Ln.head, _
    rw [heads_moves]
    exact ⟨nd, fun h hh => .inr hh⟩
theorem fold_heads : ∀ (es : List Ed) {n : Nat} {ls : List Ln}, Snd n ls → (∀ e ∈ es, okE e) → (es.map Ed.id).Nodup → (∀ l ∈ ls, ∀ e ∈ es, l.id ≠ e.id) → (ls.map Ln.head).Nodup → (∀ l ∈ ls, ∀ e ∈ es, l.head ≠ e.id) → ((es.foldl afterL ls).map Ln.head).Nodup
  | [], n, ls, w, _, _, _, nd, _ => nd
  | e :: es, n, ls, w, ho, ne, fr, nd, fh => by
    rw [List.map_cons, List.nodup_cons] at ne
    have w1 := w.after (ho e List.mem_cons_self) (fun l hl => fr l hl e List.mem_cons_self)
    obtain ⟨h1, h2⟩ := heads_after w nd (fun l hl => fh l hl e List.mem_cons_self)
    refine fold_heads es w1 (fun x hx => ho x (List.mem_cons_of_mem _ hx)) ne.2 (fun l hl x hx z => ?_) h1 (fun l hl x hx z => ?_)
    · rcases ids_after (List.mem_map.mpr ⟨l, hl, rfl⟩) with q | q
      · exact ne.1 (List.mem_map.mpr ⟨x, hx, by rw [← z, q]⟩)
      · obtain ⟨l', hl', e'⟩ := List.mem_map.mp q
        exact fr l' hl' x (List.mem_cons_of_mem _ hx) (e'.trans z)
    · rcases h2 l.head (List.mem_map.mpr ⟨l, hl, rfl⟩) with q | q
      · exact ne.1 (List.mem_map.mpr ⟨x, hx, by rw [← z, q]⟩)
      · obtain ⟨l', hl', e'⟩ := List.mem_map.mp q
        exact fh l' hl' x (List.mem_cons_of_mem _ hx) (e'.trans z)
/-! what stands above -/
def chn (ls : List Ln) : Nat → Option Id → List Id
  | 0, _ => []
  | n + 1, none => []
  | n + 1, some i => i :: chn ls n ((fline ls (some i)).bind Ln.ins)
theorem chn_none (ls : List Ln) (n : Nat) : chn ls n none = [] := by cases n <;> rfl
theorem chn_fuel {ls : List Ln} {r : Id → Nat} (nd : (ls.map Ln.id).Nodup) (hi : ∀ l ∈ ls, ∀ i, l.ins = some i → ∃ f ∈ ls, f.id = i ∧ f.ct = none) (hr : ∀ l ∈ ls, ∀ i, l.ins = some i → r i < r l.id) : ∀ (n m : Nat) (i : Id), (∃ f ∈ ls, f.id = i ∧ f.ct = none) →
    (ls.filter fun x => decide (r x.id ≤ r i)).length ≤ n → (ls.filter fun x => decide (r x.id ≤ r i)).length ≤ m → chn ls n (some i) = chn ls m (some i)
  | n, m, i, ⟨f, hf, e, hc⟩, hn, hm => by
    subst e
    have pos : 0 < (ls.filter fun x => decide (r x.id ≤ r f.id)).length := List.length_pos_of_mem (List.mem_filter.mpr ⟨hf, by simp⟩)
    cases n with
    | zero => omega
    | succ n =>
      cases m with
      | zero => omega
      | succ m =>
        unfold chn
        rw [fline_of nd hf]
        dsimp only [Option.bind]
        cases e : f.ins with
        | none => rw [chn_none, chn_none]
        | some p =>
          have := cnt_lt hf (hr f hf p e)
          rw [chn_fuel nd hi hr n m p (hi f hf p e) (by omega) (by omega)]
def anc (ls : List Ln) (o : Option Id) : List Id := chn ls ls.length o
theorem anc_none (ls : List Ln) : anc ls none = [] := chn_none _ _
theorem anc_some {n : Nat} {ls : List Ln} (w : Snd n ls) {f : Ln} (hf : f ∈ ls) (hc : f.ct = none) : anc ls (some f.id) = f.id :: anc ls f.ins := by
  obtain ⟨r, hr⟩ := w.rk
  unfold anc
  cases k : ls.length with
  | zero => have := List.length_pos_of_mem hf; omega
  | succ k' =>
    have e1 : chn ls (k' + 1) (some f.id) = f.id :: chn ls k' f.ins := by
      show f.id :: chn ls k' ((fline ls (some f.id)).bind Ln.ins) = _
      rw [fline_of w.nd hf]
      rfl
    rw [e1]
    cases e : f.ins with
    | none => rw [chn_none, chn_none]
    | some p =>
      have h1 := cnt_lt hf (hr f hf p e)
      have h2 := List.length_filter_le (fun x : Ln => decide (r x.id ≤ r f.id)) ls
      rw [chn_fuel w.nd w.ins hr k' (k' + 1) p (w.ins f hf p e) (by omega) (by omega)]
theorem stands_anc {n : Nat} {ls : List Ln} (w : Snd n ls) (x : Id) : ∀ (m : Nat) (o : Option Id), FoldIn ls o → standsIn ls x m o = decide (x ∈ chn ls m o)
  | 0, o, _ => by unfold chn standsIn; simp
  | m + 1, none, _ => by unfold chn standsIn; simp
  | m + 1, some i, h => by
    obtain ⟨f, hf, rfl, hc⟩ := h i rfl
    have ih := stands_anc w x m f.ins (fun j e => w.ins f hf j e)
    unfold chn standsIn
    rw [fline_of w.nd hf, ffold_of w.nd hf hc]
    dsimp only [Option.bind]
    by_cases hx : f.id = x
    · rw [if_pos hx]; simp [hx]
    · rw [if_neg hx, ih]
      simp [Ne.symm hx]
/-- induction up the folders -/
theorem fold_ind {n : Nat} {ls : List Ln} (w : Snd n ls) (P : Option Id → Prop) (h0 : P none) (h1 : ∀ f ∈ ls, f.ct = none → P f.ins → P (some f.id)) : ∀ o, FoldIn ls o → P o := by
  obtain ⟨r, hr⟩ := w.rk
  have key : ∀ (m : Nat) (i : Id), r i < m → (∃ f ∈ ls, f.id = i ∧ f.ct = none) → P (some i) := by
    intro m
    induction m with
    | zero => intro i h; omega
    | succ m ih =>
      rintro i h ⟨f, hf, rfl, hc⟩
      refine h1 f hf hc ?_
      cases e : f.ins with
      | none => exact h0
      | some j => exact ih j (by have := hr f hf j e; omega) (w.ins f hf j e)
  intro o ho
  cases o with
  | none => exact h0
  | some i => exact key _ i (Nat.lt_succ_self _) (ho i rfl)
theorem stands_anc2 {n : Nat} {ls : List Ln} (w : Snd n ls) (x : Id) {f : Ln} (hf : f ∈ ls) (hc : f.ct = none) : standsIn ls x (ls.length + 1) (some f.id) = decide (f.id = x ∨ x ∈ anc ls f.ins) := by
  rw [stands_anc w x _ _ (fun i e => by cases e; exact ⟨f, hf, rfl, hc⟩)]
  have : chn ls (ls.length + 1) (some f.id) = f.id :: anc ls f.ins := by
    show f.id :: chn ls ls.length ((fline ls (some f.id)).bind Ln.ins) = _
    rw [fline_of w.nd hf]
    rfl
  rw [this]
  simp [eq_comm]
theorem anc_pre {n : Nat} {ls : List Ln} (w : Snd n ls) {g : Ln} (hg : g ∈ ls) : ∀ o, FoldIn ls o → g.id ∈ anc ls o → ∃ t, PP ls o = pth' ls g ++ t := by
  refine fold_ind w _ (fun h => by rw [anc_none] at h; cases h) (fun f hf hc ih h => ?_)
  rw [anc_some w hf hc] at h
  rw [PP_some w hf hc]
  rcases List.mem_cons.mp h with h | h
  · have := uniq w.nd hg hf h
    subst this
    exact ⟨[], by rw [List.append_nil]; rfl⟩
  · obtain ⟨t, e⟩ := ih h
    exact ⟨t ++ f.below, by rw [e, List.append_assoc]⟩
/-- g moved into the folder d, which does not stand in g -/
def mvd (ls : List Ln) (g d : Ln) (b : List Str) : List Ln := ls.map fun x => if x.id = g.id then { x with ins := some d.id, below := b } else x
theorem PP_mvd {n m : Nat} {ls : List Ln} (w : Snd n ls) {g d : Ln} (hg : g ∈ ls) (hd : d ∈ ls) (hdc : d.ct = none) {b : List Str} (w' : Snd m (mvd ls g d b)) (hs : g.id ∉ anc ls (some d.id)) : ∀ o, FoldIn ls o →
    PP (mvd ls g d b) o = if g.id ∈ anc ls o then pth' ls d ++ b ++ (PP ls o).drop (pth' ls g).length else PP ls o := by
  intro o ho
  have mem : ∀ f ∈ mvd ls g d b, ∃ l ∈ ls, f.id = l.id ∧ f.ct = l.ct ∧ ((l = g ∧ f.ins = some d.id ∧ f.below = b) ∨ (l.id ≠ g.id ∧ f.ins = l.ins ∧ f.below = l.below)) := by
    intro f hf
    obtain ⟨l, hl, rfl⟩ := List.mem_map.mp hf
    refine ⟨l, hl, ?_⟩
    split
    · rename_i h; exact ⟨rfl, rfl, .inl ⟨uniq w.nd hl hg h, rfl, rfl⟩⟩
    · rename_i h; exact ⟨rfl, rfl, .inr ⟨h, rfl, rfl⟩⟩
  have fo' : FoldIn (mvd ls g d b) o := fun i e => by
    obtain ⟨f, hf, h1, h2⟩ := ho i e
    refine ⟨_, List.mem_map.mpr ⟨f, hf, rfl⟩, ?_⟩
    split <;> exact ⟨h1, h2⟩
  refine (PP_uniq w' (fun o => if g.id ∈ anc ls o then pth' ls d ++ b ++ (PP ls o).drop (pth' ls g).length else PP ls o) ?_ ?_ o fo').symm
  · rw [anc_none, if_neg (by simp), PP_none]
  · intro f hf hc _
    obtain ⟨l, hl, e1, e2, h⟩ := mem f hf
    have hlc : l.ct = none := e2.symm.trans hc
    rw [e1]
    rcases h with ⟨rfl, h2, h3⟩ | ⟨h1, h2, h3⟩
    · rw [h2, h3, if_neg hs, if_pos (by rw [anc_some w hl hlc]; exact List.mem_cons_self), PP_some w hd hdc, PP_some w hl hlc]
      show pth' ls d ++ b ++ (pth' ls l).drop (pth' ls l).length = pth' ls d ++ b
      rw [List.drop_length, List.append_nil]
    · rw [h2, h3, anc_some w hl hlc, PP_some w hl hlc]
      have iff : g.id ∈ l.id :: anc ls l.ins ↔ g.id ∈ anc ls l.ins := by simp [Ne.symm h1]
      by_cases c : g.id ∈ anc ls l.ins
      · rw [if_pos (iff.mpr c), if_pos c]
        obtain ⟨t, e⟩ := anc_pre w hg l.ins (fun i e => w.ins l hl i e) c
        rw [e, List.append_assoc (pth' ls g) t l.below, List.drop_left, List.drop_left]
        simp
      · rw [if_neg (fun z => c (iff.mp z)), if_neg c]
/-! the pass that climbs -/
def adv (s : List Id × Option Id) (x : Ln) : List Id × Option Id := if s.2 = some x.id ∧ x.id ∉ s.1 then (s.1 ++ [x.id], x.ins) else s
structure Clm (ls : List Ln) (r : Id → Nat) (full : List Id) (s : List Id × Option Id) : Prop where
  fo : FoldIn ls s.2
  eq : s.1 ++ anc ls s.2 = full
  lt : ∀ i, s.2 = some i → ∀ a ∈ s.1, r i < r a
theorem Clm.adv {n : Nat} {ls : List Ln} (w : Snd n ls) {r : Id → Nat} (hr : ∀ l ∈ ls, ∀ i, l.ins = some i → r i < r l.id) {full : List Id} {s : List Id × Option Id} (c : Clm ls r full s) {x : Ln} (hx : x ∈ ls) : Clm ls r full (adv s x) := by
  unfold FK.adv
  split
  · rename_i h
    have hxc : x.ct = none := by
      obtain ⟨f, hf, e, hc⟩ := c.fo _ h.1
      rw [← uniq w.nd hf hx e]; exact hc
    refine ⟨fun i e => w.ins x hx i e, ?_, fun i e a ha => ?_⟩
    · have := c.eq
      rw [h.1, anc_some w hx hxc] at this
      dsimp only
      rw [List.append_assoc]
      exact this
    · have q := hr x hx i e
      rcases List.mem_append.mp ha with z | z
      · exact Nat.lt_trans q (c.lt _ h.1 a z)
      · rw [List.mem_singleton.mp z]; exact q
  · exact c
theorem Clm.pass {n : Nat} {ls : List Ln} (w : Snd n ls) {r : Id → Nat} (hr : ∀ l ∈ ls, ∀ i, l.ins = some i → r i < r l.id) {full : List Id} : ∀ (xs : List Ln) {s : List Id × Option Id}, (∀ x ∈ xs, x ∈ ls) → Clm ls r full s → Clm ls r full (xs.foldl FK.adv s)
  | [], s, _, c => c
  | x :: xs, s, h, c => Clm.pass w hr xs (fun y hy => h y (List.mem_cons_of_mem _ hy)) (c.adv w hr (h x List.mem_cons_self))
def mu (ls : List Ln) (s : List Id × Option Id) : Nat := (anc ls s.2).length
theorem mu_adv {n : Nat} {ls : List Ln} (w : Snd n ls) {r : Id → Nat} {full : List Id} {s : List Id × Option Id} (c : Clm ls r full s) {x : Ln} (hx : x ∈ ls) : mu ls (adv s x) ≤ mu ls s ∧ (s.2 = some x.id → mu ls (adv s x) < mu ls s) := by
  unfold adv
  by_cases h : s.2 = some x.id ∧ x.id ∉ s.1
  · have hxc : x.ct = none := by
      obtain ⟨f, hf, e, hc⟩ := c.fo _ h.1
      rw [← uniq w.nd hf hx e]; exact hc
    have : mu ls s = mu ls (s.1 ++ [x.id], x.ins) + 1 := by
      unfold mu
      rw [h.1, anc_some w hx hxc]
      rfl
    rw [if_pos h]
    omega
  · rw [if_neg h]
    refine ⟨Nat.le_refl _, fun e => ?_⟩
    by_cases z : x.id ∈ s.1
    · exact absurd (c.lt _ e _ z) (Nat.lt_irrefl _)
    · exact absurd ⟨e, z⟩ h
theorem mu_pass {n : Nat} {ls : List Ln} (w : Snd n ls) {r : Id → Nat} (hr : ∀ l ∈ ls, ∀ i, l.ins = some i → r i < r l.id) {full : List Id} : ∀ (xs : List Ln) {s : List Id × Option Id}, (∀ x ∈ xs, x ∈ ls) → Clm ls r full s → mu ls (xs.foldl adv s) ≤ mu ls s ∧ ((∃ x ∈ xs, s.2 = some x.id) → mu ls (xs.foldl adv s) < mu ls s)
  | [], s, _, c => ⟨Nat.le_refl _, fun ⟨x, h, _⟩ => by cases h⟩
  | x :: xs, s, h, c => by
    have hx := h x List.mem_cons_self
    obtain ⟨a1, a2⟩ := mu_adv w c hx
    obtain ⟨b1, b2⟩ := mu_pass w hr xs (s := adv s x) (fun y hy => h y (List.mem_cons_of_mem _ hy)) (c.adv w hr hx)
    rw [List.foldl_cons]
    refine ⟨Nat.le_trans b1 a1, ?_⟩
    rintro ⟨y, hy, e⟩
    by_cases q : s.2 = some x.id
    · exact Nat.lt_of_le_of_lt b1 (a2 q)
    · have : adv s x = s := by unfold adv; rw [if_neg (fun z => q z.1)]
      rw [this] at b2 ⊢
      rcases List.mem_cons.mp hy with rfl | hy
      · exact absurd e q
      · exact b2 ⟨y, hy, e⟩
def clmb (ls : List Ln) : Nat → List Id × Option Id → List Id × Option Id
  | 0, s => s
  | k + 1, s => clmb ls k (ls.foldl adv s)
theorem clmb_end {n : Nat} {ls : List Ln} (w : Snd n ls) {r : Id → Nat} (hr : ∀ l ∈ ls, ∀ i, l.ins = some i → r i < r l.id) {full : List Id} : ∀ (k : Nat) {s : List Id × Option Id}, Clm ls r full s → mu ls s ≤ k → (clmb ls k s).1 = full ∧ ((clmb ls k s).2 = none)
  | 0, s, c, h => by
    have e : s.2 = none := by
      cases q : s.2 with
      | none => rfl
      | some i =>
        obtain ⟨f, hf, rfl, hc⟩ := c.fo _ q
        unfold mu at h
        rw [q, anc_some w hf hc] at h
        simp at h
    have := c.eq
    rw [e, anc_none, List.append_nil] at this
    exact ⟨this, e⟩
  | k + 1, s, c, h => by
    refine clmb_end w hr k (c.pass w hr ls (fun _ h => h)) ?_
    obtain ⟨m1, m2⟩ := mu_pass w hr ls (fun _ h => h) c
    by_cases e : s.2 = none
    · unfold mu at h m1 ⊢
      rw [e, anc_none] at m1
      simp at m1
      rw [m1]; exact Nat.zero_le _
    · obtain ⟨i, q⟩ := Option.ne_none_iff_exists'.mp e
      obtain ⟨f, hf, rfl, _⟩ := c.fo _ q
      have := m2 ⟨f, hf, q⟩
      omega
theorem chn_len (ls : List Ln) : ∀ (n : Nat) (o : Option Id), (chn ls n o).length ≤ n
  | 0, _ => Nat.le_refl _
  | n + 1, none => Nat.zero_le _
  | n + 1, some i => Nat.succ_le_succ (chn_len ls n _)
end FK

/-! part: D_k14 -/
set_option Elab.async false
set_option linter.all false
set_option maxRecDepth 100000
set_option maxHeartbeats 4000000
/-! the defs of law_k14_lines_stay_sound as functions of data (printed by gen.py) -/
namespace FK
open PySem PySem.Spec L2
noncomputable def b_l_pick : SD := sSeq (sIf (bOr (bT (e2 dEq (eCall dLen (aCons (eVar 1) (aNil))) (eC (.int 0)))) (bT (e2 dEq (e2 dMod (eCall dInt (aCons (eVar 0) (aNil))) (eC (.int 3))) (eC (.int 0))))) (sRet (eC .non)) (sNil))
  (sSeq (sIf (bT (e2 dEq (e2 dMod (eCall dInt (aCons (e2 dFdiv (eVar 0) (eC (.int 7))) (aNil))) (eC (.int 2))) (eC (.int 0)))) (sRet (e2 dIdx (eVar 1) (e2 dMod (eCall dInt (aCons (e2 dFdiv (eVar 0) (eC (.int 3))) (aNil))) (eCall dLen (aCons (eVar 1) (aNil)))))) (sNil))
  (sRet (e2 dIdx (eVar 1) (e2 dSub (e2 dSub (eCall dLen (aCons (eVar 1) (aNil))) (eC (.int 1))) (e2 dMod (eCall dInt (aCons (e2 dFdiv (eVar 0) (eC (.int 3))) (aNil))) (eCall dMin2 (aCons (eC (.int 3)) (aCons (eCall dLen (aCons (eVar 1) (aNil))) (aNil)))))))))
/-- _law_pick(0 _law_row, 1 _law_ids) -/
noncomputable def d_l_pick : FD := fnD 2 b_l_pick
noncomputable def b_l_heads : SD := sSeq (sAsg (eNew (aNil)) (gN 2))
  (sSeq (sFor (iR1 (aCons (e2 dMod (eCall dInt (aCons (e2 dFdiv (eVar 0) (eC (.int 17))) (aNil))) (eC (.int 4))) (aNil))) (gN 3) (sSeq (sAsg (eCall (callP 2 d_l_pick) (aCons (e2 dFdiv (eVar 0) (e2 dAdd (e2 dMul (eC (.int 23)) (eVar 3)) (eC (.int 5)))) (aCons (eVar 1) (aNil)))) (gN 4))
  (sIf (bT (e2 dIsnt (eVar 4) (eC .non))) (sExpr (eMl dApp (eVar 2) (aCons (eVar 4) (aNil)))) (sNil))))
  (sRet (eCall dTuple (aCons (eVar 2) (aNil)))))
/-- _law_heads(0 _law_row, 1 _law_ids, 2 _law_heads_here, 3 _law_j, 4 _law_head) -/
noncomputable def d_l_heads : FD := fnD 5 b_l_heads
noncomputable def b_l_path : SD := sSeq (sAsg (eLst (aCons (eC (.str "a")) (aCons (eC (.str "b")) (aCons (eC (.str "c.txt")) (aCons (eC (.str "d")) (aNil)))))) (gN 2))
  (sRet (eCall dTuple (aCons (eLc lcEnd (iR1 (aCons (e2 dAdd (eC (.int 1)) (e2 dMod (eCall dInt (aCons (e2 dFdiv (eVar 0) (eC (.int 5))) (aNil))) (eVar 1))) (aNil))) (gN 3) (bYes) (e2 dIdx (eVar 2) (e2 dMod (eCall dInt (aCons (e2 dFdiv (eVar 0) (e2 dAdd (e2 dMul (eC (.int 11)) (eVar 3)) (eC (.int 3)))) (aNil))) (eC (.int 4)))) [3]) (aNil))))
/-- _law_path(0 _law_row, 1 _law_most, 2 _law_names, 3 _law_j) -/
noncomputable def d_l_path : FD := fnD 4 b_l_path
noncomputable def b_l_place : SD := sRet (eTup (aCons (eCall (callP 2 d_l_pick) (aCons (e2 dFdiv (eVar 0) (eC (.int 2))) (aCons (eVar 1) (aNil)))) (aCons (eCall (callP 2 d_l_path) (aCons (e2 dFdiv (eVar 0) (eC (.int 13))) (aCons (eC (.int 2)) (aNil)))) (aCons (eCall (callP 2 d_l_path) (aCons (e2 dFdiv (eVar 0) (eC (.int 101))) (aCons (eC (.int 3)) (aNil)))) (aNil)))))
/-- _law_place(0 _law_row, 1 _law_ids) -/
noncomputable def d_l_place : FD := fnD 2 b_l_place
noncomputable def b_l_edit : SD := sSeq (sAsg (eCall (callP 2 d_l_place) (aCons (e2 dFdiv (eVar 0) (eC (.int 6))) (aCons (eVar 2) (aNil)))) (gN 3))
  (sSeq (sAsg (e2 dMod (eCall dInt (aCons (eVar 0) (aNil))) (eC (.int 6))) (gN 4))
  (sSeq (sIf (bT (e2 dEq (eVar 4) (eC (.int 0)))) (sRet (eTup (aCons (eC (.str "write")) (aCons (eVar 1) (aCons (eVar 3) (aCons (eC .non) (aCons (eC .non) (aCons (eCall (callP 2 d_l_heads) (aCons (eVar 0) (aCons (eVar 2) (aNil)))) (aNil))))))))) (sNil))
  (sSeq (sIf (bOr (bT (e2 dLe (eVar 4) (eC (.int 3)))) (bT (e2 dEq (eCall dLen (aCons (eVar 2) (aNil))) (eC (.int 0))))) (sSeq (sAsg (e2 dMod (eCall dInt (aCons (e2 dFdiv (eVar 0) (eC (.int 19))) (aNil))) (eC (.int 3))) (gN 5))
  (sRet (eTup (aCons (eC (.str "write")) (aCons (eVar 1) (aCons (eVar 3) (aCons (eTup (aCons (eVar 5) (aCons (eVar 5) (aCons (e2 dAdd (eVar 5) (eC (.int 1))) (aCons (eC (.bl false)) (aNil)))))) (aCons (eCall (callP 2 d_l_pick) (aCons (e2 dFdiv (eVar 0) (eC (.int 29))) (aCons (eVar 2) (aNil)))) (aCons (eCall (callP 2 d_l_heads) (aCons (eVar 0) (aCons (eVar 2) (aNil)))) (aNil)))))))))) (sNil))
  (sSeq (sIf (bT (e2 dEq (eVar 4) (eC (.int 4)))) (sRet (eTup (aCons (eC (.str "drop")) (aCons (eVar 1) (aCons (eCall (callP 2 d_l_heads) (aCons (e2 dFdiv (eVar 0) (eC (.int 3))) (aCons (eVar 2) (aNil)))) (aNil)))))) (sNil))
  (sSeq (sAsg (eNew (aNil)) (gN 6))
  (sSeq (sFor (iR1 (aCons (e2 dAdd (eC (.int 1)) (e2 dMod (eCall dInt (aCons (e2 dFdiv (eVar 0) (eC (.int 31))) (aNil))) (eC (.int 2)))) (aNil))) (gN 7) (sSeq (sAsg (eCall (callP 2 d_l_pick) (aCons (e2 dAdd (eC (.int 1)) (e2 dMul (eC (.int 3)) (e2 dFdiv (eVar 0) (e2 dAdd (e2 dMul (eC (.int 37)) (eVar 7)) (eC (.int 2)))))) (aCons (eVar 2) (aNil)))) (gN 8))
  (sSeq (sAsg (eCall (callP 2 d_l_pick) (aCons (e2 dAdd (eC (.int 1)) (e2 dMul (eC (.int 3)) (e2 dFdiv (eVar 0) (e2 dAdd (e2 dMul (eC (.int 41)) (eVar 7)) (eC (.int 3)))))) (aCons (eVar 2) (aNil)))) (gN 9))
  (sExpr (eMl dApp (eVar 6) (aCons (eTup (aCons (eVar 8) (aCons (eVar 9) (aCons (eCall (callP 2 d_l_place) (aCons (e2 dFdiv (eVar 0) (e2 dAdd (e2 dMul (eC (.int 43)) (eVar 7)) (eC (.int 7)))) (aCons (eVar 2) (aNil)))) (aNil))))) (aNil)))))))
  (sRet (eTup (aCons (eC (.str "move")) (aCons (eVar 1) (aCons (eCall dTuple (aCons (eVar 6) (aNil))) (aNil))))))))))))
/-- _law_edit(0 _law_row, 1 _law_edit_id, 2 _law_ids, 3 _law_place_here, 4 _law_kind, 5 _law_size, 6 _law_moved, 7 _law_j, 8 _law_head, 9 _law_line) -/
noncomputable def d_l_edit : FD := fnD 10 b_l_edit
noncomputable def b_l_rows : SD := sSeq (sAsg (eNew (aNil)) (gN 2))
  (sSeq (sAsg (eC (.int 1)) (gN 3))
  (sSeq (sFor (iR1 (aCons (eVar 1) (aNil))) (gN 4) (sSeq (sAsg (eC (.int 0)) (gN 5))
  (sSeq (sIf (bT (e2 dLt (eVar 4) (eCall dLen (aCons (eVar 0) (aNil))))) (sAsg (eCall dInt (aCons (e2 dIdx (eVar 0) (eVar 4)) (aNil))) (gN 5)) (sNil))
  (sSeq (sIf (bT (e2 dLt (eVar 5) (eC (.int 0)))) (sAsg (e2 dSub (eC (.int 1)) (e2 dMul (eC (.int 2)) (eVar 5))) (gN 5)) (sNil))
  (sSeq (sAsg (e2 dMod (eCall dInt (aCons (e2 dAdd (e2 dAdd (e2 dAdd (e2 dMul (eVar 3) (eC (.int 48271))) (e2 dMul (eVar 5) (eC (.int 69621)))) (e2 dMul (eC (.int 2)) (eVar 4))) (eC (.int 1))) (aNil))) (eC (.int 1000000007))) (gN 3))
  (sIf (bT (e2 dGe (eVar 5) (eC (.int 1000000000)))) (sExpr (eMl dApp (eVar 2) (aCons (eVar 5) (aNil)))) (sExpr (eMl dApp (eVar 2) (aCons (e2 dMod (eCall dInt (aCons (e2 dAdd (e2 dMul (eVar 3) (eC (.int 2862933555777941757))) (eC (.int 3037000493))) (aNil))) (eC (.int 18446744073709551557))) (aNil))))))))))
  (sRet (eVar 2))))
/-- _law_rows(0 _law_script, 1 _law_count, 2 _law_rows_here, 3 _law_mixed, 4 _law_k, 5 _law_cell) -/
noncomputable def d_l_rows : FD := fnD 6 b_l_rows
noncomputable def b_l_edits : SD := sSeq (sAsg (eCall (callP 2 d_l_rows) (aCons (eVar 0) (aCons (eVar 1) (aNil)))) (gN 2))
  (sSeq (sAsg (eNew (aNil)) (gN 3))
  (sSeq (sAsg (eNew (aNil)) (gN 4))
  (sSeq (sFor (iR1 (aCons (eVar 1) (aNil))) (gN 5) (sSeq (sAsg (eTup (aCons (e2 dAdd (e2 dFdiv (eCall dInt (aCons (eVar 5) (aNil))) (eC (.int 2))) (eC (.int 1))) (aCons (e2 dMod (eCall dInt (aCons (eVar 5) (aNil))) (eC (.int 2))) (aNil)))) (gN 6))
  (sSeq (sExpr (eMl dApp (eVar 3) (aCons (eCall (callP 3 d_l_edit) (aCons (e2 dIdx (eVar 2) (eVar 5)) (aCons (eVar 6) (aCons (eVar 4) (aNil))))) (aNil))))
  (sExpr (eMl dApp (eVar 4) (aCons (eVar 6) (aNil)))))))
  (sRet (eVar 3)))))
/-- _law_edits(0 _law_script, 1 _law_count, 2 _law_rows_here, 3 _law_edits_here, 4 _law_ids, 5 _law_k, 6 _law_edit_id) -/
noncomputable def d_l_edits : FD := fnD 7 b_l_edits
noncomputable def b_l_replaced : SD := sSeq (sIf (bT (e2 dEq (e2 dIdx (eVar 0) (eC (.int 0))) (eC (.str "move")))) (sRet (eTup (aNil))) (sNil))
  (sRet (e2 dIdx (eVar 0) (e2 dSub (eCall dLen (aCons (eVar 0) (aNil))) (eC (.int 1)))))
/-- _law_replaced(0 _law_edit_here) -/
noncomputable def d_l_replaced : FD := fnD 1 b_l_replaced
noncomputable def b_l_with : SD := sRet (e2 dAdd (e2 dAdd (eSl (eVar 0) (oNone) (oSome (eVar 1))) (eLst (aCons (eVar 2) (aNil)))) (eSl (eVar 0) (oSome (e2 dAdd (eVar 1) (eC (.int 1)))) (oNone)))
/-- _law_with(0 _law_lines, 1 _law_k, 2 _law_line) -/
noncomputable def d_l_with : FD := fnD 3 b_l_with
noncomputable def b_l_wrong : SD := sSeq (sAsg (e2 dIdx (eVar 0) (eVar 1)) (gN 2))
  (sSeq (sAsg (eNew (aCons (eCall (callP 3 d_l_with) (aCons (eVar 0) (aCons (eVar 1) (aCons (eTup (aCons (e2 dIdx (eVar 2) (eC (.int 0))) (aCons (e2 dIdx (eVar 2) (eC (.int 1))) (aCons (e2 dIdx (eVar 2) (eC (.int 2))) (aCons (eTup (aNil)) (aCons (e2 dIdx (eVar 2) (eC (.int 4))) (aNil))))))) (aNil))))) (aNil))) (gN 3))
  (sSeq (sExpr (eMl dApp (eVar 3) (aCons (eCall (callP 3 d_l_with) (aCons (eVar 0) (aCons (eVar 1) (aCons (eTup (aCons (e2 dIdx (eVar 2) (eC (.int 0))) (aCons (e2 dIdx (eVar 2) (eC (.int 1))) (aCons (eTup (aCons (eC (.int 77)) (aCons (eC (.int 7)) (aNil)))) (aCons (e2 dIdx (eVar 2) (eC (.int 3))) (aCons (e2 dIdx (eVar 2) (eC (.int 4))) (aNil))))))) (aNil))))) (aNil))))
  (sSeq (sExpr (eMl dApp (eVar 3) (aCons (eCall (callP 3 d_l_with) (aCons (eVar 0) (aCons (eVar 1) (aCons (eTup (aCons (e2 dIdx (eVar 2) (eC (.int 0))) (aCons (e2 dIdx (eVar 2) (eC (.int 1))) (aCons (e2 dIdx (eVar 2) (eC (.int 0))) (aCons (e2 dIdx (eVar 2) (eC (.int 3))) (aCons (e2 dIdx (eVar 2) (eC (.int 4))) (aNil))))))) (aNil))))) (aNil))))
  (sSeq (sIf (bT (e2 dIs (e2 dIdx (eVar 2) (eC (.int 4))) (eC .non))) (sExpr (eMl dApp (eVar 3) (aCons (eCall (callP 3 d_l_with) (aCons (eVar 0) (aCons (eVar 1) (aCons (eTup (aCons (e2 dIdx (eVar 2) (eC (.int 0))) (aCons (eTup (aCons (eC (.int 78)) (aCons (eC (.int 0)) (aNil)))) (aCons (e2 dIdx (eVar 2) (eC (.int 2))) (aCons (e2 dIdx (eVar 2) (eC (.int 3))) (aCons (eC .non) (aNil))))))) (aNil))))) (aNil)))) (sNil))
  (sSeq (sIf (bT (e2 dGt (eVar 1) (eC (.int 0)))) (sSeq (sAsg (e2 dIdx (eVar 0) (e2 dSub (eVar 1) (eC (.int 1)))) (gN 4))
  (sSeq (sExpr (eMl dApp (eVar 3) (aCons (e2 dAdd (e2 dAdd (eSl (eVar 0) (oNone) (oSome (e2 dSub (eVar 1) (eC (.int 1))))) (eLst (aCons (eVar 2) (aCons (eVar 4) (aNil))))) (eSl (eVar 0) (oSome (e2 dAdd (eVar 1) (eC (.int 1)))) (oNone))) (aNil))))
  (sSeq (sExpr (eMl dApp (eVar 3) (aCons (eCall (callP 3 d_l_with) (aCons (eVar 0) (aCons (eVar 1) (aCons (eTup (aCons (e2 dIdx (eVar 2) (eC (.int 0))) (aCons (e2 dIdx (eVar 4) (eC (.int 1))) (aCons (e2 dIdx (eVar 2) (eC (.int 2))) (aCons (e2 dIdx (eVar 2) (eC (.int 3))) (aCons (e2 dIdx (eVar 2) (eC (.int 4))) (aNil))))))) (aNil))))) (aNil))))
  (sIf (bT (e2 dIsnt (e2 dIdx (eVar 4) (eC (.int 4))) (eC .non))) (sExpr (eMl dApp (eVar 3) (aCons (eCall (callP 3 d_l_with) (aCons (eVar 0) (aCons (eVar 1) (aCons (eTup (aCons (e2 dIdx (eVar 2) (eC (.int 0))) (aCons (e2 dIdx (eVar 2) (eC (.int 1))) (aCons (e2 dIdx (eVar 4) (eC (.int 0))) (aCons (e2 dIdx (eVar 2) (eC (.int 3))) (aCons (e2 dIdx (eVar 2) (eC (.int 4))) (aNil))))))) (aNil))))) (aNil)))) (sNil))))) (sNil))
  (sRet (eVar 3)))))))
/-- _law_wrong(0 _law_lines, 1 _law_k, 2 _law_line, 3 _law_wrong_here, 4 _law_before) -/
noncomputable def d_l_wrong : FD := fnD 5 b_l_wrong
noncomputable def b_end_line : SD := sSeq (sAsg (eNew (aNil)) (gN 2))
  (sSeq (sFor (iE (eVar 0)) (gN 3) (sSeq (sIf (bT (e2 dEq (e2 dIdx (eVar 3) (eC (.int 0))) (e2 dIdx (eVar 1) (eC (.int 0))))) (sCnt) (sNil))
  (sIf (bT (e2 dEq (e2 dIdx (eVar 3) (eC (.int 2))) (e2 dIdx (eVar 1) (eC (.int 0))))) (sExpr (eMl dApp (eVar 2) (aCons (eTup (aCons (e2 dIdx (eVar 3) (eC (.int 0))) (aCons (e2 dIdx (eVar 3) (eC (.int 1))) (aCons (e2 dIdx (eVar 1) (eC (.int 2))) (aCons (e2 dAdd (e2 dIdx (eVar 1) (eC (.int 3))) (e2 dIdx (eVar 3) (eC (.int 3)))) (aCons (e2 dIdx (eVar 3) (eC (.int 4))) (aNil))))))) (aNil)))) (sExpr (eMl dApp (eVar 2) (aCons (eVar 3) (aNil)))))))
  (sRet (eVar 2)))
/-- end_line(0 lines, 1 gone, 2 result, 3 line) -/
noncomputable def d_end_line : FD := fnD 4 b_end_line
noncomputable def b_find_head : SD := sSeq (sFor (iE (eVar 0)) (gN 2) (sIf (bT (e2 dEq (e2 dIdx (eVar 2) (eC (.int 1))) (eVar 1))) (sRet (eVar 2)) (sNil)))
  (sRet (eC .non))
/-- find_head(0 lines, 1 head, 2 line) -/
noncomputable def d_find_head : FD := fnD 3 b_find_head
noncomputable def b_end_heads : SD := sSeq (sFor (iE (eVar 1)) (gN 2) (sSeq (sAsg (eCall (callP 2 d_find_head) (aCons (eVar 0) (aCons (eVar 2) (aNil)))) (gN 3))
  (sIf (bT (e2 dIsnt (eVar 3) (eC .non))) (sAsg (eCall (callP 2 d_end_line) (aCons (eVar 0) (aCons (eVar 3) (aNil)))) (gN 0)) (sNil))))
  (sRet (eVar 0))
/-- end_heads(0 lines, 1 heads, 2 head, 3 line) -/
noncomputable def d_end_heads : FD := fnD 4 b_end_heads
noncomputable def b_find_line : SD := sSeq (sFor (iE (eVar 0)) (gN 2) (sIf (bT (e2 dEq (e2 dIdx (eVar 2) (eC (.int 0))) (eVar 1))) (sRet (eVar 2)) (sNil)))
  (sRet (eC .non))
/-- find_line(0 lines, 1 line_id, 2 line) -/
noncomputable def d_find_line : FD := fnD 3 b_find_line
noncomputable def b_find_folder : SD := sSeq (sAsg (eCall (callP 2 d_find_line) (aCons (eVar 0) (aCons (eVar 1) (aNil)))) (gN 2))
  (sSeq (sIf (bAnd (bT (e2 dIsnt (eVar 2) (eC .non))) (bT (e2 dIs (e2 dIdx (eVar 2) (eC (.int 4))) (eC .non)))) (sRet (eVar 2)) (sNil))
  (sRet (eC .non)))
/-- find_folder(0 lines, 1 line_id, 2 line) -/
noncomputable def d_find_folder : FD := fnD 3 b_find_folder
noncomputable def b_settle : SD := sSeq (sAsg (eVar 1) (gT (gsC (gN 2) (gsC (gN 3) (gsC (gN 4) (gsN))))))
  (sSeq (sIf (bAnd (bT (e2 dIsnt (eVar 2) (eC .non))) (bT (e2 dIsnt (eCall (callP 2 d_find_folder) (aCons (eVar 0) (aCons (eVar 2) (aNil)))) (eC .non)))) (sRet (eTup (aCons (eVar 2) (aCons (eVar 3) (aNil))))) (sNil))
  (sRet (eTup (aCons (eC .non) (aCons (eVar 4) (aNil))))))
/-- settle(0 lines, 1 place, 2 inside, 3 below, 4 seen) -/
noncomputable def d_settle : FD := fnD 5 b_settle
noncomputable def b_stands_in : SD := sSeq (sFor (iR1 (aCons (e2 dAdd (eCall dLen (aCons (eVar 0) (aNil))) (eC (.int 1))) (aNil))) (gN 3) (sSeq (sIf (bT (e2 dIs (eVar 1) (eC .non))) (sRet (eC (.bl false))) (sNil))
  (sSeq (sIf (bT (e2 dEq (eVar 1) (eVar 2))) (sRet (eC (.bl true))) (sNil))
  (sSeq (sAsg (eCall (callP 2 d_find_folder) (aCons (eVar 0) (aCons (eVar 1) (aNil)))) (gN 4))
  (sSeq (sIf (bT (e2 dIs (eVar 4) (eC .non))) (sRet (eC (.bl false))) (sNil))
  (sAsg (e2 dIdx (eVar 4) (eC (.int 2))) (gN 1)))))))
  (sRet (eC (.bl false)))
/-- stands_in(0 lines, 1 inside, 2 line_id, 3 _, 4 folder) -/
noncomputable def d_stands_in : FD := fnD 5 b_stands_in
noncomputable def b_move_line : SD := sSeq (sAsg (eCall (callP 2 d_find_head) (aCons (eVar 0) (aCons (eVar 1) (aNil)))) (gN 4))
  (sSeq (sIf (bT (e2 dIs (eVar 4) (eC .non))) (sAsg (eCall (callP 2 d_find_line) (aCons (eVar 0) (aCons (eVar 2) (aNil)))) (gN 4)) (sNil))
  (sSeq (sIf (bT (e2 dIs (eVar 4) (eC .non))) (sRet (eVar 0)) (sNil))
  (sSeq (sAsg (eCall (callP 2 d_settle) (aCons (eVar 0) (aCons (eVar 3) (aNil)))) (gT (gsC (gN 5) (gsC (gN 6) (gsN)))))
  (sSeq (sIf (bT (eCall (callP 3 d_stands_in) (aCons (eVar 0) (aCons (eVar 5) (aCons (e2 dIdx (eVar 4) (eC (.int 0))) (aNil)))))) (sRet (eVar 0)) (sNil))
  (sSeq (sAsg (eNew (aNil)) (gN 7))
  (sSeq (sFor (iE (eVar 0)) (gN 8) (sIf (bT (e2 dEq (e2 dIdx (eVar 8) (eC (.int 0))) (e2 dIdx (eVar 4) (eC (.int 0))))) (sExpr (eMl dApp (eVar 7) (aCons (eTup (aCons (e2 dIdx (eVar 4) (eC (.int 0))) (aCons (e2 dIdx (eVar 4) (eC (.int 1))) (aCons (eVar 5) (aCons (eVar 6) (aCons (e2 dIdx (eVar 4) (eC (.int 4))) (aNil))))))) (aNil)))) (sExpr (eMl dApp (eVar 7) (aCons (eVar 8) (aNil))))))
  (sRet (eVar 7))))))))
/-- move_line(0 lines, 1 head, 2 line_id, 3 place, 4 line, 5 inside, 6 below, 7 result, 8 other) -/
noncomputable def d_move_line : FD := fnD 9 b_move_line
noncomputable def b_continued : SD := sSeq (sFor (iE (eVar 0)) (gN 2) (sIf (bAnd (bT (e2 dIsnt (e2 dIdx (eVar 2) (eC (.int 4))) (eC .non))) (bT (e2 dIn (e2 dIdx (eVar 2) (eC (.int 1))) (eVar 1)))) (sRet (e2 dIdx (eVar 2) (eC (.int 0)))) (sNil)))
  (sRet (eC .non))
/-- continued(0 lines, 1 replaces, 2 line) -/
noncomputable def d_continued : FD := fnD 3 b_continued
noncomputable def b_new_line : SD := sSeq (sAsg (eC .non) (gN 5))
  (sSeq (sIf (bT (e2 dIsnt (eVar 4) (eC .non))) (sAsg (eCall (callP 2 d_find_line) (aCons (eVar 0) (aCons (eVar 4) (aNil)))) (gN 5)) (sNil))
  (sSeq (sIf (bT (e2 dIsnt (eVar 5) (eC .non))) (sRet (eTup (aCons (eVar 1) (aCons (eVar 1) (aCons (e2 dIdx (eVar 5) (eC (.int 2))) (aCons (e2 dIdx (eVar 5) (eC (.int 3))) (aCons (eVar 3) (aNil)))))))) (sNil))
  (sSeq (sAsg (eCall (callP 2 d_settle) (aCons (eVar 0) (aCons (eVar 2) (aNil)))) (gT (gsC (gN 6) (gsC (gN 7) (gsN)))))
  (sRet (eTup (aCons (eVar 1) (aCons (eVar 1) (aCons (eVar 6) (aCons (eVar 7) (aCons (eVar 3) (aNil)))))))))))
/-- new_line(0 lines, 1 edit_id, 2 place, 3 content, 4 meant, 5 line, 6 inside, 7 below) -/
noncomputable def d_new_line : FD := fnD 8 b_new_line
noncomputable def b_write_lines : SD := sSeq (sAsg (eVar 1) (gT (gsC (gN 2) (gsC (gN 3) (gsC (gN 4) (gsC (gN 5) (gsC (gN 6) (gsC (gN 7) (gsN)))))))))
  (sSeq (sAsg (eC .non) (gN 8))
  (sSeq (sIf (bT (e2 dIsnt (eVar 5) (eC .non))) (sAsg (eCall (callP 2 d_continued) (aCons (eVar 0) (aCons (eVar 7) (aNil)))) (gN 8)) (sNil))
  (sSeq (sAsg (eNew (aNil)) (gN 9))
  (sSeq (sFor (iE (eVar 0)) (gN 10) (sIf (bT (e2 dEq (e2 dIdx (eVar 10) (eC (.int 0))) (eVar 8))) (sExpr (eMl dApp (eVar 9) (aCons (eTup (aCons (e2 dIdx (eVar 10) (eC (.int 0))) (aCons (eVar 3) (aCons (e2 dIdx (eVar 10) (eC (.int 2))) (aCons (e2 dIdx (eVar 10) (eC (.int 3))) (aCons (eVar 5) (aNil))))))) (aNil)))) (sExpr (eMl dApp (eVar 9) (aCons (eVar 10) (aNil))))))
  (sSeq (sIf (bT (e2 dIs (eVar 8) (eC .non))) (sExpr (eMl dApp (eVar 9) (aCons (eCall (callP 5 d_new_line) (aCons (eVar 0) (aCons (eVar 3) (aCons (eVar 4) (aCons (eVar 5) (aCons (eVar 6) (aNil))))))) (aNil)))) (sNil))
  (sRet (eCall (callH 2 d_end_heads) (aCons (eVar 9) (aCons (eVar 7) (aNil))))))))))
/-- write_lines(0 lines, 1 edit, 2 _, 3 edit_id, 4 place, 5 content, 6 meant, 7 replaces, 8 going_on, 9 result, 10 line) -/
noncomputable def d_write_lines : FD := fnD 11 b_write_lines
noncomputable def b_lines_after : SD := sSeq (sIf (bT (e2 dEq (e2 dIdx (eVar 1) (eC (.int 0))) (eC (.str "write")))) (sRet (eCall dListC (aCons (eCall (callP 2 d_write_lines) (aCons (eVar 0) (aCons (eVar 1) (aNil)))) (aNil)))) (sNil))
  (sSeq (sIf (bT (e2 dEq (e2 dIdx (eVar 1) (eC (.int 0))) (eC (.str "drop")))) (sRet (eCall dListC (aCons (eCall (callP 2 d_end_heads) (aCons (eVar 0) (aCons (e2 dIdx (eVar 1) (eC (.int 2))) (aNil)))) (aNil)))) (sNil))
  (sSeq (sFor (iE (e2 dIdx (eVar 1) (eC (.int 2)))) (gT (gsC (gN 2) (gsC (gN 3) (gsC (gN 4) (gsN))))) (sAsg (eCall (callP 4 d_move_line) (aCons (eVar 0) (aCons (eVar 2) (aCons (eVar 3) (aCons (eVar 4) (aNil)))))) (gN 0)))
  (sRet (eCall dListC (aCons (eVar 0) (aNil))))))
/-- lines_after(0 lines, 1 edit, 2 head, 3 line_id, 4 place) -/
noncomputable def d_lines_after : FD := fnD 5 b_lines_after
noncomputable def b_ascending : SD := sSeq (sFor (iR2 (aCons (eC (.int 1)) (aCons (eCall dLen (aCons (eVar 0) (aNil))) (aNil)))) (gN 1) (sIf (bNot (bT (e2 dLt (e2 dIdx (eVar 0) (e2 dSub (eVar 1) (eC (.int 1)))) (e2 dIdx (eVar 0) (eVar 1))))) (sRet (eC (.bl false))) (sNil)))
  (sRet (eC (.bl true)))
/-- ascending(0 ids, 1 at) -/
noncomputable def d_ascending : FD := fnD 2 b_ascending
noncomputable def b_is_rooted : SD := sSeq (sFor (iR1 (aCons (e2 dAdd (eCall dLen (aCons (eVar 0) (aNil))) (eC (.int 1))) (aNil))) (gN 2) (sSeq (sIf (bT (e2 dIs (eVar 1) (eC .non))) (sRet (eC (.bl true))) (sNil))
  (sSeq (sAsg (eCall (callP 2 d_find_folder) (aCons (eVar 0) (aCons (eVar 1) (aNil)))) (gN 3))
  (sSeq (sIf (bT (e2 dIs (eVar 3) (eC .non))) (sRet (eC (.bl false))) (sNil))
  (sAsg (e2 dIdx (eVar 3) (eC (.int 2))) (gN 1))))))
  (sRet (eC (.bl false)))
/-- is_rooted(0 lines, 1 inside, 2 _, 3 folder) -/
noncomputable def d_is_rooted : FD := fnD 4 b_is_rooted
noncomputable def b_lines_sound : SD := sSeq (sIf (bNot (bT (eCall (callP 1 d_ascending) (aCons (eLc lcEnd (iE (eVar 0)) (gN 7) (bYes) (e2 dIdx (eVar 7) (eC (.int 0))) [7]) (aNil))))) (sRet (eC (.bl false))) (sNil))
  (sSeq (sAsg (eLc lcEnd (iE (eVar 0)) (gN 7) (bYes) (e2 dIdx (eVar 7) (eC (.int 1))) [7]) (gN 1))
  (sSeq (sIf (bT (e2 dNe (e1 dLenSet (eVar 1)) (eCall dLen (aCons (eVar 1) (aNil))))) (sRet (eC (.bl false))) (sNil))
  (sSeq (sFor (iE (eVar 0)) (gT (gsC (gN 2) (gsC (gN 3) (gsC (gN 4) (gsC (gN 5) (gsC (gN 6) (gsN))))))) (sSeq (sIf (bOr (bT (e2 dEq (eCall dLen (aCons (eVar 5) (aNil))) (eC (.int 0)))) (bNot (bT (eCall (callP 2 d_is_rooted) (aCons (eVar 0) (aCons (eVar 4) (aNil))))))) (sRet (eC (.bl false))) (sNil))
  (sIf (bAnd (bT (e2 dIs (eVar 6) (eC .non))) (bT (e2 dNe (eVar 3) (eVar 2)))) (sRet (eC (.bl false))) (sNil))))
  (sRet (eC (.bl true))))))
/-- lines_sound(0 lines, 1 heads, 2 line_id, 3 head, 4 inside, 5 below, 6 content, 7 line) -/
noncomputable def d_lines_sound : FD := fnD 8 b_lines_sound
noncomputable def b_law : SD := sSeq (sAsg (eLst (aNil)) (gN 1))
  (sSeq (sFor (iE (eCall (callP 2 d_l_edits) (aCons (eVar 0) (aCons (eC (.int 22)) (aNil))))) (gN 2) (sSeq (sAsg (eCall (callP 2 d_lines_after) (aCons (eVar 1) (aCons (eVar 2) (aNil)))) (gN 1))
  (sSeq (sAsg (eLc lcEnd (iE (eVar 1)) (gN 6) (bYes) (e2 dIdx (eVar 6) (eC (.int 1))) [6]) (gN 3))
  (sSeq (sIf (bOr (bNot (bT (eCall (callP 1 d_lines_sound) (aCons (eVar 1) (aNil))))) (bT (eCall dAny (aCons (eLc lcEnd (iE (eCall (callP 1 d_l_replaced) (aCons (eVar 2) (aNil)))) (gN 7) (bYes) (e2 dIn (eVar 7) (eVar 3)) [7]) (aNil))))) (sRet (eC (.bl false))) (sNil))
  (sIf (bAnd (bT (e2 dEq (e2 dIdx (eVar 2) (eC (.int 0))) (eC (.str "write")))) (bT (e2 dNotIn (e2 dIdx (eVar 2) (eC (.int 1))) (eVar 3)))) (sRet (eC (.bl false))) (sNil))))))
  (sSeq (sFor (iR1 (aCons (eCall dLen (aCons (eVar 1) (aNil))) (aNil))) (gN 4) (sFor (iE (eCall (callP 2 d_l_wrong) (aCons (eVar 1) (aCons (eVar 4) (aNil))))) (gN 5) (sIf (bT (eCall (callP 1 d_lines_sound) (aCons (eVar 5) (aNil)))) (sRet (eC (.bl false))) (sNil))))
  (sRet (eCall (callP 1 d_lines_sound) (aCons (eTup (aNil)) (aNil))))))
/-- law(0 _law_script, 1 _law_lines, 2 _law_edit_here, 3 _law_heads_here, 4 _law_k, 5 _law_wrong_here, 6 _law_line, 7 _law_head) -/
noncomputable def d_law : FD := fnD 8 b_law
end FK

/-! part: LN -/
set_option linter.all false
set_option maxRecDepth 100000
set_option maxHeartbeats 4000000
namespace FK
open PySem PySem.Spec L2
/-! LN: what the program's functions on lines compute. -/
def encC : Option Mk4 → D
  | none => .non
  | some m => .tup [.int m.1, .int m.2.1, .int m.2.2.1, .bl m.2.2.2]
def encL (l : Ln) : D := .tup [encI l.id, encI l.head, encO l.ins, encP l.below, encC l.ct]
def encOL : Option Ln → D
  | none => .non
  | some l => encL l
def encPc (p : Pc) : D := .tup [encO p.ins, encP p.below, encP p.seen]
def encM (m : Option Id × Option Id × Pc) : D := .tup [encO m.1, encO m.2.1, encPc m.2.2]
def encE : Ed → D
  | .write i p c m rs => .tup [.str "write", encI i, encPc p, encC c, encO m, encT rs]
  | .drop i hs => .tup [.str "drop", encI i, encT hs]
  | .move i ms => .tup [.str "move", encI i, .tup (ms.map encM)]
theorem nr_C (c : Option Mk4) : D.nr (encC c) = true := by cases c <;> rfl
theorem flat_C (c : Option Mk4) : D.flat (encC c) = true := by cases c <;> rfl
theorem dat_C (c : Option Mk4) : D.dat (encC c) = true := by cases c <;> rfl
theorem dep_C (c : Option Mk4) : D.dep (encC c) ≤ 1 := by
  cases c with
  | none => exact Nat.zero_le _
  | some i => exact Nat.le_refl 1
theorem dIs_C (c : Option Mk4) (h : CH) : dIs (encC c) .non h = .ok (.bl c.isNone) h := by cases c <;> rfl
theorem dIsnt_C (c : Option Mk4) (h : CH) : dIsnt (encC c) .non h = .ok (.bl c.isSome) h := by cases c <;> rfl
theorem dIs_OL (c : Option Ln) (h : CH) : dIs (encOL c) .non h = .ok (.bl c.isNone) h := by cases c <;> rfl
theorem dIsnt_OL (c : Option Ln) (h : CH) : dIsnt (encOL c) .non h = .ok (.bl c.isSome) h := by cases c <;> rfl
theorem dIs_L (c : Ln) (h : CH) : dIs (encL c) .non h = .ok (.bl false) h := rfl
theorem dIsnt_L (c : Ln) (h : CH) : dIsnt (encL c) .non h = .ok (.bl true) h := rfl
theorem encOL_none : encOL none = .non := rfl
theorem encOL_some (l : Ln) : encOL (some l) = encL l := rfl
theorem ix0 (l : Ln) (h : CH) : dIdx (encL l) (.int 0) h = .ok (encI l.id) h := rfl
theorem ix1 (l : Ln) (h : CH) : dIdx (encL l) (.int 1) h = .ok (encI l.head) h := rfl
theorem ix2 (l : Ln) (h : CH) : dIdx (encL l) (.int 2) h = .ok (encO l.ins) h := rfl
theorem ix3 (l : Ln) (h : CH) : dIdx (encL l) (.int 3) h = .ok (encP l.below) h := rfl
theorem ix4 (l : Ln) (h : CH) : dIdx (encL l) (.int 4) h = .ok (encC l.ct) h := rfl
theorem flat_L (l : Ln) : D.flat (encL l) = true := by
  show (D.flat (encI l.id) && (D.flat (encI l.head) && (D.flat (encO l.ins) && (D.flat (encP l.below) && (D.flat (encC l.ct) && true))))) = true
  rw [flat_I, flat_I, flat_O, flat_P, flat_C]; rfl
theorem flat_OL (l : Option Ln) : D.flat (encOL l) = true := by
  cases l with
  | none => rfl
  | some l => exact flat_L l
theorem flatL_L : ∀ ls : List Ln, D.flatL (ls.map encL) = true
  | [] => rfl
  | l :: ls => by
    show (D.flat (encL l) && D.flatL (ls.map encL)) = true
    rw [flat_L, flatL_L]; rfl
theorem nrL_L (ls : List Ln) : D.nrL (ls.map encL) = true := flatL_nrL (flatL_L ls)
theorem flat_Pc (p : Pc) : D.flat (encPc p) = true := by
  show (D.flat (encO p.ins) && (D.flat (encP p.below) && (D.flat (encP p.seen) && true))) = true
  rw [flat_O, flat_P, flat_P]; rfl
theorem flat_M (m : Option Id × Option Id × Pc) : D.flat (encM m) = true := by
  show (D.flat (encO m.1) && (D.flat (encO m.2.1) && (D.flat (encPc m.2.2) && true))) = true
  rw [flat_O, flat_O, flat_Pc]; rfl
theorem flatL_M : ∀ ms : List (Option Id × Option Id × Pc), D.flatL (ms.map encM) = true
  | [] => rfl
  | m :: ms => by
    show (D.flat (encM m) && D.flatL (ms.map encM)) = true
    rw [flat_M, flatL_M]; rfl
theorem flat_E (e : Ed) : D.flat (encE e) = true := by
  cases e with
  | write i p c m rs =>
    show (true && (D.flat (encI i) && (D.flat (encPc p) && (D.flat (encC c) && (D.flat (encO m) && (D.flat (encT rs) && true)))))) = true
    rw [flat_I, flat_Pc, flat_C, flat_O, flat_T]; rfl
  | drop i hs =>
    show (true && (D.flat (encI i) && (D.flat (encT hs) && true))) = true
    rw [flat_I, flat_T]; rfl
  | move i ms =>
    show (true && (D.flat (encI i) && (D.flatL (ms.map encM) && true))) = true
    rw [flat_I, flatL_M]; rfl
theorem nr1 {a : D} (h : D.flat a = true) : D.nrL [a] = true := by
  show (D.nr a && true) = true
  rw [D.nr_flat a h]; rfl
theorem nr2 {a b : D} (h : D.flat a = true) (h2 : D.flat b = true) : D.nrL [a, b] = true := by
  show (D.nr a && (D.nr b && true)) = true
  rw [D.nr_flat a h, D.nr_flat b h2]; rfl
theorem nrC {d : D} {ds : List D} (h : D.flat d = true) (h2 : D.nrL ds = true) : D.nrL (d :: ds) = true := by
  show (D.nr d && D.nrL ds) = true
  rw [D.nr_flat d h, h2]; rfl
theorem nrLs (ls : List Ln) {ds : List D} (h2 : D.nrL ds = true) : D.nrL (.lst (ls.map encL) :: ds) = true := by
  show (D.nrL (ls.map encL) && D.nrL ds) = true
  rw [nrL_L, h2]; rfl
/-! the functions -/
theorem find_line_fn (ls : List Ln) (o : Option Id) (h : CH) : d_find_line [.lst (ls.map encL), encO o] h = .ok (encOL (fline ls o)) h := by
  refine Good.fnE (ρ := [some (.lst (ls.map encL)), some (encO o), none]) ?_
  unfold b_find_line
  refine Good.seq (Good.find (en := encL) (xs := ls) (p := fun l => decide (some l.id = o)) (val := encL) (o := none) rfl trivial rfl (fun l _ => by simp only [sSeq, sIf, sB, sE, sAsg, sRet, sRetN, sNil, sExpr, sBrk, sCnt, gN, gT, gsC, gsN, FK.e1, FK.e2, eC, eVar, eCall, aNil, aCons, M.bind, M.pure, eTup, eLst, eNew, eSl, oNone, oSome, bT, bNot, bAnd, bOr, eAnd, eOr, eNot, eIf, eCh, truth, eMs, eMl, dSub, dMul, dFdiv, dMod, dLe, dLt, dGe, dGt, D.isNon, dSl, dLen, dInt, dOrd_one, dMax2, dMin2, dTuple, dList, dListC, dApp, dNeg, vw, seq, lstOf, fnD, List.map_cons, List.map_nil, List.length_cons, List.length_nil, List.cons_append, List.nil_append, List.append_nil, List.replicate_succ, List.replicate_zero, List.getElem?_cons_zero, List.getElem?_cons_succ, List.set_cons_zero, List.set_cons_succ, Int.cast_ofNat_Int, Nat.reduceBEq, Int.reduceBEq, Nat.reduceAdd, Nat.reduceSub, Nat.reduceLT, Nat.reduceLeDiff, Nat.zero_add, Nat.add_zero, Nat.sub_zero, Nat.sub_self, ↓reduceIte, if_true, if_false, Bool.not_true, Bool.not_false, Bool.false_eq_true, Bool.true_eq_false, decide_true, decide_false, decide_not, true_and, and_true, and_self, true_or, or_true, not_true_eq_false, not_false_eq_true, ne_eq, reduceCtorEq, Int.reduceLT, Int.reduceLE, Int.reduceNeg, Int.reduceSub, Int.reduceAdd, Int.reduceMul, Int.reducePow, Int.reduceToNat, sz, D.dat, D.datL, D.dep, D.depL, szl, inb, List.any_cons, List.any_nil, Bool.true_and, Bool.false_and, Bool.and_true, Bool.and_false, Bool.or_false, Bool.false_or, Bool.true_or, Bool.or_true, Nat.max_self, Nat.max_zero, Nat.zero_max, Nat.min_self, Nat.zero_le, Nat.min_zero, Nat.zero_min, iR1, iR2, rng1, rng2, iE, itOf, sFor, bYes, Option.isNone_some, Option.isSome_some, Option.isNone_none, Option.isSome_none, Option.some.injEq, dEq_int, dNe_int, dEq_II, dEq_OO, dEq_OI, dEq_IO, dEq_PP, dNe_PP, dIs_O, dIsnt_O, dIs_I, dIsnt_I, dIs_non, dIsnt_non, dIn_IT, dIn_IL, dIdx_tup, dIdx_lst, dIdx_scr, dAdd_int, atI0, atI1, atI2, atI3, atI4, atI5, vw_last, get_last, set_last, app_last, ix0, dEq_IO]) (fun l _ _ => rfl) (fun l e => ?_) (fun e => ?_))
  · unfold fline; rw [e]; exact ⟨rfl, rfl⟩
  · exact Good.rt rfl (by unfold fline; rw [e]; exact ⟨rfl, rfl⟩)
theorem find_line_L {ls : List Ln} {h : CH} {d : D} (hl : lstOf h d = some (ls.map encL)) (o : Option Id) : callP 2 d_find_line [d, encO o] h = .ok (encOL (fline ls o)) h := callP_lf hl (nrL_L ls) (nr1 (flat_O o)) (find_line_fn ls o []) (flat_OL _)
theorem find_line_ok (ls : List Ln) (o : Option Id) (h : CH) : callP 2 d_find_line [.lst (ls.map encL), encO o] h = .ok (encOL (fline ls o)) h := find_line_L rfl o
theorem find_line_okI (ls : List Ln) (i : Id) (h : CH) : callP 2 d_find_line [.lst (ls.map encL), encI i] h = .ok (encOL (fline ls (some i))) h := find_line_L rfl (some i)
theorem find_head_fn (ls : List Ln) (o : Option Id) (h : CH) : d_find_head [.lst (ls.map encL), encO o] h = .ok (encOL (fhead ls o)) h := by
  refine Good.fnE (ρ := [some (.lst (ls.map encL)), some (encO o), none]) ?_
  unfold b_find_head
  refine Good.seq (Good.find (en := encL) (xs := ls) (p := fun l => decide (some l.head = o)) (val := encL) (o := none) rfl trivial rfl (fun l _ => by simp only [sSeq, sIf, sB, sE, sAsg, sRet, sRetN, sNil, sExpr, sBrk, sCnt, gN, gT, gsC, gsN, FK.e1, FK.e2, eC, eVar, eCall, aNil, aCons, M.bind, M.pure, eTup, eLst, eNew, eSl, oNone, oSome, bT, bNot, bAnd, bOr, eAnd, eOr, eNot, eIf, eCh, truth, eMs, eMl, dSub, dMul, dFdiv, dMod, dLe, dLt, dGe, dGt, D.isNon, dSl, dLen, dInt, dOrd_one, dMax2, dMin2, dTuple, dList, dListC, dApp, dNeg, vw, seq, lstOf, fnD, List.map_cons, List.map_nil, List.length_cons, List.length_nil, List.cons_append, List.nil_append, List.append_nil, List.replicate_succ, List.replicate_zero, List.getElem?_cons_zero, List.getElem?_cons_succ, List.set_cons_zero, List.set_cons_succ, Int.cast_ofNat_Int, Nat.reduceBEq, Int.reduceBEq, Nat.reduceAdd, Nat.reduceSub, Nat.reduceLT, Nat.reduceLeDiff, Nat.zero_add, Nat.add_zero, Nat.sub_zero, Nat.sub_self, ↓reduceIte, if_true, if_false, Bool.not_true, Bool.not_false, Bool.false_eq_true, Bool.true_eq_false, decide_true, decide_false, decide_not, true_and, and_true, and_self, true_or, or_true, not_true_eq_false, not_false_eq_true, ne_eq, reduceCtorEq, Int.reduceLT, Int.reduceLE, Int.reduceNeg, Int.reduceSub, Int.reduceAdd, Int.reduceMul, Int.reducePow, Int.reduceToNat, sz, D.dat, D.datL, D.dep, D.depL, szl, inb, List.any_cons, List.any_nil, Bool.true_and, Bool.false_and, Bool.and_true, Bool.and_false, Bool.or_false, Bool.false_or, Bool.true_or, Bool.or_true, Nat.max_self, Nat.max_zero, Nat.zero_max, Nat.min_self, Nat.zero_le, Nat.min_zero, Nat.zero_min, iR1, iR2, rng1, rng2, iE, itOf, sFor, bYes, Option.isNone_some, Option.isSome_some, Option.isNone_none, Option.isSome_none, Option.some.injEq, dEq_int, dNe_int, dEq_II, dEq_OO, dEq_OI, dEq_IO, dEq_PP, dNe_PP, dIs_O, dIsnt_O, dIs_I, dIsnt_I, dIs_non, dIsnt_non, dIn_IT, dIn_IL, dIdx_tup, dIdx_lst, dIdx_scr, dAdd_int, atI0, atI1, atI2, atI3, atI4, atI5, vw_last, get_last, set_last, app_last, ix1, dEq_IO]) (fun l _ _ => rfl) (fun l e => ?_) (fun e => ?_))
  · unfold fhead; rw [e]; exact ⟨rfl, rfl⟩
  · exact Good.rt rfl (by unfold fhead; rw [e]; exact ⟨rfl, rfl⟩)
theorem find_head_L {ls : List Ln} {h : CH} {d : D} (hl : lstOf h d = some (ls.map encL)) (o : Option Id) : callP 2 d_find_head [d, encO o] h = .ok (encOL (fhead ls o)) h := callP_lf hl (nrL_L ls) (nr1 (flat_O o)) (find_head_fn ls o []) (flat_OL _)
theorem find_head_ok (ls : List Ln) (o : Option Id) (h : CH) : callP 2 d_find_head [.lst (ls.map encL), encO o] h = .ok (encOL (fhead ls o)) h := find_head_L rfl o
theorem find_folder_fn (ls : List Ln) (o : Option Id) (h : CH) : d_find_folder [.lst (ls.map encL), encO o] h = .ok (encOL (ffold ls o)) h := by
  unfold d_find_folder b_find_folder
  unfold ffold
  cases e : fline ls o with
  | none => simp only [sSeq, sIf, sB, sE, sAsg, sRet, sRetN, sNil, sExpr, sBrk, sCnt, gN, gT, gsC, gsN, FK.e1, FK.e2, eC, eVar, eCall, aNil, aCons, M.bind, M.pure, eTup, eLst, eNew, eSl, oNone, oSome, bT, bNot, bAnd, bOr, eAnd, eOr, eNot, eIf, eCh, truth, eMs, eMl, dSub, dMul, dFdiv, dMod, dLe, dLt, dGe, dGt, D.isNon, dSl, dLen, dInt, dOrd_one, dMax2, dMin2, dTuple, dList, dListC, dApp, dNeg, vw, seq, lstOf, fnD, List.map_cons, List.map_nil, List.length_cons, List.length_nil, List.cons_append, List.nil_append, List.append_nil, List.replicate_succ, List.replicate_zero, List.getElem?_cons_zero, List.getElem?_cons_succ, List.set_cons_zero, List.set_cons_succ, Int.cast_ofNat_Int, Nat.reduceBEq, Int.reduceBEq, Nat.reduceAdd, Nat.reduceSub, Nat.reduceLT, Nat.reduceLeDiff, Nat.zero_add, Nat.add_zero, Nat.sub_zero, Nat.sub_self, ↓reduceIte, if_true, if_false, Bool.not_true, Bool.not_false, Bool.false_eq_true, Bool.true_eq_false, decide_true, decide_false, decide_not, true_and, and_true, and_self, true_or, or_true, not_true_eq_false, not_false_eq_true, ne_eq, reduceCtorEq, Int.reduceLT, Int.reduceLE, Int.reduceNeg, Int.reduceSub, Int.reduceAdd, Int.reduceMul, Int.reducePow, Int.reduceToNat, sz, D.dat, D.datL, D.dep, D.depL, szl, inb, List.any_cons, List.any_nil, Bool.true_and, Bool.false_and, Bool.and_true, Bool.and_false, Bool.or_false, Bool.false_or, Bool.true_or, Bool.or_true, Nat.max_self, Nat.max_zero, Nat.zero_max, Nat.min_self, Nat.zero_le, Nat.min_zero, Nat.zero_min, iR1, iR2, rng1, rng2, iE, itOf, sFor, bYes, Option.isNone_some, Option.isSome_some, Option.isNone_none, Option.isSome_none, Option.some.injEq, dEq_int, dNe_int, dEq_II, dEq_OO, dEq_OI, dEq_IO, dEq_PP, dNe_PP, dIs_O, dIsnt_O, dIs_I, dIsnt_I, dIs_non, dIsnt_non, dIn_IT, dIn_IL, dIdx_tup, dIdx_lst, dIdx_scr, dAdd_int, atI0, atI1, atI2, atI3, atI4, atI5, vw_last, get_last, set_last, app_last, find_line_ok, e, encOL]
  | some l =>
    by_cases q : l.ct = none
    · simp only [sSeq, sIf, sB, sE, sAsg, sRet, sRetN, sNil, sExpr, sBrk, sCnt, gN, gT, gsC, gsN, FK.e1, FK.e2, eC, eVar, eCall, aNil, aCons, M.bind, M.pure, eTup, eLst, eNew, eSl, oNone, oSome, bT, bNot, bAnd, bOr, eAnd, eOr, eNot, eIf, eCh, truth, eMs, eMl, dSub, dMul, dFdiv, dMod, dLe, dLt, dGe, dGt, D.isNon, dSl, dLen, dInt, dOrd_one, dMax2, dMin2, dTuple, dList, dListC, dApp, dNeg, vw, seq, lstOf, fnD, List.map_cons, List.map_nil, List.length_cons, List.length_nil, List.cons_append, List.nil_append, List.append_nil, List.replicate_succ, List.replicate_zero, List.getElem?_cons_zero, List.getElem?_cons_succ, List.set_cons_zero, List.set_cons_succ, Int.cast_ofNat_Int, Nat.reduceBEq, Int.reduceBEq, Nat.reduceAdd, Nat.reduceSub, Nat.reduceLT, Nat.reduceLeDiff, Nat.zero_add, Nat.add_zero, Nat.sub_zero, Nat.sub_self, ↓reduceIte, if_true, if_false, Bool.not_true, Bool.not_false, Bool.false_eq_true, Bool.true_eq_false, decide_true, decide_false, decide_not, true_and, and_true, and_self, true_or, or_true, not_true_eq_false, not_false_eq_true, ne_eq, reduceCtorEq, Int.reduceLT, Int.reduceLE, Int.reduceNeg, Int.reduceSub, Int.reduceAdd, Int.reduceMul, Int.reducePow, Int.reduceToNat, sz, D.dat, D.datL, D.dep, D.depL, szl, inb, List.any_cons, List.any_nil, Bool.true_and, Bool.false_and, Bool.and_true, Bool.and_false, Bool.or_false, Bool.false_or, Bool.true_or, Bool.or_true, Nat.max_self, Nat.max_zero, Nat.zero_max, Nat.min_self, Nat.zero_le, Nat.min_zero, Nat.zero_min, iR1, iR2, rng1, rng2, iE, itOf, sFor, bYes, Option.isNone_some, Option.isSome_some, Option.isNone_none, Option.isSome_none, Option.some.injEq, dEq_int, dNe_int, dEq_II, dEq_OO, dEq_OI, dEq_IO, dEq_PP, dNe_PP, dIs_O, dIsnt_O, dIs_I, dIsnt_I, dIs_non, dIsnt_non, dIn_IT, dIn_IL, dIdx_tup, dIdx_lst, dIdx_scr, dAdd_int, atI0, atI1, atI2, atI3, atI4, atI5, vw_last, get_last, set_last, app_last, find_line_ok, e, encOL, dIsnt_L, q, ix4, encC]
    · cases qc : l.ct with
      | none => exact absurd qc q
      | some m => simp only [sSeq, sIf, sB, sE, sAsg, sRet, sRetN, sNil, sExpr, sBrk, sCnt, gN, gT, gsC, gsN, FK.e1, FK.e2, eC, eVar, eCall, aNil, aCons, M.bind, M.pure, eTup, eLst, eNew, eSl, oNone, oSome, bT, bNot, bAnd, bOr, eAnd, eOr, eNot, eIf, eCh, truth, eMs, eMl, dSub, dMul, dFdiv, dMod, dLe, dLt, dGe, dGt, D.isNon, dSl, dLen, dInt, dOrd_one, dMax2, dMin2, dTuple, dList, dListC, dApp, dNeg, vw, seq, lstOf, fnD, List.map_cons, List.map_nil, List.length_cons, List.length_nil, List.cons_append, List.nil_append, List.append_nil, List.replicate_succ, List.replicate_zero, List.getElem?_cons_zero, List.getElem?_cons_succ, List.set_cons_zero, List.set_cons_succ, Int.cast_ofNat_Int, Nat.reduceBEq, Int.reduceBEq, Nat.reduceAdd, Nat.reduceSub, Nat.reduceLT, Nat.reduceLeDiff, Nat.zero_add, Nat.add_zero, Nat.sub_zero, Nat.sub_self, ↓reduceIte, if_true, if_false, Bool.not_true, Bool.not_false, Bool.false_eq_true, Bool.true_eq_false, decide_true, decide_false, decide_not, true_and, and_true, and_self, true_or, or_true, not_true_eq_false, not_false_eq_true, ne_eq, reduceCtorEq, Int.reduceLT, Int.reduceLE, Int.reduceNeg, Int.reduceSub, Int.reduceAdd, Int.reduceMul, Int.reducePow, Int.reduceToNat, sz, D.dat, D.datL, D.dep, D.depL, szl, inb, List.any_cons, List.any_nil, Bool.true_and, Bool.false_and, Bool.and_true, Bool.and_false, Bool.or_false, Bool.false_or, Bool.true_or, Bool.or_true, Nat.max_self, Nat.max_zero, Nat.zero_max, Nat.min_self, Nat.zero_le, Nat.min_zero, Nat.zero_min, iR1, iR2, rng1, rng2, iE, itOf, sFor, bYes, Option.isNone_some, Option.isSome_some, Option.isNone_none, Option.isSome_none, Option.some.injEq, dEq_int, dNe_int, dEq_II, dEq_OO, dEq_OI, dEq_IO, dEq_PP, dNe_PP, dIs_O, dIsnt_O, dIs_I, dIsnt_I, dIs_non, dIsnt_non, dIn_IT, dIn_IL, dIdx_tup, dIdx_lst, dIdx_scr, dAdd_int, atI0, atI1, atI2, atI3, atI4, atI5, vw_last, get_last, set_last, app_last, find_line_ok, e, encOL, dIsnt_L, ix4, dIs_C, qc, Option.isNone_some]
theorem find_folder_L {ls : List Ln} {h : CH} {d : D} (hl : lstOf h d = some (ls.map encL)) (o : Option Id) : callP 2 d_find_folder [d, encO o] h = .ok (encOL (ffold ls o)) h := callP_lf hl (nrL_L ls) (nr1 (flat_O o)) (find_folder_fn ls o []) (flat_OL _)
theorem find_folder_ok (ls : List Ln) (o : Option Id) (h : CH) : callP 2 d_find_folder [.lst (ls.map encL), encO o] h = .ok (encOL (ffold ls o)) h := find_folder_L rfl o
theorem find_folder_okI (ls : List Ln) (i : Id) (h : CH) : callP 2 d_find_folder [.lst (ls.map encL), encI i] h = .ok (encOL (ffold ls (some i))) h := find_folder_L rfl (some i)
def encS (s : Option Id × List Str) : D := .tup [encO s.1, encP s.2]
theorem flat_S (s : Option Id × List Str) : D.flat (encS s) = true := by
  show (D.flat (encO s.1) && (D.flat (encP s.2) && true)) = true
  rw [flat_O, flat_P]; rfl
theorem settle_fn (ls : List Ln) (p : Pc) (h : CH) : d_settle [.lst (ls.map encL), encPc p] h = .ok (encS (settleF ls p)) h := by
  unfold d_settle b_settle settleF encPc encS
  cases e : p.ins with
  | none => simp only [sSeq, sIf, sB, sE, sAsg, sRet, sRetN, sNil, sExpr, sBrk, sCnt, gN, gT, gsC, gsN, FK.e1, FK.e2, eC, eVar, eCall, aNil, aCons, M.bind, M.pure, eTup, eLst, eNew, eSl, oNone, oSome, bT, bNot, bAnd, bOr, eAnd, eOr, eNot, eIf, eCh, truth, eMs, eMl, dSub, dMul, dFdiv, dMod, dLe, dLt, dGe, dGt, D.isNon, dSl, dLen, dInt, dOrd_one, dMax2, dMin2, dTuple, dList, dListC, dApp, dNeg, vw, seq, lstOf, fnD, List.map_cons, List.map_nil, List.length_cons, List.length_nil, List.cons_append, List.nil_append, List.append_nil, List.replicate_succ, List.replicate_zero, List.getElem?_cons_zero, List.getElem?_cons_succ, List.set_cons_zero, List.set_cons_succ, Int.cast_ofNat_Int, Nat.reduceBEq, Int.reduceBEq, Nat.reduceAdd, Nat.reduceSub, Nat.reduceLT, Nat.reduceLeDiff, Nat.zero_add, Nat.add_zero, Nat.sub_zero, Nat.sub_self, ↓reduceIte, if_true, if_false, Bool.not_true, Bool.not_false, Bool.false_eq_true, Bool.true_eq_false, decide_true, decide_false, decide_not, true_and, and_true, and_self, true_or, or_true, not_true_eq_false, not_false_eq_true, ne_eq, reduceCtorEq, Int.reduceLT, Int.reduceLE, Int.reduceNeg, Int.reduceSub, Int.reduceAdd, Int.reduceMul, Int.reducePow, Int.reduceToNat, sz, D.dat, D.datL, D.dep, D.depL, szl, inb, List.any_cons, List.any_nil, Bool.true_and, Bool.false_and, Bool.and_true, Bool.and_false, Bool.or_false, Bool.false_or, Bool.true_or, Bool.or_true, Nat.max_self, Nat.max_zero, Nat.zero_max, Nat.min_self, Nat.zero_le, Nat.min_zero, Nat.zero_min, iR1, iR2, rng1, rng2, iE, itOf, sFor, bYes, Option.isNone_some, Option.isSome_some, Option.isNone_none, Option.isSome_none, Option.some.injEq, dEq_int, dNe_int, dEq_II, dEq_OO, dEq_OI, dEq_IO, dEq_PP, dNe_PP, dIs_O, dIsnt_O, dIs_I, dIsnt_I, dIs_non, dIsnt_non, dIn_IT, dIn_IL, dIdx_tup, dIdx_lst, dIdx_scr, dAdd_int, atI0, atI1, atI2, atI3, atI4, atI5, vw_last, get_last, set_last, app_last, dIsnt_O, Option.isSome_none, encO, false_and]
  | some i =>
    cases q : ffold ls (some i) with
    | none => simp only [sSeq, sIf, sB, sE, sAsg, sRet, sRetN, sNil, sExpr, sBrk, sCnt, gN, gT, gsC, gsN, FK.e1, FK.e2, eC, eVar, eCall, aNil, aCons, M.bind, M.pure, eTup, eLst, eNew, eSl, oNone, oSome, bT, bNot, bAnd, bOr, eAnd, eOr, eNot, eIf, eCh, truth, eMs, eMl, dSub, dMul, dFdiv, dMod, dLe, dLt, dGe, dGt, D.isNon, dSl, dLen, dInt, dOrd_one, dMax2, dMin2, dTuple, dList, dListC, dApp, dNeg, vw, seq, lstOf, fnD, List.map_cons, List.map_nil, List.length_cons, List.length_nil, List.cons_append, List.nil_append, List.append_nil, List.replicate_succ, List.replicate_zero, List.getElem?_cons_zero, List.getElem?_cons_succ, List.set_cons_zero, List.set_cons_succ, Int.cast_ofNat_Int, Nat.reduceBEq, Int.reduceBEq, Nat.reduceAdd, Nat.reduceSub, Nat.reduceLT, Nat.reduceLeDiff, Nat.zero_add, Nat.add_zero, Nat.sub_zero, Nat.sub_self, ↓reduceIte, if_true, if_false, Bool.not_true, Bool.not_false, Bool.false_eq_true, Bool.true_eq_false, decide_true, decide_false, decide_not, true_and, and_true, and_self, true_or, or_true, not_true_eq_false, not_false_eq_true, ne_eq, reduceCtorEq, Int.reduceLT, Int.reduceLE, Int.reduceNeg, Int.reduceSub, Int.reduceAdd, Int.reduceMul, Int.reducePow, Int.reduceToNat, sz, D.dat, D.datL, D.dep, D.depL, szl, inb, List.any_cons, List.any_nil, Bool.true_and, Bool.false_and, Bool.and_true, Bool.and_false, Bool.or_false, Bool.false_or, Bool.true_or, Bool.or_true, Nat.max_self, Nat.max_zero, Nat.zero_max, Nat.min_self, Nat.zero_le, Nat.min_zero, Nat.zero_min, iR1, iR2, rng1, rng2, iE, itOf, sFor, bYes, Option.isNone_some, Option.isSome_some, Option.isNone_none, Option.isSome_none, Option.some.injEq, dEq_int, dNe_int, dEq_II, dEq_OO, dEq_OI, dEq_IO, dEq_PP, dNe_PP, dIs_O, dIsnt_O, dIs_I, dIsnt_I, dIs_non, dIsnt_non, dIn_IT, dIn_IL, dIdx_tup, dIdx_lst, dIdx_scr, dAdd_int, atI0, atI1, atI2, atI3, atI4, atI5, vw_last, get_last, set_last, app_last, dIsnt_O, find_folder_ok, find_folder_okI, e, q, dIsnt_OL, encO, Option.isSome_none, Option.isSome_some, and_false, isNon_I]
    | some f => simp only [sSeq, sIf, sB, sE, sAsg, sRet, sRetN, sNil, sExpr, sBrk, sCnt, gN, gT, gsC, gsN, FK.e1, FK.e2, eC, eVar, eCall, aNil, aCons, M.bind, M.pure, eTup, eLst, eNew, eSl, oNone, oSome, bT, bNot, bAnd, bOr, eAnd, eOr, eNot, eIf, eCh, truth, eMs, eMl, dSub, dMul, dFdiv, dMod, dLe, dLt, dGe, dGt, D.isNon, dSl, dLen, dInt, dOrd_one, dMax2, dMin2, dTuple, dList, dListC, dApp, dNeg, vw, seq, lstOf, fnD, List.map_cons, List.map_nil, List.length_cons, List.length_nil, List.cons_append, List.nil_append, List.append_nil, List.replicate_succ, List.replicate_zero, List.getElem?_cons_zero, List.getElem?_cons_succ, List.set_cons_zero, List.set_cons_succ, Int.cast_ofNat_Int, Nat.reduceBEq, Int.reduceBEq, Nat.reduceAdd, Nat.reduceSub, Nat.reduceLT, Nat.reduceLeDiff, Nat.zero_add, Nat.add_zero, Nat.sub_zero, Nat.sub_self, ↓reduceIte, if_true, if_false, Bool.not_true, Bool.not_false, Bool.false_eq_true, Bool.true_eq_false, decide_true, decide_false, decide_not, true_and, and_true, and_self, true_or, or_true, not_true_eq_false, not_false_eq_true, ne_eq, reduceCtorEq, Int.reduceLT, Int.reduceLE, Int.reduceNeg, Int.reduceSub, Int.reduceAdd, Int.reduceMul, Int.reducePow, Int.reduceToNat, sz, D.dat, D.datL, D.dep, D.depL, szl, inb, List.any_cons, List.any_nil, Bool.true_and, Bool.false_and, Bool.and_true, Bool.and_false, Bool.or_false, Bool.false_or, Bool.true_or, Bool.or_true, Nat.max_self, Nat.max_zero, Nat.zero_max, Nat.min_self, Nat.zero_le, Nat.min_zero, Nat.zero_min, iR1, iR2, rng1, rng2, iE, itOf, sFor, bYes, Option.isNone_some, Option.isSome_some, Option.isNone_none, Option.isSome_none, Option.some.injEq, dEq_int, dNe_int, dEq_II, dEq_OO, dEq_OI, dEq_IO, dEq_PP, dNe_PP, dIs_O, dIsnt_O, dIs_I, dIsnt_I, dIs_non, dIsnt_non, dIn_IT, dIn_IL, dIdx_tup, dIdx_lst, dIdx_scr, dAdd_int, atI0, atI1, atI2, atI3, atI4, atI5, vw_last, get_last, set_last, app_last, dIsnt_O, find_folder_ok, find_folder_okI, e, q, dIsnt_OL, encO, Option.isSome_none, Option.isSome_some, and_true, isNon_I]
theorem settle_ok (ls : List Ln) (p : Pc) (h : CH) : callP 2 d_settle [.lst (ls.map encL), encPc p] h = .ok (encS (settleF ls p)) h := callP_lf rfl (nrL_L ls) (nr1 (flat_Pc p)) (settle_fn ls p []) (flat_S _)
theorem eNew_none (ρ : Env) (h : CH) : eNew aNil ρ h = .ok (.ref h.length) (h ++ [.lst []]) := eNew_nil ρ h
def stStep (ls : List Ln) (x : Id) (s : Option Id) (_ : Nat) : Stp (Option Id) := match s with
  | none => .ret (.bl false)
  | some i => if i = x then .ret (.bl true) else match ffold ls (some i) with
    | none => .ret (.bl false)
    | some f => .go f.ins
theorem run_stands (ls : List Ln) (x : Id) : ∀ (ks : List Nat) (s : Option Id), (∀ d s', runX (stStep ls x) ks s = .inl (d, s') → d = .bl (standsIn ls x ks.length s)) ∧ (∀ s', runX (stStep ls x) ks s = .inr s' → standsIn ls x ks.length s = false)
  | [], s => ⟨fun d s' e => (nomatch e), fun s' _ => rfl⟩
  | k :: ks, none => ⟨fun d s' e => (by cases e; rfl), fun s' e => (nomatch e)⟩
  | k :: ks, some i => by
    unfold runX stStep
    rw [List.length_cons]
    unfold standsIn
    dsimp only
    by_cases h : i = x
    · rw [if_pos h, if_pos h]; exact ⟨fun d s' e => (by cases e; rfl), fun s' e => (nomatch e)⟩
    · rw [if_neg h, if_neg h]
      cases ffold ls (some i) with
      | none => exact ⟨fun d s' e => (by cases e; rfl), fun s' e => (nomatch e)⟩
      | some f => exact run_stands ls x ks f.ins
theorem stands_in_fn (ls : List Ln) (o : Option Id) (x : Id) (hl : ls.length ≤ 1000000) : d_stands_in [.lst (ls.map encL), encO o, encI x] [] = .ok (.bl (standsIn ls x (ls.length + 1) o)) [] := by
  refine Good.fnE (ρ := [some (.lst (ls.map encL)), some (encO o), some (encI x), none, none]) ?_
  unfold b_stands_in
  have hr : inR ((ls.length : Int) + 1) := ⟨by omega, by omega⟩
  obtain ⟨q1, q2⟩ := run_stands ls x (List.range (ls.length + 1)) o
  rw [List.length_range] at q1 q2
  refine Good.seq (Good.run (en := fun k : Nat => D.int (k : Int)) (xs := List.range (ls.length + 1)) (stStep ls x) (hh := fun _ => []) (o := none) (fun s ρ => ∃ y z, ρ = [some (.lst (ls.map encL)), some (encO s), some (encI x), y, z]) o ?_ (fun _ => trivial) ⟨none, none, rfl⟩ ?_ (fun d s' e => ⟨q1 d s' e, rfl⟩) ?_)
  · rw [← rangeD_nat]
    simp only [sSeq, sIf, sB, sE, sAsg, sRet, sRetN, sNil, sExpr, sBrk, sCnt, gN, gT, gsC, gsN, FK.e1, FK.e2, eC, eVar, eCall, aNil, aCons, M.bind, M.pure, eTup, eLst, eNew, eSl, oNone, oSome, bT, bNot, bAnd, bOr, eAnd, eOr, eNot, eIf, eCh, truth, eMs, eMl, dSub, dMul, dFdiv, dMod, dLe, dLt, dGe, dGt, D.isNon, dSl, dLen, dInt, dOrd_one, dMax2, dMin2, dTuple, dList, dListC, dApp, dNeg, vw, seq, lstOf, fnD, List.map_cons, List.map_nil, List.length_cons, List.length_nil, List.cons_append, List.nil_append, List.append_nil, List.replicate_succ, List.replicate_zero, List.getElem?_cons_zero, List.getElem?_cons_succ, List.set_cons_zero, List.set_cons_succ, Int.cast_ofNat_Int, Nat.reduceBEq, Int.reduceBEq, Nat.reduceAdd, Nat.reduceSub, Nat.reduceLT, Nat.reduceLeDiff, Nat.zero_add, Nat.add_zero, Nat.sub_zero, Nat.sub_self, ↓reduceIte, if_true, if_false, Bool.not_true, Bool.not_false, Bool.false_eq_true, Bool.true_eq_false, decide_true, decide_false, decide_not, true_and, and_true, and_self, true_or, or_true, not_true_eq_false, not_false_eq_true, ne_eq, reduceCtorEq, Int.reduceLT, Int.reduceLE, Int.reduceNeg, Int.reduceSub, Int.reduceAdd, Int.reduceMul, Int.reducePow, Int.reduceToNat, sz, D.dat, D.datL, D.dep, D.depL, szl, inb, List.any_cons, List.any_nil, Bool.true_and, Bool.false_and, Bool.and_true, Bool.and_false, Bool.or_false, Bool.false_or, Bool.true_or, Bool.or_true, Nat.max_self, Nat.max_zero, Nat.zero_max, Nat.min_self, Nat.zero_le, Nat.min_zero, Nat.zero_min, iR1, iR2, rng1, rng2, iE, itOf, sFor, bYes, Option.isNone_some, Option.isSome_some, Option.isNone_none, Option.isSome_none, Option.some.injEq, dEq_int, dNe_int, dEq_II, dEq_OO, dEq_OI, dEq_IO, dEq_PP, dNe_PP, dIs_O, dIsnt_O, dIs_I, dIsnt_I, dIs_non, dIsnt_non, dIn_IT, dIn_IL, dIdx_tup, dIdx_lst, dIdx_scr, dAdd_int, atI0, atI1, atI2, atI3, atI4, atI5, vw_last, get_last, set_last, app_last, List.length_map, if_pos hr]
    rfl
  · rintro k hk s ρ ⟨y, z, rfl⟩
    refine ⟨_, rfl, ?_⟩
    unfold stStep
    cases s with
    | none => exact ⟨_, by simp only [sSeq, sIf, sB, sE, sAsg, sRet, sRetN, sNil, sExpr, sBrk, sCnt, gN, gT, gsC, gsN, FK.e1, FK.e2, eC, eVar, eCall, aNil, aCons, M.bind, M.pure, eTup, eLst, eNew, eSl, oNone, oSome, bT, bNot, bAnd, bOr, eAnd, eOr, eNot, eIf, eCh, truth, eMs, eMl, dSub, dMul, dFdiv, dMod, dLe, dLt, dGe, dGt, D.isNon, dSl, dLen, dInt, dOrd_one, dMax2, dMin2, dTuple, dList, dListC, dApp, dNeg, vw, seq, lstOf, fnD, List.map_cons, List.map_nil, List.length_cons, List.length_nil, List.cons_append, List.nil_append, List.append_nil, List.replicate_succ, List.replicate_zero, List.getElem?_cons_zero, List.getElem?_cons_succ, List.set_cons_zero, List.set_cons_succ, Int.cast_ofNat_Int, Nat.reduceBEq, Int.reduceBEq, Nat.reduceAdd, Nat.reduceSub, Nat.reduceLT, Nat.reduceLeDiff, Nat.zero_add, Nat.add_zero, Nat.sub_zero, Nat.sub_self, ↓reduceIte, if_true, if_false, Bool.not_true, Bool.not_false, Bool.false_eq_true, Bool.true_eq_false, decide_true, decide_false, decide_not, true_and, and_true, and_self, true_or, or_true, not_true_eq_false, not_false_eq_true, ne_eq, reduceCtorEq, Int.reduceLT, Int.reduceLE, Int.reduceNeg, Int.reduceSub, Int.reduceAdd, Int.reduceMul, Int.reducePow, Int.reduceToNat, sz, D.dat, D.datL, D.dep, D.depL, szl, inb, List.any_cons, List.any_nil, Bool.true_and, Bool.false_and, Bool.and_true, Bool.and_false, Bool.or_false, Bool.false_or, Bool.true_or, Bool.or_true, Nat.max_self, Nat.max_zero, Nat.zero_max, Nat.min_self, Nat.zero_le, Nat.min_zero, Nat.zero_min, iR1, iR2, rng1, rng2, iE, itOf, sFor, bYes, Option.isNone_some, Option.isSome_some, Option.isNone_none, Option.isSome_none, Option.some.injEq, dEq_int, dNe_int, dEq_II, dEq_OO, dEq_OI, dEq_IO, dEq_PP, dNe_PP, dIs_O, dIsnt_O, dIs_I, dIsnt_I, dIs_non, dIsnt_non, dIn_IT, dIn_IL, dIdx_tup, dIdx_lst, dIdx_scr, dAdd_int, atI0, atI1, atI2, atI3, atI4, atI5, vw_last, get_last, set_last, app_last]; rfl⟩
    | some i =>
      by_cases h : i = x
      · dsimp only; rw [if_pos h]; exact ⟨_, by simp only [sSeq, sIf, sB, sE, sAsg, sRet, sRetN, sNil, sExpr, sBrk, sCnt, gN, gT, gsC, gsN, FK.e1, FK.e2, eC, eVar, eCall, aNil, aCons, M.bind, M.pure, eTup, eLst, eNew, eSl, oNone, oSome, bT, bNot, bAnd, bOr, eAnd, eOr, eNot, eIf, eCh, truth, eMs, eMl, dSub, dMul, dFdiv, dMod, dLe, dLt, dGe, dGt, D.isNon, dSl, dLen, dInt, dOrd_one, dMax2, dMin2, dTuple, dList, dListC, dApp, dNeg, vw, seq, lstOf, fnD, List.map_cons, List.map_nil, List.length_cons, List.length_nil, List.cons_append, List.nil_append, List.append_nil, List.replicate_succ, List.replicate_zero, List.getElem?_cons_zero, List.getElem?_cons_succ, List.set_cons_zero, List.set_cons_succ, Int.cast_ofNat_Int, Nat.reduceBEq, Int.reduceBEq, Nat.reduceAdd, Nat.reduceSub, Nat.reduceLT, Nat.reduceLeDiff, Nat.zero_add, Nat.add_zero, Nat.sub_zero, Nat.sub_self, ↓reduceIte, if_true, if_false, Bool.not_true, Bool.not_false, Bool.false_eq_true, Bool.true_eq_false, decide_true, decide_false, decide_not, true_and, and_true, and_self, true_or, or_true, not_true_eq_false, not_false_eq_true, ne_eq, reduceCtorEq, Int.reduceLT, Int.reduceLE, Int.reduceNeg, Int.reduceSub, Int.reduceAdd, Int.reduceMul, Int.reducePow, Int.reduceToNat, sz, D.dat, D.datL, D.dep, D.depL, szl, inb, List.any_cons, List.any_nil, Bool.true_and, Bool.false_and, Bool.and_true, Bool.and_false, Bool.or_false, Bool.false_or, Bool.true_or, Bool.or_true, Nat.max_self, Nat.max_zero, Nat.zero_max, Nat.min_self, Nat.zero_le, Nat.min_zero, Nat.zero_min, iR1, iR2, rng1, rng2, iE, itOf, sFor, bYes, Option.isNone_some, Option.isSome_some, Option.isNone_none, Option.isSome_none, Option.some.injEq, dEq_int, dNe_int, dEq_II, dEq_OO, dEq_OI, dEq_IO, dEq_PP, dNe_PP, dIs_O, dIsnt_O, dIs_I, dIsnt_I, dIs_non, dIsnt_non, dIn_IT, dIn_IL, dIdx_tup, dIdx_lst, dIdx_scr, dAdd_int, atI0, atI1, atI2, atI3, atI4, atI5, vw_last, get_last, set_last, app_last, h]; rfl⟩
      · dsimp only
        rw [if_neg h]
        cases e : ffold ls (some i) with
        | none => exact ⟨_, by simp only [sSeq, sIf, sB, sE, sAsg, sRet, sRetN, sNil, sExpr, sBrk, sCnt, gN, gT, gsC, gsN, FK.e1, FK.e2, eC, eVar, eCall, aNil, aCons, M.bind, M.pure, eTup, eLst, eNew, eSl, oNone, oSome, bT, bNot, bAnd, bOr, eAnd, eOr, eNot, eIf, eCh, truth, eMs, eMl, dSub, dMul, dFdiv, dMod, dLe, dLt, dGe, dGt, D.isNon, dSl, dLen, dInt, dOrd_one, dMax2, dMin2, dTuple, dList, dListC, dApp, dNeg, vw, seq, lstOf, fnD, List.map_cons, List.map_nil, List.length_cons, List.length_nil, List.cons_append, List.nil_append, List.append_nil, List.replicate_succ, List.replicate_zero, List.getElem?_cons_zero, List.getElem?_cons_succ, List.set_cons_zero, List.set_cons_succ, Int.cast_ofNat_Int, Nat.reduceBEq, Int.reduceBEq, Nat.reduceAdd, Nat.reduceSub, Nat.reduceLT, Nat.reduceLeDiff, Nat.zero_add, Nat.add_zero, Nat.sub_zero, Nat.sub_self, ↓reduceIte, if_true, if_false, Bool.not_true, Bool.not_false, Bool.false_eq_true, Bool.true_eq_false, decide_true, decide_false, decide_not, true_and, and_true, and_self, true_or, or_true, not_true_eq_false, not_false_eq_true, ne_eq, reduceCtorEq, Int.reduceLT, Int.reduceLE, Int.reduceNeg, Int.reduceSub, Int.reduceAdd, Int.reduceMul, Int.reducePow, Int.reduceToNat, sz, D.dat, D.datL, D.dep, D.depL, szl, inb, List.any_cons, List.any_nil, Bool.true_and, Bool.false_and, Bool.and_true, Bool.and_false, Bool.or_false, Bool.false_or, Bool.true_or, Bool.or_true, Nat.max_self, Nat.max_zero, Nat.zero_max, Nat.min_self, Nat.zero_le, Nat.min_zero, Nat.zero_min, iR1, iR2, rng1, rng2, iE, itOf, sFor, bYes, Option.isNone_some, Option.isSome_some, Option.isNone_none, Option.isSome_none, Option.some.injEq, dEq_int, dNe_int, dEq_II, dEq_OO, dEq_OI, dEq_IO, dEq_PP, dNe_PP, dIs_O, dIsnt_O, dIs_I, dIsnt_I, dIs_non, dIsnt_non, dIn_IT, dIn_IL, dIdx_tup, dIdx_lst, dIdx_scr, dAdd_int, atI0, atI1, atI2, atI3, atI4, atI5, vw_last, get_last, set_last, app_last, h, find_folder_ok, e, encOL, Option.isNone_some, Option.some.injEq]; rfl⟩
        | some f => exact ⟨_, .inl (by simp only [sSeq, sIf, sB, sE, sAsg, sRet, sRetN, sNil, sExpr, sBrk, sCnt, gN, gT, gsC, gsN, FK.e1, FK.e2, eC, eVar, eCall, aNil, aCons, M.bind, M.pure, eTup, eLst, eNew, eSl, oNone, oSome, bT, bNot, bAnd, bOr, eAnd, eOr, eNot, eIf, eCh, truth, eMs, eMl, dSub, dMul, dFdiv, dMod, dLe, dLt, dGe, dGt, D.isNon, dSl, dLen, dInt, dOrd_one, dMax2, dMin2, dTuple, dList, dListC, dApp, dNeg, vw, seq, lstOf, fnD, List.map_cons, List.map_nil, List.length_cons, List.length_nil, List.cons_append, List.nil_append, List.append_nil, List.replicate_succ, List.replicate_zero, List.getElem?_cons_zero, List.getElem?_cons_succ, List.set_cons_zero, List.set_cons_succ, Int.cast_ofNat_Int, Nat.reduceBEq, Int.reduceBEq, Nat.reduceAdd, Nat.reduceSub, Nat.reduceLT, Nat.reduceLeDiff, Nat.zero_add, Nat.add_zero, Nat.sub_zero, Nat.sub_self, ↓reduceIte, if_true, if_false, Bool.not_true, Bool.not_false, Bool.false_eq_true, Bool.true_eq_false, decide_true, decide_false, decide_not, true_and, and_true, and_self, true_or, or_true, not_true_eq_false, not_false_eq_true, ne_eq, reduceCtorEq, Int.reduceLT, Int.reduceLE, Int.reduceNeg, Int.reduceSub, Int.reduceAdd, Int.reduceMul, Int.reducePow, Int.reduceToNat, sz, D.dat, D.datL, D.dep, D.depL, szl, inb, List.any_cons, List.any_nil, Bool.true_and, Bool.false_and, Bool.and_true, Bool.and_false, Bool.or_false, Bool.false_or, Bool.true_or, Bool.or_true, Nat.max_self, Nat.max_zero, Nat.zero_max, Nat.min_self, Nat.zero_le, Nat.min_zero, Nat.zero_min, iR1, iR2, rng1, rng2, iE, itOf, sFor, bYes, Option.isNone_some, Option.isSome_some, Option.isNone_none, Option.isSome_none, Option.some.injEq, dEq_int, dNe_int, dEq_II, dEq_OO, dEq_OI, dEq_IO, dEq_PP, dNe_PP, dIs_O, dIsnt_O, dIs_I, dIsnt_I, dIs_non, dIsnt_non, dIn_IT, dIn_IL, dIdx_tup, dIdx_lst, dIdx_scr, dAdd_int, atI0, atI1, atI2, atI3, atI4, atI5, vw_last, get_last, set_last, app_last, h, find_folder_ok, e, encOL, Option.isNone_some, Option.some.injEq, dIs_L, ix2]; rfl), _, _, rfl⟩
  · rintro s' ρ' e ⟨y, z, rfl⟩
    exact Good.rt rfl ⟨by rw [q2 s' e], rfl⟩
theorem stands_in_ok (ls : List Ln) (o : Option Id) (x : Id) (hl : ls.length ≤ 1000000) (h : CH) : callP 3 d_stands_in [.lst (ls.map encL), encO o, encI x] h = .ok (.bl (standsIn ls x (ls.length + 1) o)) h := callP_lf rfl (nrL_L ls) (nr2 (flat_O o) (flat_I x)) (stands_in_fn ls o x hl) rfl
theorem len_flatMap_le {X : Type} {f : X → List D} (h : ∀ x, (f x).length ≤ 1) : ∀ xs : List X, (xs.flatMap f).length ≤ xs.length
  | [] => Nat.le_refl _
  | x :: xs => by
    have := h x
    have := len_flatMap_le h xs
    rw [List.flatMap_cons, List.length_append, List.length_cons]
    omega
theorem end_line_fn (ls : List Ln) (g : Ln) (h : CH) (hl : ls.length ≤ 1000000) (hb : ∀ l ∈ ls, l.below.length ≤ 1000000) (hg : g.below.length ≤ 1000000) :
    d_end_line [.lst (ls.map encL), encL g] h = .ok (.ref h.length) (h ++ [.lst ((endL ls g).map encL)]) := by
  refine Good.fnE (ρ := [some (.lst (ls.map encL)), some (encL g), none, none]) ?_
  unfold b_end_line
  refine Good.seq (Good.nx (ρ := [some (.lst (ls.map encL)), some (encL g), some (.ref h.length), none]) (h := h ++ [.lst []]) (by simp only [sSeq, sIf, sB, sE, sAsg, sRet, sRetN, sNil, sExpr, sBrk, sCnt, gN, gT, gsC, gsN, FK.e1, FK.e2, eC, eVar, eCall, aNil, aCons, M.bind, M.pure, eTup, eLst, eSl, oNone, oSome, bT, bNot, bAnd, bOr, eAnd, eOr, eNot, eIf, eCh, truth, eMs, eMl, dSub, dMul, dFdiv, dMod, dLe, dLt, dGe, dGt, D.isNon, dSl, dLen, dInt, dOrd_one, dMax2, dMin2, dTuple, dList, dListC, dApp, dNeg, vw, seq, lstOf, fnD, List.map_cons, List.map_nil, List.length_cons, List.length_nil, List.cons_append, List.nil_append, List.append_nil, List.replicate_succ, List.replicate_zero, List.getElem?_cons_zero, List.getElem?_cons_succ, List.set_cons_zero, List.set_cons_succ, Int.cast_ofNat_Int, Nat.reduceBEq, Int.reduceBEq, Nat.reduceAdd, Nat.reduceSub, Nat.reduceLT, Nat.reduceLeDiff, Nat.zero_add, Nat.add_zero, Nat.sub_zero, Nat.sub_self, ↓reduceIte, if_true, if_false, Bool.not_true, Bool.not_false, Bool.false_eq_true, Bool.true_eq_false, decide_true, decide_false, decide_not, true_and, and_true, and_self, true_or, or_true, not_true_eq_false, not_false_eq_true, ne_eq, reduceCtorEq, Int.reduceLT, Int.reduceLE, Int.reduceNeg, Int.reduceSub, Int.reduceAdd, Int.reduceMul, Int.reducePow, Int.reduceToNat, sz, D.dat, D.datL, D.dep, D.depL, szl, inb, List.any_cons, List.any_nil, Bool.true_and, Bool.false_and, Bool.and_true, Bool.and_false, Bool.or_false, Bool.false_or, Bool.true_or, Bool.or_true, Nat.max_self, Nat.max_zero, Nat.zero_max, Nat.min_self, Nat.zero_le, Nat.min_zero, Nat.zero_min, iR1, iR2, rng1, rng2, iE, itOf, sFor, bYes, Option.isNone_some, Option.isSome_some, Option.isNone_none, Option.isSome_none, Option.some.injEq, dEq_int, dNe_int, dEq_II, dEq_OO, dEq_OI, dEq_IO, dEq_PP, dNe_PP, dIs_O, dIsnt_O, dIs_I, dIsnt_I, dIs_non, dIsnt_non, dIn_IT, dIn_IL, dIdx_tup, dIdx_lst, dIdx_scr, dAdd_int, atI0, atI1, atI2, atI3, atI4, atI5, vw_last, get_last, set_last, app_last, eNew_nil]) ?_)
  have f1 : ∀ l, ((endF g l).map encL).length ≤ 1 := fun l => by unfold endF; split <;> (try split) <;> simp
  have := len_flatMap_le f1 ls
  refine Good.seq (Good.build (en := encL) (f := fun l => (endF g l).map encL) (hh := fun acc => h ++ [.lst acc]) (o := none) (I := fun ρ => ∃ y, ρ = [some (.lst (ls.map encL)), some (encL g), some (.ref h.length), y]) 1000000 (xs := ls) (acc := []) rfl (fun _ => trivial) ⟨_, rfl⟩ (by simpa using Nat.le_trans this hl) ?_ ?_)
  · rintro l hm ρ acc ⟨y, rfl⟩ hB
    have b1 := hb l hm
    have hs : g.below.length + l.below.length ≤ 16777216 := by omega
    have ha : acc.length < 16777216 := by omega
    refine ⟨_, rfl, _, ⟨some (encL l), rfl⟩, ?_⟩
    unfold endF
    by_cases c1 : l.id = g.id
    · right
      simp only [sSeq, sIf, sB, sE, sAsg, sRet, sRetN, sNil, sExpr, sBrk, sCnt, gN, gT, gsC, gsN, FK.e1, FK.e2, eC, eVar, eCall, aNil, aCons, M.bind, M.pure, eTup, eLst, eNew, eSl, oNone, oSome, bT, bNot, bAnd, bOr, eAnd, eOr, eNot, eIf, eCh, truth, eMs, eMl, dSub, dMul, dFdiv, dMod, dLe, dLt, dGe, dGt, D.isNon, dSl, dLen, dInt, dOrd_one, dMax2, dMin2, dTuple, dList, dListC, dApp, dNeg, vw, seq, lstOf, fnD, List.map_cons, List.map_nil, List.length_cons, List.length_nil, List.cons_append, List.nil_append, List.append_nil, List.replicate_succ, List.replicate_zero, List.getElem?_cons_zero, List.getElem?_cons_succ, List.set_cons_zero, List.set_cons_succ, Int.cast_ofNat_Int, Nat.reduceBEq, Int.reduceBEq, Nat.reduceAdd, Nat.reduceSub, Nat.reduceLT, Nat.reduceLeDiff, Nat.zero_add, Nat.add_zero, Nat.sub_zero, Nat.sub_self, ↓reduceIte, if_true, if_false, Bool.not_true, Bool.not_false, Bool.false_eq_true, Bool.true_eq_false, decide_true, decide_false, decide_not, true_and, and_true, and_self, true_or, or_true, not_true_eq_false, not_false_eq_true, ne_eq, reduceCtorEq, Int.reduceLT, Int.reduceLE, Int.reduceNeg, Int.reduceSub, Int.reduceAdd, Int.reduceMul, Int.reducePow, Int.reduceToNat, sz, D.dat, D.datL, D.dep, D.depL, szl, inb, List.any_cons, List.any_nil, Bool.true_and, Bool.false_and, Bool.and_true, Bool.and_false, Bool.or_false, Bool.false_or, Bool.true_or, Bool.or_true, Nat.max_self, Nat.max_zero, Nat.zero_max, Nat.min_self, Nat.zero_le, Nat.min_zero, Nat.zero_min, iR1, iR2, rng1, rng2, iE, itOf, sFor, bYes, Option.isNone_some, Option.isSome_some, Option.isNone_none, Option.isSome_none, Option.some.injEq, dEq_int, dNe_int, dEq_II, dEq_OO, dEq_OI, dEq_IO, dEq_PP, dNe_PP, dIs_O, dIsnt_O, dIs_I, dIsnt_I, dIs_non, dIsnt_non, dIn_IT, dIn_IL, dIdx_tup, dIdx_lst, dIdx_scr, dAdd_int, atI0, atI1, atI2, atI3, atI4, atI5, vw_last, get_last, set_last, app_last, ix0, c1]
    · left
      by_cases c2 : l.ins = some g.id
      · simp only [sSeq, sIf, sB, sE, sAsg, sRet, sRetN, sNil, sExpr, sBrk, sCnt, gN, gT, gsC, gsN, FK.e1, FK.e2, eC, eVar, eCall, aNil, aCons, M.bind, M.pure, eTup, eLst, eNew, eSl, oNone, oSome, bT, bNot, bAnd, bOr, eAnd, eOr, eNot, eIf, eCh, truth, eMs, eMl, dSub, dMul, dFdiv, dMod, dLe, dLt, dGe, dGt, D.isNon, dSl, dLen, dInt, dOrd_one, dMax2, dMin2, dTuple, dList, dListC, dApp, dNeg, vw, seq, lstOf, fnD, List.map_cons, List.map_nil, List.length_cons, List.length_nil, List.cons_append, List.nil_append, List.append_nil, List.replicate_succ, List.replicate_zero, List.getElem?_cons_zero, List.getElem?_cons_succ, List.set_cons_zero, List.set_cons_succ, Int.cast_ofNat_Int, Nat.reduceBEq, Int.reduceBEq, Nat.reduceAdd, Nat.reduceSub, Nat.reduceLT, Nat.reduceLeDiff, Nat.zero_add, Nat.add_zero, Nat.sub_zero, Nat.sub_self, ↓reduceIte, if_true, if_false, Bool.not_true, Bool.not_false, Bool.false_eq_true, Bool.true_eq_false, decide_true, decide_false, decide_not, true_and, and_true, and_self, true_or, or_true, not_true_eq_false, not_false_eq_true, ne_eq, reduceCtorEq, Int.reduceLT, Int.reduceLE, Int.reduceNeg, Int.reduceSub, Int.reduceAdd, Int.reduceMul, Int.reducePow, Int.reduceToNat, sz, D.dat, D.datL, D.dep, D.depL, szl, inb, List.any_cons, List.any_nil, Bool.true_and, Bool.false_and, Bool.and_true, Bool.and_false, Bool.or_false, Bool.false_or, Bool.true_or, Bool.or_true, Nat.max_self, Nat.max_zero, Nat.zero_max, Nat.min_self, Nat.zero_le, Nat.min_zero, Nat.zero_min, iR1, iR2, rng1, rng2, iE, itOf, sFor, bYes, Option.isNone_some, Option.isSome_some, Option.isNone_none, Option.isSome_none, Option.some.injEq, dEq_int, dNe_int, dEq_II, dEq_OO, dEq_OI, dEq_IO, dEq_PP, dNe_PP, dIs_O, dIsnt_O, dIs_I, dIsnt_I, dIs_non, dIsnt_non, dIn_IT, dIn_IL, dIdx_tup, dIdx_lst, dIdx_scr, dAdd_int, atI0, atI1, atI2, atI3, atI4, atI5, vw_last, get_last, set_last, app_last, ix0, ix1, ix2, ix3, ix4, c1, c2, dAdd_PP _ _ _ hs, ha]
        rfl
      · simp only [sSeq, sIf, sB, sE, sAsg, sRet, sRetN, sNil, sExpr, sBrk, sCnt, gN, gT, gsC, gsN, FK.e1, FK.e2, eC, eVar, eCall, aNil, aCons, M.bind, M.pure, eTup, eLst, eNew, eSl, oNone, oSome, bT, bNot, bAnd, bOr, eAnd, eOr, eNot, eIf, eCh, truth, eMs, eMl, dSub, dMul, dFdiv, dMod, dLe, dLt, dGe, dGt, D.isNon, dSl, dLen, dInt, dOrd_one, dMax2, dMin2, dTuple, dList, dListC, dApp, dNeg, vw, seq, lstOf, fnD, List.map_cons, List.map_nil, List.length_cons, List.length_nil, List.cons_append, List.nil_append, List.append_nil, List.replicate_succ, List.replicate_zero, List.getElem?_cons_zero, List.getElem?_cons_succ, List.set_cons_zero, List.set_cons_succ, Int.cast_ofNat_Int, Nat.reduceBEq, Int.reduceBEq, Nat.reduceAdd, Nat.reduceSub, Nat.reduceLT, Nat.reduceLeDiff, Nat.zero_add, Nat.add_zero, Nat.sub_zero, Nat.sub_self, ↓reduceIte, if_true, if_false, Bool.not_true, Bool.not_false, Bool.false_eq_true, Bool.true_eq_false, decide_true, decide_false, decide_not, true_and, and_true, and_self, true_or, or_true, not_true_eq_false, not_false_eq_true, ne_eq, reduceCtorEq, Int.reduceLT, Int.reduceLE, Int.reduceNeg, Int.reduceSub, Int.reduceAdd, Int.reduceMul, Int.reducePow, Int.reduceToNat, sz, D.dat, D.datL, D.dep, D.depL, szl, inb, List.any_cons, List.any_nil, Bool.true_and, Bool.false_and, Bool.and_true, Bool.and_false, Bool.or_false, Bool.false_or, Bool.true_or, Bool.or_true, Nat.max_self, Nat.max_zero, Nat.zero_max, Nat.min_self, Nat.zero_le, Nat.min_zero, Nat.zero_min, iR1, iR2, rng1, rng2, iE, itOf, sFor, bYes, Option.isNone_some, Option.isSome_some, Option.isNone_none, Option.isSome_none, Option.some.injEq, dEq_int, dNe_int, dEq_II, dEq_OO, dEq_OI, dEq_IO, dEq_PP, dNe_PP, dIs_O, dIsnt_O, dIs_I, dIsnt_I, dIs_non, dIsnt_non, dIn_IT, dIn_IL, dIdx_tup, dIdx_lst, dIdx_scr, dAdd_int, atI0, atI1, atI2, atI3, atI4, atI5, vw_last, get_last, set_last, app_last, ix0, ix1, ix2, ix3, ix4, c1, c2, ha]
  · rintro ρ' ⟨y, rfl⟩
    refine Good.rt rfl ⟨rfl, ?_⟩
    rw [List.nil_append]
    unfold endL
    rw [List.map_flatMap]
theorem end_line_L {ls : List Ln} {h : CH} {d : D} (hd : lstOf h d = some (ls.map encL)) (g : Ln) (hl : ls.length ≤ 1000000) (hb : ∀ l ∈ ls, l.below.length ≤ 1000000) (hg : g.below.length ≤ 1000000) : callP 2 d_end_line [d, encL g] h = .ok (.lst ((endL ls g).map encL)) h := callP_ll hd (nrL_L ls) (nr1 (flat_L g)) (end_line_fn ls g [] hl hb hg) rfl (flatL_L _)
theorem end_heads_fn {n : Nat} (hn : n ≤ 1000000) {h : CH} {d : D} {ls : List Ln} (w : Snd n ls) (hl : ls.length ≤ 1000000) (hd : lstOf h d = some (ls.map encL)) (hs : List Id) : ∃ d', d_end_heads [d, encT hs] h = .ok d' h ∧ lstOf h d' = some ((endHs ls hs).map encL) := by
  obtain ⟨d', h', e, rfl, q⟩ := Good.fn (N := 4) (body := b_end_heads) (ds := [d, encT hs]) (h := h) (ρ := [some d, some (encT hs), none, none]) (T := fun d' h' => h' = h ∧ lstOf h d' = some ((endHs ls hs).map encL)) (by
    unfold b_end_heads
    refine Good.seq (Good.fold (en := encI) (st := endH) (o := none) (I := fun (s : List Ln) ρ => (∃ e y z, lstOf h e = some (s.map encL) ∧ ρ = [some e, some (encT hs), y, z]) ∧ Snd n s ∧ s.length ≤ 1000000) (xs := hs) (s := ls) rfl trivial ⟨⟨d, none, none, hd, rfl⟩, w, hl⟩ ?_ ?_)
    · rintro i hi s ρ ⟨⟨e, y, z, he, rfl⟩, w, hl⟩
      refine ⟨_, rfl, ?_⟩
      have f1 := find_head_L he (some i)
      replace f1 : callP 2 d_find_head [e, encI i] h = .ok (encOL (fhead s (some i))) h := f1
      unfold endH
      cases q : fhead s (some i) with
      | none =>
        rw [q] at f1
        exact ⟨_, by simp only [sSeq, sIf, sB, sE, sAsg, sRet, sRetN, sNil, sExpr, sBrk, sCnt, gN, gT, gsC, gsN, FK.e1, FK.e2, eC, eVar, eCall, aNil, aCons, M.bind, M.pure, eTup, eLst, eNew, eSl, oNone, oSome, bT, bNot, bAnd, bOr, eAnd, eOr, eNot, eIf, eCh, truth, eMs, eMl, dSub, dMul, dFdiv, dMod, dLe, dLt, dGe, dGt, D.isNon, dSl, dLen, dInt, dOrd_one, dMax2, dMin2, dTuple, dList, dListC, dApp, dNeg, vw, seq, lstOf, fnD, List.map_cons, List.map_nil, List.length_cons, List.length_nil, List.cons_append, List.nil_append, List.append_nil, List.replicate_succ, List.replicate_zero, List.getElem?_cons_zero, List.getElem?_cons_succ, List.set_cons_zero, List.set_cons_succ, Int.cast_ofNat_Int, Nat.reduceBEq, Int.reduceBEq, Nat.reduceAdd, Nat.reduceSub, Nat.reduceLT, Nat.reduceLeDiff, Nat.zero_add, Nat.add_zero, Nat.sub_zero, Nat.sub_self, ↓reduceIte, if_true, if_false, Bool.not_true, Bool.not_false, Bool.false_eq_true, Bool.true_eq_false, decide_true, decide_false, decide_not, true_and, and_true, and_self, true_or, or_true, not_true_eq_false, not_false_eq_true, ne_eq, reduceCtorEq, Int.reduceLT, Int.reduceLE, Int.reduceNeg, Int.reduceSub, Int.reduceAdd, Int.reduceMul, Int.reducePow, Int.reduceToNat, sz, D.dat, D.datL, D.dep, D.depL, szl, inb, List.any_cons, List.any_nil, Bool.true_and, Bool.false_and, Bool.and_true, Bool.and_false, Bool.or_false, Bool.false_or, Bool.true_or, Bool.or_true, Nat.max_self, Nat.max_zero, Nat.zero_max, Nat.min_self, Nat.zero_le, Nat.min_zero, Nat.zero_min, iR1, iR2, rng1, rng2, iE, itOf, sFor, bYes, Option.isNone_some, Option.isSome_some, Option.isNone_none, Option.isSome_none, Option.some.injEq, dEq_int, dNe_int, dEq_II, dEq_OO, dEq_OI, dEq_IO, dEq_PP, dNe_PP, dIs_O, dIsnt_O, dIs_I, dIsnt_I, dIs_non, dIsnt_non, dIn_IT, dIn_IL, dIdx_tup, dIdx_lst, dIdx_scr, dAdd_int, atI0, atI1, atI2, atI3, atI4, atI5, vw_last, get_last, set_last, app_last, f1, encOL]; rfl, ⟨e, _, _, he, rfl⟩, w, hl⟩
      | some g =>
        rw [q] at f1
        have hb : ∀ l ∈ s, l.below.length ≤ 1000000 := fun l hl => Nat.le_trans (w.len l hl) hn
        have hg := (fhead_mem q).1
        have e1 := end_line_L he g hl hb (hb g hg)
        exact ⟨_, by simp only [sSeq, sIf, sB, sE, sAsg, sRet, sRetN, sNil, sExpr, sBrk, sCnt, gN, gT, gsC, gsN, FK.e1, FK.e2, eC, eVar, eCall, aNil, aCons, M.bind, M.pure, eTup, eLst, eNew, eSl, oNone, oSome, bT, bNot, bAnd, bOr, eAnd, eOr, eNot, eIf, eCh, truth, eMs, eMl, dSub, dMul, dFdiv, dMod, dLe, dLt, dGe, dGt, D.isNon, dSl, dLen, dInt, dOrd_one, dMax2, dMin2, dTuple, dList, dListC, dApp, dNeg, vw, seq, lstOf, fnD, List.map_cons, List.map_nil, List.length_cons, List.length_nil, List.cons_append, List.nil_append, List.append_nil, List.replicate_succ, List.replicate_zero, List.getElem?_cons_zero, List.getElem?_cons_succ, List.set_cons_zero, List.set_cons_succ, Int.cast_ofNat_Int, Nat.reduceBEq, Int.reduceBEq, Nat.reduceAdd, Nat.reduceSub, Nat.reduceLT, Nat.reduceLeDiff, Nat.zero_add, Nat.add_zero, Nat.sub_zero, Nat.sub_self, ↓reduceIte, if_true, if_false, Bool.not_true, Bool.not_false, Bool.false_eq_true, Bool.true_eq_false, decide_true, decide_false, decide_not, true_and, and_true, and_self, true_or, or_true, not_true_eq_false, not_false_eq_true, ne_eq, reduceCtorEq, Int.reduceLT, Int.reduceLE, Int.reduceNeg, Int.reduceSub, Int.reduceAdd, Int.reduceMul, Int.reducePow, Int.reduceToNat, sz, D.dat, D.datL, D.dep, D.depL, szl, inb, List.any_cons, List.any_nil, Bool.true_and, Bool.false_and, Bool.and_true, Bool.and_false, Bool.or_false, Bool.false_or, Bool.true_or, Bool.or_true, Nat.max_self, Nat.max_zero, Nat.zero_max, Nat.min_self, Nat.zero_le, Nat.min_zero, Nat.zero_min, iR1, iR2, rng1, rng2, iE, itOf, sFor, bYes, Option.isNone_some, Option.isSome_some, Option.isNone_none, Option.isSome_none, Option.some.injEq, dEq_int, dNe_int, dEq_II, dEq_OO, dEq_OI, dEq_IO, dEq_PP, dNe_PP, dIs_O, dIsnt_O, dIs_I, dIsnt_I, dIs_non, dIsnt_non, dIn_IT, dIn_IL, dIdx_tup, dIdx_lst, dIdx_scr, dAdd_int, atI0, atI1, atI2, atI3, atI4, atI5, vw_last, get_last, set_last, app_last, f1, encOL, dIsnt_L, e1]; rfl, ⟨_, _, _, rfl, rfl⟩, w.endL hg, Nat.le_trans (len_endL _ _) hl⟩
    · rintro ρ' ⟨⟨e, y, z, he, rfl⟩, _, _⟩
      exact Good.rt rfl ⟨rfl, he⟩)
  exact ⟨d', e, q⟩
theorem end_heads_ok {n : Nat} (hn : n ≤ 1000000) {ls : List Ln} (w : Snd n ls) (hl : ls.length ≤ 1000000) (hs : List Id) (h : CH) : callP 2 d_end_heads [.lst (ls.map encL), encT hs] h = .ok (.lst ((endHs ls hs).map encL)) h := by
  obtain ⟨d', e, q⟩ := end_heads_fn hn (h := []) (d := .lst (ls.map encL)) w hl rfl hs
  exact callP_ok (nrLs ls (nr1 (flat_T hs))) e (fz_lstOf q (nrL_L _))
theorem continued_fn (ls : List Ln) (rs : List Id) (h : CH) : d_continued [.lst (ls.map encL), encT rs] h = .ok (encO ((contd ls rs).map Ln.id)) h := by
  refine Good.fnE (ρ := [some (.lst (ls.map encL)), some (encT rs), none]) ?_
  unfold b_continued
  refine Good.seq (Good.find (en := encL) (xs := ls) (p := fun l => l.ct.isSome && decide (l.head ∈ rs)) (val := fun l => encI l.id) (o := none) rfl trivial rfl (fun l _ => ?_) (fun l _ _ => rfl) (fun l e => ?_) (fun e => ?_))
  · cases h1 : l.ct with
    | none => simp only [sSeq, sIf, sB, sE, sAsg, sRet, sRetN, sNil, sExpr, sBrk, sCnt, gN, gT, gsC, gsN, FK.e1, FK.e2, eC, eVar, eCall, aNil, aCons, M.bind, M.pure, eTup, eLst, eNew, eSl, oNone, oSome, bT, bNot, bAnd, bOr, eAnd, eOr, eNot, eIf, eCh, truth, eMs, eMl, dSub, dMul, dFdiv, dMod, dLe, dLt, dGe, dGt, D.isNon, dSl, dLen, dInt, dOrd_one, dMax2, dMin2, dTuple, dList, dListC, dApp, dNeg, vw, seq, lstOf, fnD, List.map_cons, List.map_nil, List.length_cons, List.length_nil, List.cons_append, List.nil_append, List.append_nil, List.replicate_succ, List.replicate_zero, List.getElem?_cons_zero, List.getElem?_cons_succ, List.set_cons_zero, List.set_cons_succ, Int.cast_ofNat_Int, Nat.reduceBEq, Int.reduceBEq, Nat.reduceAdd, Nat.reduceSub, Nat.reduceLT, Nat.reduceLeDiff, Nat.zero_add, Nat.add_zero, Nat.sub_zero, Nat.sub_self, ↓reduceIte, if_true, if_false, Bool.not_true, Bool.not_false, Bool.false_eq_true, Bool.true_eq_false, decide_true, decide_false, decide_not, true_and, and_true, and_self, true_or, or_true, not_true_eq_false, not_false_eq_true, ne_eq, reduceCtorEq, Int.reduceLT, Int.reduceLE, Int.reduceNeg, Int.reduceSub, Int.reduceAdd, Int.reduceMul, Int.reducePow, Int.reduceToNat, sz, D.dat, D.datL, D.dep, D.depL, szl, inb, List.any_cons, List.any_nil, Bool.true_and, Bool.false_and, Bool.and_true, Bool.and_false, Bool.or_false, Bool.false_or, Bool.true_or, Bool.or_true, Nat.max_self, Nat.max_zero, Nat.zero_max, Nat.min_self, Nat.zero_le, Nat.min_zero, Nat.zero_min, iR1, iR2, rng1, rng2, iE, itOf, sFor, bYes, Option.isNone_some, Option.isSome_some, Option.isNone_none, Option.isSome_none, Option.some.injEq, dEq_int, dNe_int, dEq_II, dEq_OO, dEq_OI, dEq_IO, dEq_PP, dNe_PP, dIs_O, dIsnt_O, dIs_I, dIsnt_I, dIs_non, dIsnt_non, dIn_IT, dIn_IL, dIdx_tup, dIdx_lst, dIdx_scr, dAdd_int, atI0, atI1, atI2, atI3, atI4, atI5, vw_last, get_last, set_last, app_last, ix4, dIsnt_C, h1]
    | some m => simp only [sSeq, sIf, sB, sE, sAsg, sRet, sRetN, sNil, sExpr, sBrk, sCnt, gN, gT, gsC, gsN, FK.e1, FK.e2, eC, eVar, eCall, aNil, aCons, M.bind, M.pure, eTup, eLst, eNew, eSl, oNone, oSome, bT, bNot, bAnd, bOr, eAnd, eOr, eNot, eIf, eCh, truth, eMs, eMl, dSub, dMul, dFdiv, dMod, dLe, dLt, dGe, dGt, D.isNon, dSl, dLen, dInt, dOrd_one, dMax2, dMin2, dTuple, dList, dListC, dApp, dNeg, vw, seq, lstOf, fnD, List.map_cons, List.map_nil, List.length_cons, List.length_nil, List.cons_append, List.nil_append, List.append_nil, List.replicate_succ, List.replicate_zero, List.getElem?_cons_zero, List.getElem?_cons_succ, List.set_cons_zero, List.set_cons_succ, Int.cast_ofNat_Int, Nat.reduceBEq, Int.reduceBEq, Nat.reduceAdd, Nat.reduceSub, Nat.reduceLT, Nat.reduceLeDiff, Nat.zero_add, Nat.add_zero, Nat.sub_zero, Nat.sub_self, ↓reduceIte, if_true, if_false, Bool.not_true, Bool.not_false, Bool.false_eq_true, Bool.true_eq_false, decide_true, decide_false, decide_not, true_and, and_true, and_self, true_or, or_true, not_true_eq_false, not_false_eq_true, ne_eq, reduceCtorEq, Int.reduceLT, Int.reduceLE, Int.reduceNeg, Int.reduceSub, Int.reduceAdd, Int.reduceMul, Int.reducePow, Int.reduceToNat, sz, D.dat, D.datL, D.dep, D.depL, szl, inb, List.any_cons, List.any_nil, Bool.true_and, Bool.false_and, Bool.and_true, Bool.and_false, Bool.or_false, Bool.false_or, Bool.true_or, Bool.or_true, Nat.max_self, Nat.max_zero, Nat.zero_max, Nat.min_self, Nat.zero_le, Nat.min_zero, Nat.zero_min, iR1, iR2, rng1, rng2, iE, itOf, sFor, bYes, Option.isNone_some, Option.isSome_some, Option.isNone_none, Option.isSome_none, Option.some.injEq, dEq_int, dNe_int, dEq_II, dEq_OO, dEq_OI, dEq_IO, dEq_PP, dNe_PP, dIs_O, dIsnt_O, dIs_I, dIsnt_I, dIs_non, dIsnt_non, dIn_IT, dIn_IL, dIdx_tup, dIdx_lst, dIdx_scr, dAdd_int, atI0, atI1, atI2, atI3, atI4, atI5, vw_last, get_last, set_last, app_last, ix4, ix1, dIsnt_C, h1]
  · unfold contd; rw [e]; exact ⟨rfl, rfl⟩
  · exact Good.rt rfl (by unfold contd; rw [e]; exact ⟨rfl, rfl⟩)
theorem continued_ok (ls : List Ln) (rs : List Id) (h : CH) : callP 2 d_continued [.lst (ls.map encL), encT rs] h = .ok (encO ((contd ls rs).map Ln.id)) h := callP_lf rfl (nrL_L ls) (nr1 (flat_T rs)) (continued_fn ls rs []) (flat_O _)
theorem encS_eq (s : Option Id × List Str) : encS s = .tup [encO s.1, encP s.2] := rfl
theorem new_line_fn (ls : List Ln) (i : Id) (p : Pc) (c : Option Mk4) (m : Option Id) (h : CH) : d_new_line [.lst (ls.map encL), encI i, encPc p, encC c, encO m] h = .ok (encL (newL ls i p c m)) h := by
  unfold d_new_line b_new_line newL
  have s1 := settle_ok ls p h
  rw [encS_eq] at s1
  cases m with
  | none =>
    have : fline ls none = none := List.find?_eq_none.mpr fun x _ => by simp
    rw [this]
    simp only [sSeq, sIf, sB, sE, sAsg, sRet, sRetN, sNil, sExpr, sBrk, sCnt, gN, gT, gsC, gsN, FK.e1, FK.e2, eC, eVar, eCall, aNil, aCons, M.bind, M.pure, eTup, eLst, eNew, eSl, oNone, oSome, bT, bNot, bAnd, bOr, eAnd, eOr, eNot, eIf, eCh, truth, eMs, eMl, dSub, dMul, dFdiv, dMod, dLe, dLt, dGe, dGt, D.isNon, dSl, dLen, dInt, dOrd_one, dMax2, dMin2, dTuple, dList, dListC, dApp, dNeg, vw, seq, lstOf, fnD, List.map_cons, List.map_nil, List.length_cons, List.length_nil, List.cons_append, List.nil_append, List.append_nil, List.replicate_succ, List.replicate_zero, List.getElem?_cons_zero, List.getElem?_cons_succ, List.set_cons_zero, List.set_cons_succ, Int.cast_ofNat_Int, Nat.reduceBEq, Int.reduceBEq, Nat.reduceAdd, Nat.reduceSub, Nat.reduceLT, Nat.reduceLeDiff, Nat.zero_add, Nat.add_zero, Nat.sub_zero, Nat.sub_self, ↓reduceIte, if_true, if_false, Bool.not_true, Bool.not_false, Bool.false_eq_true, Bool.true_eq_false, decide_true, decide_false, decide_not, true_and, and_true, and_self, true_or, or_true, not_true_eq_false, not_false_eq_true, ne_eq, reduceCtorEq, Int.reduceLT, Int.reduceLE, Int.reduceNeg, Int.reduceSub, Int.reduceAdd, Int.reduceMul, Int.reducePow, Int.reduceToNat, sz, D.dat, D.datL, D.dep, D.depL, szl, inb, List.any_cons, List.any_nil, Bool.true_and, Bool.false_and, Bool.and_true, Bool.and_false, Bool.or_false, Bool.false_or, Bool.true_or, Bool.or_true, Nat.max_self, Nat.max_zero, Nat.zero_max, Nat.min_self, Nat.zero_le, Nat.min_zero, Nat.zero_min, iR1, iR2, rng1, rng2, iE, itOf, sFor, bYes, Option.isNone_some, Option.isSome_some, Option.isNone_none, Option.isSome_none, Option.some.injEq, dEq_int, dNe_int, dEq_II, dEq_OO, dEq_OI, dEq_IO, dEq_PP, dNe_PP, dIs_O, dIsnt_O, dIs_I, dIsnt_I, dIs_non, dIsnt_non, dIn_IT, dIn_IL, dIdx_tup, dIdx_lst, dIdx_scr, dAdd_int, atI0, atI1, atI2, atI3, atI4, atI5, vw_last, get_last, set_last, app_last, s1, encL, dIs_non, encO]
  | some m =>
    cases e : fline ls (some m) with
    | none => simp only [sSeq, sIf, sB, sE, sAsg, sRet, sRetN, sNil, sExpr, sBrk, sCnt, gN, gT, gsC, gsN, FK.e1, FK.e2, eC, eVar, eCall, aNil, aCons, M.bind, M.pure, eTup, eLst, eNew, eSl, oNone, oSome, bT, bNot, bAnd, bOr, eAnd, eOr, eNot, eIf, eCh, truth, eMs, eMl, dSub, dMul, dFdiv, dMod, dLe, dLt, dGe, dGt, D.isNon, dSl, dLen, dInt, dOrd_one, dMax2, dMin2, dTuple, dList, dListC, dApp, dNeg, vw, seq, lstOf, fnD, List.map_cons, List.map_nil, List.length_cons, List.length_nil, List.cons_append, List.nil_append, List.append_nil, List.replicate_succ, List.replicate_zero, List.getElem?_cons_zero, List.getElem?_cons_succ, List.set_cons_zero, List.set_cons_succ, Int.cast_ofNat_Int, Nat.reduceBEq, Int.reduceBEq, Nat.reduceAdd, Nat.reduceSub, Nat.reduceLT, Nat.reduceLeDiff, Nat.zero_add, Nat.add_zero, Nat.sub_zero, Nat.sub_self, ↓reduceIte, if_true, if_false, Bool.not_true, Bool.not_false, Bool.false_eq_true, Bool.true_eq_false, decide_true, decide_false, decide_not, true_and, and_true, and_self, true_or, or_true, not_true_eq_false, not_false_eq_true, ne_eq, reduceCtorEq, Int.reduceLT, Int.reduceLE, Int.reduceNeg, Int.reduceSub, Int.reduceAdd, Int.reduceMul, Int.reducePow, Int.reduceToNat, sz, D.dat, D.datL, D.dep, D.depL, szl, inb, List.any_cons, List.any_nil, Bool.true_and, Bool.false_and, Bool.and_true, Bool.and_false, Bool.or_false, Bool.false_or, Bool.true_or, Bool.or_true, Nat.max_self, Nat.max_zero, Nat.zero_max, Nat.min_self, Nat.zero_le, Nat.min_zero, Nat.zero_min, iR1, iR2, rng1, rng2, iE, itOf, sFor, bYes, Option.isNone_some, Option.isSome_some, Option.isNone_none, Option.isSome_none, Option.some.injEq, dEq_int, dNe_int, dEq_II, dEq_OO, dEq_OI, dEq_IO, dEq_PP, dNe_PP, dIs_O, dIsnt_O, dIs_I, dIsnt_I, dIs_non, dIsnt_non, dIn_IT, dIn_IL, dIdx_tup, dIdx_lst, dIdx_scr, dAdd_int, atI0, atI1, atI2, atI3, atI4, atI5, vw_last, get_last, set_last, app_last, s1, encL, find_line_ok, e, encOL]
    | some l => simp only [sSeq, sIf, sB, sE, sAsg, sRet, sRetN, sNil, sExpr, sBrk, sCnt, gN, gT, gsC, gsN, FK.e1, FK.e2, eC, eVar, eCall, aNil, aCons, M.bind, M.pure, eTup, eLst, eNew, eSl, oNone, oSome, bT, bNot, bAnd, bOr, eAnd, eOr, eNot, eIf, eCh, truth, eMs, eMl, dSub, dMul, dFdiv, dMod, dLe, dLt, dGe, dGt, D.isNon, dSl, dLen, dInt, dOrd_one, dMax2, dMin2, dTuple, dList, dListC, dApp, dNeg, vw, seq, lstOf, fnD, List.map_cons, List.map_nil, List.length_cons, List.length_nil, List.cons_append, List.nil_append, List.append_nil, List.replicate_succ, List.replicate_zero, List.getElem?_cons_zero, List.getElem?_cons_succ, List.set_cons_zero, List.set_cons_succ, Int.cast_ofNat_Int, Nat.reduceBEq, Int.reduceBEq, Nat.reduceAdd, Nat.reduceSub, Nat.reduceLT, Nat.reduceLeDiff, Nat.zero_add, Nat.add_zero, Nat.sub_zero, Nat.sub_self, ↓reduceIte, if_true, if_false, Bool.not_true, Bool.not_false, Bool.false_eq_true, Bool.true_eq_false, decide_true, decide_false, decide_not, true_and, and_true, and_self, true_or, or_true, not_true_eq_false, not_false_eq_true, ne_eq, reduceCtorEq, Int.reduceLT, Int.reduceLE, Int.reduceNeg, Int.reduceSub, Int.reduceAdd, Int.reduceMul, Int.reducePow, Int.reduceToNat, sz, D.dat, D.datL, D.dep, D.depL, szl, inb, List.any_cons, List.any_nil, Bool.true_and, Bool.false_and, Bool.and_true, Bool.and_false, Bool.or_false, Bool.false_or, Bool.true_or, Bool.or_true, Nat.max_self, Nat.max_zero, Nat.zero_max, Nat.min_self, Nat.zero_le, Nat.min_zero, Nat.zero_min, iR1, iR2, rng1, rng2, iE, itOf, sFor, bYes, Option.isNone_some, Option.isSome_some, Option.isNone_none, Option.isSome_none, Option.some.injEq, dEq_int, dNe_int, dEq_II, dEq_OO, dEq_OI, dEq_IO, dEq_PP, dNe_PP, dIs_O, dIsnt_O, dIs_I, dIsnt_I, dIs_non, dIsnt_non, dIn_IT, dIn_IL, dIdx_tup, dIdx_lst, dIdx_scr, dAdd_int, atI0, atI1, atI2, atI3, atI4, atI5, vw_last, get_last, set_last, app_last, find_line_ok, e, encOL, dIsnt_L, ix2, ix3]; rfl
theorem new_line_L {ls : List Ln} {h : CH} {d : D} (hd : lstOf h d = some (ls.map encL)) (i : Id) (p : Pc) (c : Option Mk4) (m : Option Id) : callP 5 d_new_line [d, encI i, encPc p, encC c, encO m] h = .ok (encL (newL ls i p c m)) h := callP_lf hd (nrL_L ls) (nrC (flat_I i) (nrC (flat_Pc p) (nr2 (flat_C c) (flat_O m)))) (new_line_fn ls i p c m []) (flat_L _)
def fL (f : Ln → Ln) (l : Ln) : List D := [encL (f l)]
theorem flat_fL (f : Ln → Ln) : ∀ ls : List Ln, ls.flatMap (fL f) = (ls.map f).map encL
  | [] => rfl
  | l :: ls => by
    rw [List.flatMap_cons, flat_fL f ls]
    rfl
theorem write_lines_fn {n : Nat} (hn : n + 3 ≤ 1000000) {ls : List Ln} (w : Snd n ls) (hl : ls.length < 1000000) (i : Id) (p : Pc) (hp : okP p) (c : Option Mk4) (m : Option Id) (rs : List Id) (fresh : ∀ l ∈ ls, l.id ≠ i) :
    ∃ d' h', d_write_lines [.lst (ls.map encL), encE (.write i p c m rs)] [] = .ok d' h' ∧ lstOf h' d' = some ((afterL ls (.write i p c m rs)).map encL) := by
  have w0 := w.wr0 (ct := c) (meant := m) (reps := rs) fresh hp
  obtain ⟨d', h', e, q⟩ := Good.fn (N := 11) (body := b_write_lines) (ds := [.lst (ls.map encL), encE (.write i p c m rs)]) (h := []) (ρ := [some (.lst (ls.map encL)), some (encE (.write i p c m rs)), none, none, none, none, none, none, none, none, none]) (T := fun d' h' => lstOf h' d' = some ((afterL ls (.write i p c m rs)).map encL)) (by
    unfold b_write_lines
    refine Good.seq (Good.nx (ρ := [some (.lst (ls.map encL)), some (encE (.write i p c m rs)), some (.str "write"), some (encI i), some (encPc p), some (encC c), some (encO m), some (encT rs), none, none, none]) (h := []) rfl ?_)
    refine Good.seq (Good.nx rfl ?_)
    obtain ⟨G, hG⟩ : ∃ G, G = goOn ls c rs := ⟨_, rfl⟩
    refine Good.seq (Good.nx (ρ := [some (.lst (ls.map encL)), some (encE (.write i p c m rs)), some (.str "write"), some (encI i), some (encPc p), some (encC c), some (encO m), some (encT rs), some (encO (G.map Ln.id)), none, none]) (h := []) ?_ ?_)
    · unfold goOn at hG
      cases c with
      | none => subst hG; simp only [sSeq, sIf, sB, sE, sAsg, sRet, sRetN, sNil, sExpr, sBrk, sCnt, gN, gT, gsC, gsN, FK.e1, FK.e2, eC, eVar, eCall, aNil, aCons, M.bind, M.pure, eTup, eLst, eNew, eSl, oNone, oSome, bT, bNot, bAnd, bOr, eAnd, eOr, eNot, eIf, eCh, truth, eMs, eMl, dSub, dMul, dFdiv, dMod, dLe, dLt, dGe, dGt, D.isNon, dSl, dLen, dInt, dOrd_one, dMax2, dMin2, dTuple, dList, dListC, dApp, dNeg, vw, seq, lstOf, fnD, List.map_cons, List.map_nil, List.length_cons, List.length_nil, List.cons_append, List.nil_append, List.append_nil, List.replicate_succ, List.replicate_zero, List.getElem?_cons_zero, List.getElem?_cons_succ, List.set_cons_zero, List.set_cons_succ, Int.cast_ofNat_Int, Nat.reduceBEq, Int.reduceBEq, Nat.reduceAdd, Nat.reduceSub, Nat.reduceLT, Nat.reduceLeDiff, Nat.zero_add, Nat.add_zero, Nat.sub_zero, Nat.sub_self, ↓reduceIte, if_true, if_false, Bool.not_true, Bool.not_false, Bool.false_eq_true, Bool.true_eq_false, decide_true, decide_false, decide_not, true_and, and_true, and_self, true_or, or_true, not_true_eq_false, not_false_eq_true, ne_eq, reduceCtorEq, Int.reduceLT, Int.reduceLE, Int.reduceNeg, Int.reduceSub, Int.reduceAdd, Int.reduceMul, Int.reducePow, Int.reduceToNat, sz, D.dat, D.datL, D.dep, D.depL, szl, inb, List.any_cons, List.any_nil, Bool.true_and, Bool.false_and, Bool.and_true, Bool.and_false, Bool.or_false, Bool.false_or, Bool.true_or, Bool.or_true, Nat.max_self, Nat.max_zero, Nat.zero_max, Nat.min_self, Nat.zero_le, Nat.min_zero, Nat.zero_min, iR1, iR2, rng1, rng2, iE, itOf, sFor, bYes, Option.isNone_some, Option.isSome_some, Option.isNone_none, Option.isSome_none, Option.some.injEq, dEq_int, dNe_int, dEq_II, dEq_OO, dEq_OI, dEq_IO, dEq_PP, dNe_PP, dIs_O, dIsnt_O, dIs_I, dIsnt_I, dIs_non, dIsnt_non, dIn_IT, dIn_IL, dIdx_tup, dIdx_lst, dIdx_scr, dAdd_int, atI0, atI1, atI2, atI3, atI4, atI5, vw_last, get_last, set_last, app_last, encC]; rfl
      | some c => rw [if_pos (show (some c).isSome = true from rfl)] at hG; subst hG; simp only [sSeq, sIf, sB, sE, sAsg, sRet, sRetN, sNil, sExpr, sBrk, sCnt, gN, gT, gsC, gsN, FK.e1, FK.e2, eC, eVar, eCall, aNil, aCons, M.bind, M.pure, eTup, eLst, eNew, eSl, oNone, oSome, bT, bNot, bAnd, bOr, eAnd, eOr, eNot, eIf, eCh, truth, eMs, eMl, dSub, dMul, dFdiv, dMod, dLe, dLt, dGe, dGt, D.isNon, dSl, dLen, dInt, dOrd_one, dMax2, dMin2, dTuple, dList, dListC, dApp, dNeg, vw, seq, lstOf, fnD, List.map_cons, List.map_nil, List.length_cons, List.length_nil, List.cons_append, List.nil_append, List.append_nil, List.replicate_succ, List.replicate_zero, List.getElem?_cons_zero, List.getElem?_cons_succ, List.set_cons_zero, List.set_cons_succ, Int.cast_ofNat_Int, Nat.reduceBEq, Int.reduceBEq, Nat.reduceAdd, Nat.reduceSub, Nat.reduceLT, Nat.reduceLeDiff, Nat.zero_add, Nat.add_zero, Nat.sub_zero, Nat.sub_self, ↓reduceIte, if_true, if_false, Bool.not_true, Bool.not_false, Bool.false_eq_true, Bool.true_eq_false, decide_true, decide_false, decide_not, true_and, and_true, and_self, true_or, or_true, not_true_eq_false, not_false_eq_true, ne_eq, reduceCtorEq, Int.reduceLT, Int.reduceLE, Int.reduceNeg, Int.reduceSub, Int.reduceAdd, Int.reduceMul, Int.reducePow, Int.reduceToNat, sz, D.dat, D.datL, D.dep, D.depL, szl, inb, List.any_cons, List.any_nil, Bool.true_and, Bool.false_and, Bool.and_true, Bool.and_false, Bool.or_false, Bool.false_or, Bool.true_or, Bool.or_true, Nat.max_self, Nat.max_zero, Nat.zero_max, Nat.min_self, Nat.zero_le, Nat.min_zero, Nat.zero_min, iR1, iR2, rng1, rng2, iE, itOf, sFor, bYes, Option.isNone_some, Option.isSome_some, Option.isNone_none, Option.isSome_none, Option.some.injEq, dEq_int, dNe_int, dEq_II, dEq_OO, dEq_OI, dEq_IO, dEq_PP, dNe_PP, dIs_O, dIsnt_O, dIs_I, dIsnt_I, dIs_non, dIsnt_non, dIn_IT, dIn_IL, dIdx_tup, dIdx_lst, dIdx_scr, dAdd_int, atI0, atI1, atI2, atI3, atI4, atI5, vw_last, get_last, set_last, app_last, dIsnt_C, continued_ok]
    refine Good.seq (Good.nx (ρ := [some (.lst (ls.map encL)), some (encE (.write i p c m rs)), some (.str "write"), some (encI i), some (encPc p), some (encC c), some (encO m), some (encT rs), some (encO (G.map Ln.id)), some (.ref 0), none]) (h := [.lst []]) (by simp only [sSeq, sIf, sB, sE, sAsg, sRet, sRetN, sNil, sExpr, sBrk, sCnt, gN, gT, gsC, gsN, FK.e1, FK.e2, eC, eVar, eCall, aNil, aCons, M.bind, M.pure, eTup, eLst, eSl, oNone, oSome, bT, bNot, bAnd, bOr, eAnd, eOr, eNot, eIf, eCh, truth, eMs, eMl, dSub, dMul, dFdiv, dMod, dLe, dLt, dGe, dGt, D.isNon, dSl, dLen, dInt, dOrd_one, dMax2, dMin2, dTuple, dList, dListC, dApp, dNeg, vw, seq, lstOf, fnD, List.map_cons, List.map_nil, List.length_cons, List.length_nil, List.cons_append, List.nil_append, List.append_nil, List.replicate_succ, List.replicate_zero, List.getElem?_cons_zero, List.getElem?_cons_succ, List.set_cons_zero, List.set_cons_succ, Int.cast_ofNat_Int, Nat.reduceBEq, Int.reduceBEq, Nat.reduceAdd, Nat.reduceSub, Nat.reduceLT, Nat.reduceLeDiff, Nat.zero_add, Nat.add_zero, Nat.sub_zero, Nat.sub_self, ↓reduceIte, if_true, if_false, Bool.not_true, Bool.not_false, Bool.false_eq_true, Bool.true_eq_false, decide_true, decide_false, decide_not, true_and, and_true, and_self, true_or, or_true, not_true_eq_false, not_false_eq_true, ne_eq, reduceCtorEq, Int.reduceLT, Int.reduceLE, Int.reduceNeg, Int.reduceSub, Int.reduceAdd, Int.reduceMul, Int.reducePow, Int.reduceToNat, sz, D.dat, D.datL, D.dep, D.depL, szl, inb, List.any_cons, List.any_nil, Bool.true_and, Bool.false_and, Bool.and_true, Bool.and_false, Bool.or_false, Bool.false_or, Bool.true_or, Bool.or_true, Nat.max_self, Nat.max_zero, Nat.zero_max, Nat.min_self, Nat.zero_le, Nat.min_zero, Nat.zero_min, iR1, iR2, rng1, rng2, iE, itOf, sFor, bYes, Option.isNone_some, Option.isSome_some, Option.isNone_none, Option.isSome_none, Option.some.injEq, dEq_int, dNe_int, dEq_II, dEq_OO, dEq_OI, dEq_IO, dEq_PP, dNe_PP, dIs_O, dIsnt_O, dIs_I, dIsnt_I, dIs_non, dIsnt_non, dIn_IT, dIn_IL, dIdx_tup, dIdx_lst, dIdx_scr, dAdd_int, atI0, atI1, atI2, atI3, atI4, atI5, vw_last, get_last, set_last, app_last, eNew_nil]) ?_)
    have hgo : ∀ g, G = some g → g ∈ ls := fun g e => (goOn_some (hG.symm.trans e)).1
    refine Good.seq (Good.build (en := encL) (f := fL fun l => if G.map Ln.id = some l.id then { l with head := i, ct := c } else l) (hh := fun acc => [.lst acc]) (o := none) (I := fun ρ => ∃ y, ρ = [some (.lst (ls.map encL)), some (encE (.write i p c m rs)), some (.str "write"), some (encI i), some (encPc p), some (encC c), some (encO m), some (encT rs), some (encO (G.map Ln.id)), some (.ref 0), y]) 1000000 (xs := ls) (acc := []) rfl (fun _ => trivial) ⟨_, rfl⟩ ?_ ?_ ?_)
    · rw [flat_fL, List.length_map, List.length_map]
      show 0 + _ ≤ _
      omega
    · rintro l hm ρ acc ⟨y, rfl⟩ hB
      have ha : acc.length < 16777216 := by omega
      refine ⟨_, rfl, _, ⟨some (encL l), rfl⟩, .inl ?_⟩
      unfold fL
      have a0 := app_last [] acc
      by_cases c1 : G.map Ln.id = some l.id
      · simp only [sSeq, sIf, sB, sE, sAsg, sRet, sRetN, sNil, sExpr, sBrk, sCnt, gN, gT, gsC, gsN, FK.e1, FK.e2, eC, eVar, eCall, aNil, aCons, M.bind, M.pure, eTup, eLst, eNew, eSl, oNone, oSome, bT, bNot, bAnd, bOr, eAnd, eOr, eNot, eIf, eCh, truth, eMs, eMl, dSub, dMul, dFdiv, dMod, dLe, dLt, dGe, dGt, D.isNon, dSl, dLen, dInt, dOrd_one, dMax2, dMin2, dTuple, dList, dListC, dApp, dNeg, vw, seq, lstOf, fnD, List.map_cons, List.map_nil, List.length_cons, List.length_nil, List.cons_append, List.nil_append, List.append_nil, List.replicate_succ, List.replicate_zero, List.getElem?_cons_zero, List.getElem?_cons_succ, List.set_cons_zero, List.set_cons_succ, Int.cast_ofNat_Int, Nat.reduceBEq, Int.reduceBEq, Nat.reduceAdd, Nat.reduceSub, Nat.reduceLT, Nat.reduceLeDiff, Nat.zero_add, Nat.add_zero, Nat.sub_zero, Nat.sub_self, ↓reduceIte, if_true, if_false, Bool.not_true, Bool.not_false, Bool.false_eq_true, Bool.true_eq_false, decide_true, decide_false, decide_not, true_and, and_true, and_self, true_or, or_true, not_true_eq_false, not_false_eq_true, ne_eq, reduceCtorEq, Int.reduceLT, Int.reduceLE, Int.reduceNeg, Int.reduceSub, Int.reduceAdd, Int.reduceMul, Int.reducePow, Int.reduceToNat, sz, D.dat, D.datL, D.dep, D.depL, szl, inb, List.any_cons, List.any_nil, Bool.true_and, Bool.false_and, Bool.and_true, Bool.and_false, Bool.or_false, Bool.false_or, Bool.true_or, Bool.or_true, Nat.max_self, Nat.max_zero, Nat.zero_max, Nat.min_self, Nat.zero_le, Nat.min_zero, Nat.zero_min, iR1, iR2, rng1, rng2, iE, itOf, sFor, bYes, Option.isNone_some, Option.isSome_some, Option.isNone_none, Option.isSome_none, Option.some.injEq, dEq_int, dNe_int, dEq_II, dEq_OO, dEq_OI, dEq_IO, dEq_PP, dNe_PP, dIs_O, dIsnt_O, dIs_I, dIsnt_I, dIs_non, dIsnt_non, dIn_IT, dIn_IL, dIdx_tup, dIdx_lst, dIdx_scr, dAdd_int, atI0, atI1, atI2, atI3, atI4, atI5, vw_last, get_last, set_last, app_last, ix0, ix2, ix3, c1, ha]
        rfl
      · have c2 : ¬ some l.id = G.map Ln.id := fun z => c1 z.symm
        simp only [sSeq, sIf, sB, sE, sAsg, sRet, sRetN, sNil, sExpr, sBrk, sCnt, gN, gT, gsC, gsN, FK.e1, FK.e2, eC, eVar, eCall, aNil, aCons, M.bind, M.pure, eTup, eLst, eNew, eSl, oNone, oSome, bT, bNot, bAnd, bOr, eAnd, eOr, eNot, eIf, eCh, truth, eMs, eMl, dSub, dMul, dFdiv, dMod, dLe, dLt, dGe, dGt, D.isNon, dSl, dLen, dInt, dOrd_one, dMax2, dMin2, dTuple, dList, dListC, dApp, dNeg, vw, seq, lstOf, fnD, List.map_cons, List.map_nil, List.length_cons, List.length_nil, List.cons_append, List.nil_append, List.append_nil, List.replicate_succ, List.replicate_zero, List.getElem?_cons_zero, List.getElem?_cons_succ, List.set_cons_zero, List.set_cons_succ, Int.cast_ofNat_Int, Nat.reduceBEq, Int.reduceBEq, Nat.reduceAdd, Nat.reduceSub, Nat.reduceLT, Nat.reduceLeDiff, Nat.zero_add, Nat.add_zero, Nat.sub_zero, Nat.sub_self, ↓reduceIte, if_true, if_false, Bool.not_true, Bool.not_false, Bool.false_eq_true, Bool.true_eq_false, decide_true, decide_false, decide_not, true_and, and_true, and_self, true_or, or_true, not_true_eq_false, not_false_eq_true, ne_eq, reduceCtorEq, Int.reduceLT, Int.reduceLE, Int.reduceNeg, Int.reduceSub, Int.reduceAdd, Int.reduceMul, Int.reducePow, Int.reduceToNat, sz, D.dat, D.datL, D.dep, D.depL, szl, inb, List.any_cons, List.any_nil, Bool.true_and, Bool.false_and, Bool.and_true, Bool.and_false, Bool.or_false, Bool.false_or, Bool.true_or, Bool.or_true, Nat.max_self, Nat.max_zero, Nat.zero_max, Nat.min_self, Nat.zero_le, Nat.min_zero, Nat.zero_min, iR1, iR2, rng1, rng2, iE, itOf, sFor, bYes, Option.isNone_some, Option.isSome_some, Option.isNone_none, Option.isSome_none, Option.some.injEq, dEq_int, dNe_int, dEq_II, dEq_OO, dEq_OI, dEq_IO, dEq_PP, dNe_PP, dIs_O, dIsnt_O, dIs_I, dIsnt_I, dIs_non, dIsnt_non, dIn_IT, dIn_IL, dIdx_tup, dIdx_lst, dIdx_scr, dAdd_int, atI0, atI1, atI2, atI3, atI4, atI5, vw_last, get_last, set_last, app_last, ix0, c1, c2, ha]
    · rintro ρ' ⟨y, rfl⟩
      rw [flat_fL, List.nil_append]
      refine Good.seq (Good.nx (ρ := [some (.lst (ls.map encL)), some (encE (.write i p c m rs)), some (.str "write"), some (encI i), some (encPc p), some (encC c), some (encO m), some (encT rs), some (encO (G.map Ln.id)), some (.ref 0), y]) (h := [.lst ((wr0 ls i p c m rs).map encL)]) ?_ ?_)
      · unfold wr0
        rw [← hG]
        cases hq : G with
        | none =>
          have hz : (ls.map encL).length < 16777216 := by rw [List.length_map]; omega
          have e1 := new_line_L (h := [.lst (ls.map encL)]) (d := .lst (ls.map encL)) rfl i p c m
          have id1 : (ls.map fun l => if (none : Option Ln).map Ln.id = some l.id then { l with head := i, ct := c } else l) = ls := by
            rw [List.map_congr_left (g := id) (fun l _ => by simp), List.map_id]
          rw [id1]
          simp only [sSeq, sIf, sB, sE, sAsg, sRet, sRetN, sNil, sExpr, sBrk, sCnt, gN, gT, gsC, gsN, FK.e1, FK.e2, eC, eVar, eCall, aNil, aCons, M.bind, M.pure, eTup, eLst, eNew, eSl, oNone, oSome, bT, bNot, bAnd, bOr, eAnd, eOr, eNot, eIf, eCh, truth, eMs, eMl, dSub, dMul, dFdiv, dMod, dLe, dLt, dGe, dGt, D.isNon, dSl, dLen, dInt, dOrd_one, dMax2, dMin2, dTuple, dList, dListC, dApp, dNeg, vw, seq, lstOf, fnD, List.map_cons, List.map_nil, List.length_cons, List.length_nil, List.cons_append, List.nil_append, List.append_nil, List.replicate_succ, List.replicate_zero, List.getElem?_cons_zero, List.getElem?_cons_succ, List.set_cons_zero, List.set_cons_succ, Int.cast_ofNat_Int, Nat.reduceBEq, Int.reduceBEq, Nat.reduceAdd, Nat.reduceSub, Nat.reduceLT, Nat.reduceLeDiff, Nat.zero_add, Nat.add_zero, Nat.sub_zero, Nat.sub_self, ↓reduceIte, if_true, if_false, Bool.not_true, Bool.not_false, Bool.false_eq_true, Bool.true_eq_false, decide_true, decide_false, decide_not, true_and, and_true, and_self, true_or, or_true, not_true_eq_false, not_false_eq_true, ne_eq, reduceCtorEq, Int.reduceLT, Int.reduceLE, Int.reduceNeg, Int.reduceSub, Int.reduceAdd, Int.reduceMul, Int.reducePow, Int.reduceToNat, sz, D.dat, D.datL, D.dep, D.depL, szl, inb, List.any_cons, List.any_nil, Bool.true_and, Bool.false_and, Bool.and_true, Bool.and_false, Bool.or_false, Bool.false_or, Bool.true_or, Bool.or_true, Nat.max_self, Nat.max_zero, Nat.zero_max, Nat.min_self, Nat.zero_le, Nat.min_zero, Nat.zero_min, iR1, iR2, rng1, rng2, iE, itOf, sFor, bYes, Option.isNone_some, Option.isSome_some, Option.isNone_none, Option.isSome_none, Option.some.injEq, dEq_int, dNe_int, dEq_II, dEq_OO, dEq_OI, dEq_IO, dEq_PP, dNe_PP, dIs_O, dIsnt_O, dIs_I, dIsnt_I, dIs_non, dIsnt_non, dIn_IT, dIn_IL, dIdx_tup, dIdx_lst, dIdx_scr, dAdd_int, atI0, atI1, atI2, atI3, atI4, atI5, vw_last, get_last, set_last, app_last, Option.map_none, encO_none, e1, hz, List.map_append]
        | some g =>
          have id1 : (ls.map fun l => if (some g).map Ln.id = some l.id then { l with head := i, ct := c } else l) = ls.map fun l => if l.id = g.id then { l with head := i, ct := c } else l := by
            refine List.map_congr_left fun l _ => ?_
            by_cases h : l.id = g.id
            · rw [if_pos h, if_pos (by rw [Option.map_some, h])]
            · rw [if_neg h, if_neg (by rw [Option.map_some]; intro z; exact h (Option.some.inj z).symm)]
          rw [id1]
          simp only [sSeq, sIf, sB, sE, sAsg, sRet, sRetN, sNil, sExpr, sBrk, sCnt, gN, gT, gsC, gsN, FK.e1, FK.e2, eC, eVar, eCall, aNil, aCons, M.bind, M.pure, eTup, eLst, eNew, eSl, oNone, oSome, bT, bNot, bAnd, bOr, eAnd, eOr, eNot, eIf, eCh, truth, eMs, eMl, dSub, dMul, dFdiv, dMod, dLe, dLt, dGe, dGt, D.isNon, dSl, dLen, dInt, dOrd_one, dMax2, dMin2, dTuple, dList, dListC, dApp, dNeg, vw, seq, lstOf, fnD, List.map_cons, List.map_nil, List.length_cons, List.length_nil, List.cons_append, List.nil_append, List.append_nil, List.replicate_succ, List.replicate_zero, List.getElem?_cons_zero, List.getElem?_cons_succ, List.set_cons_zero, List.set_cons_succ, Int.cast_ofNat_Int, Nat.reduceBEq, Int.reduceBEq, Nat.reduceAdd, Nat.reduceSub, Nat.reduceLT, Nat.reduceLeDiff, Nat.zero_add, Nat.add_zero, Nat.sub_zero, Nat.sub_self, ↓reduceIte, if_true, if_false, Bool.not_true, Bool.not_false, Bool.false_eq_true, Bool.true_eq_false, decide_true, decide_false, decide_not, true_and, and_true, and_self, true_or, or_true, not_true_eq_false, not_false_eq_true, ne_eq, reduceCtorEq, Int.reduceLT, Int.reduceLE, Int.reduceNeg, Int.reduceSub, Int.reduceAdd, Int.reduceMul, Int.reducePow, Int.reduceToNat, sz, D.dat, D.datL, D.dep, D.depL, szl, inb, List.any_cons, List.any_nil, Bool.true_and, Bool.false_and, Bool.and_true, Bool.and_false, Bool.or_false, Bool.false_or, Bool.true_or, Bool.or_true, Nat.max_self, Nat.max_zero, Nat.zero_max, Nat.min_self, Nat.zero_le, Nat.min_zero, Nat.zero_min, iR1, iR2, rng1, rng2, iE, itOf, sFor, bYes, Option.isNone_some, Option.isSome_some, Option.isNone_none, Option.isSome_none, Option.some.injEq, dEq_int, dNe_int, dEq_II, dEq_OO, dEq_OI, dEq_IO, dEq_PP, dNe_PP, dIs_O, dIsnt_O, dIs_I, dIsnt_I, dIs_non, dIsnt_non, dIn_IT, dIn_IL, dIdx_tup, dIdx_lst, dIdx_scr, dAdd_int, atI0, atI1, atI2, atI3, atI4, atI5, vw_last, get_last, set_last, app_last, Option.map_some, encO_some]
      · have hw : (wr0 ls i p c m rs).length ≤ 1000000 := by
          have := congrArg List.length (rfl : wr0 ls i p c m rs = wr0 ls i p c m rs)
          unfold wr0
          split
          · rw [List.length_map]; omega
          · rw [List.length_append]; show ls.length + 1 ≤ _; omega
        obtain ⟨d', e, q⟩ := end_heads_fn hn (h := [.lst ((wr0 ls i p c m rs).map encL)]) (d := .ref 0) w0 hw rfl rs
        have e' : callH 2 d_end_heads [.ref 0, encT rs] [.lst ((wr0 ls i p c m rs).map encL)] = .ok d' [.lst ((wr0 ls i p c m rs).map encL)] := e
        exact Good.rt (by simp only [sSeq, sIf, sB, sE, sAsg, sRet, sRetN, sNil, sExpr, sBrk, sCnt, gN, gT, gsC, gsN, FK.e1, FK.e2, eC, eVar, eCall, aNil, aCons, M.bind, M.pure, eTup, eLst, eNew, eSl, oNone, oSome, bT, bNot, bAnd, bOr, eAnd, eOr, eNot, eIf, eCh, truth, eMs, eMl, dSub, dMul, dFdiv, dMod, dLe, dLt, dGe, dGt, D.isNon, dSl, dLen, dInt, dOrd_one, dMax2, dMin2, dTuple, dList, dListC, dApp, dNeg, vw, seq, lstOf, fnD, List.map_cons, List.map_nil, List.length_cons, List.length_nil, List.cons_append, List.nil_append, List.append_nil, List.replicate_succ, List.replicate_zero, List.getElem?_cons_zero, List.getElem?_cons_succ, List.set_cons_zero, List.set_cons_succ, Int.cast_ofNat_Int, Nat.reduceBEq, Int.reduceBEq, Nat.reduceAdd, Nat.reduceSub, Nat.reduceLT, Nat.reduceLeDiff, Nat.zero_add, Nat.add_zero, Nat.sub_zero, Nat.sub_self, ↓reduceIte, if_true, if_false, Bool.not_true, Bool.not_false, Bool.false_eq_true, Bool.true_eq_false, decide_true, decide_false, decide_not, true_and, and_true, and_self, true_or, or_true, not_true_eq_false, not_false_eq_true, ne_eq, reduceCtorEq, Int.reduceLT, Int.reduceLE, Int.reduceNeg, Int.reduceSub, Int.reduceAdd, Int.reduceMul, Int.reducePow, Int.reduceToNat, sz, D.dat, D.datL, D.dep, D.depL, szl, inb, List.any_cons, List.any_nil, Bool.true_and, Bool.false_and, Bool.and_true, Bool.and_false, Bool.or_false, Bool.false_or, Bool.true_or, Bool.or_true, Nat.max_self, Nat.max_zero, Nat.zero_max, Nat.min_self, Nat.zero_le, Nat.min_zero, Nat.zero_min, iR1, iR2, rng1, rng2, iE, itOf, sFor, bYes, Option.isNone_some, Option.isSome_some, Option.isNone_none, Option.isSome_none, Option.some.injEq, dEq_int, dNe_int, dEq_II, dEq_OO, dEq_OI, dEq_IO, dEq_PP, dNe_PP, dIs_O, dIsnt_O, dIs_I, dIsnt_I, dIs_non, dIsnt_non, dIn_IT, dIn_IL, dIdx_tup, dIdx_lst, dIdx_scr, dAdd_int, atI0, atI1, atI2, atI3, atI4, atI5, vw_last, get_last, set_last, app_last, e']; rfl) q)
  exact ⟨d', h', e, q⟩
theorem write_lines_ok {n : Nat} (hn : n + 3 ≤ 1000000) {ls : List Ln} (w : Snd n ls) (hl : ls.length < 1000000) (i : Id) (p : Pc) (hp : okP p) (c : Option Mk4) (m : Option Id) (rs : List Id) (fresh : ∀ l ∈ ls, l.id ≠ i) (h : CH) :
    callP 2 d_write_lines [.lst (ls.map encL), encE (.write i p c m rs)] h = .ok (.lst ((afterL ls (.write i p c m rs)).map encL)) h := by
  obtain ⟨d', h', e, q⟩ := write_lines_fn hn w hl i p hp c m rs fresh
  exact callP_ok (nrLs ls (nr1 (flat_E _))) e (fz_lstOf q (nrL_L _))
theorem move_line_ok {n : Nat} {ls : List Ln} (w : Snd n ls) (hl : ls.length < 1000000) (m : Option Id × Option Id × Pc) (h : CH) : callP 4 d_move_line [.lst (ls.map encL), encO m.1, encO m.2.1, encPc m.2.2] h = .ok (.lst ((moveL ls m).map encL)) h := by
  obtain ⟨a, b, p⟩ := m
  dsimp only
  have s1 := settle_ok ls p []
  rw [encS_eq] at s1
  have hA : D.nrL [.lst (ls.map encL), encO a, encO b, encPc p] = true := nrLs ls (nrC (flat_O a) (nrC (flat_O b) (nr1 (flat_Pc p))))
  obtain ⟨d', h', e, q⟩ := Good.fn (N := 9) (body := b_move_line) (ds := [.lst (ls.map encL), encO a, encO b, encPc p]) (h := []) (ρ := [some (.lst (ls.map encL)), some (encO a), some (encO b), some (encPc p), none, none, none, none, none]) (T := fun d' h' => lstOf h' d' = some ((moveL ls (a, b, p)).map encL)) (by
    unfold b_move_line
    unfold moveL
    refine Good.seq (Good.nx (ρ := [some (.lst (ls.map encL)), some (encO a), some (encO b), some (encPc p), some (encOL (fhead ls a)), none, none, none, none]) (h := []) (by simp only [sSeq, sIf, sB, sE, sAsg, sRet, sRetN, sNil, sExpr, sBrk, sCnt, gN, gT, gsC, gsN, FK.e1, FK.e2, eC, eVar, eCall, aNil, aCons, M.bind, M.pure, eTup, eLst, eNew, eSl, oNone, oSome, bT, bNot, bAnd, bOr, eAnd, eOr, eNot, eIf, eCh, truth, eMs, eMl, dSub, dMul, dFdiv, dMod, dLe, dLt, dGe, dGt, D.isNon, dSl, dLen, dInt, dOrd_one, dMax2, dMin2, dTuple, dList, dListC, dApp, dNeg, vw, seq, lstOf, fnD, List.map_cons, List.map_nil, List.length_cons, List.length_nil, List.cons_append, List.nil_append, List.append_nil, List.replicate_succ, List.replicate_zero, List.getElem?_cons_zero, List.getElem?_cons_succ, List.set_cons_zero, List.set_cons_succ, Int.cast_ofNat_Int, Nat.reduceBEq, Int.reduceBEq, Nat.reduceAdd, Nat.reduceSub, Nat.reduceLT, Nat.reduceLeDiff, Nat.zero_add, Nat.add_zero, Nat.sub_zero, Nat.sub_self, ↓reduceIte, if_true, if_false, Bool.not_true, Bool.not_false, Bool.false_eq_true, Bool.true_eq_false, decide_true, decide_false, decide_not, true_and, and_true, and_self, true_or, or_true, not_true_eq_false, not_false_eq_true, ne_eq, reduceCtorEq, Int.reduceLT, Int.reduceLE, Int.reduceNeg, Int.reduceSub, Int.reduceAdd, Int.reduceMul, Int.reducePow, Int.reduceToNat, sz, D.dat, D.datL, D.dep, D.depL, szl, inb, List.any_cons, List.any_nil, Bool.true_and, Bool.false_and, Bool.and_true, Bool.and_false, Bool.or_false, Bool.false_or, Bool.true_or, Bool.or_true, Nat.max_self, Nat.max_zero, Nat.zero_max, Nat.min_self, Nat.zero_le, Nat.min_zero, Nat.zero_min, iR1, iR2, rng1, rng2, iE, itOf, sFor, bYes, Option.isNone_some, Option.isSome_some, Option.isNone_none, Option.isSome_none, Option.some.injEq, dEq_int, dNe_int, dEq_II, dEq_OO, dEq_OI, dEq_IO, dEq_PP, dNe_PP, dIs_O, dIsnt_O, dIs_I, dIsnt_I, dIs_non, dIsnt_non, dIn_IT, dIn_IL, dIdx_tup, dIdx_lst, dIdx_scr, dAdd_int, atI0, atI1, atI2, atI3, atI4, atI5, vw_last, get_last, set_last, app_last, find_head_ok]) ?_)
    obtain ⟨F, hF⟩ : ∃ F, F = (fhead ls a).or (fline ls b) := ⟨_, rfl⟩
    refine Good.seq (Good.nx (ρ := [some (.lst (ls.map encL)), some (encO a), some (encO b), some (encPc p), some (encOL F), none, none, none, none]) (h := []) ?_ ?_)
    · cases q : fhead ls a with
      | none =>
        have : F = fline ls b := by rw [hF, q]; rfl
        rw [this]
        simp only [sSeq, sIf, sB, sE, sAsg, sRet, sRetN, sNil, sExpr, sBrk, sCnt, gN, gT, gsC, gsN, FK.e1, FK.e2, eC, eVar, eCall, aNil, aCons, M.bind, M.pure, eTup, eLst, eNew, eSl, oNone, oSome, bT, bNot, bAnd, bOr, eAnd, eOr, eNot, eIf, eCh, truth, eMs, eMl, dSub, dMul, dFdiv, dMod, dLe, dLt, dGe, dGt, D.isNon, dSl, dLen, dInt, dOrd_one, dMax2, dMin2, dTuple, dList, dListC, dApp, dNeg, vw, seq, lstOf, fnD, List.map_cons, List.map_nil, List.length_cons, List.length_nil, List.cons_append, List.nil_append, List.append_nil, List.replicate_succ, List.replicate_zero, List.getElem?_cons_zero, List.getElem?_cons_succ, List.set_cons_zero, List.set_cons_succ, Int.cast_ofNat_Int, Nat.reduceBEq, Int.reduceBEq, Nat.reduceAdd, Nat.reduceSub, Nat.reduceLT, Nat.reduceLeDiff, Nat.zero_add, Nat.add_zero, Nat.sub_zero, Nat.sub_self, ↓reduceIte, if_true, if_false, Bool.not_true, Bool.not_false, Bool.false_eq_true, Bool.true_eq_false, decide_true, decide_false, decide_not, true_and, and_true, and_self, true_or, or_true, not_true_eq_false, not_false_eq_true, ne_eq, reduceCtorEq, Int.reduceLT, Int.reduceLE, Int.reduceNeg, Int.reduceSub, Int.reduceAdd, Int.reduceMul, Int.reducePow, Int.reduceToNat, sz, D.dat, D.datL, D.dep, D.depL, szl, inb, List.any_cons, List.any_nil, Bool.true_and, Bool.false_and, Bool.and_true, Bool.and_false, Bool.or_false, Bool.false_or, Bool.true_or, Bool.or_true, Nat.max_self, Nat.max_zero, Nat.zero_max, Nat.min_self, Nat.zero_le, Nat.min_zero, Nat.zero_min, iR1, iR2, rng1, rng2, iE, itOf, sFor, bYes, Option.isNone_some, Option.isSome_some, Option.isNone_none, Option.isSome_none, Option.some.injEq, dEq_int, dNe_int, dEq_II, dEq_OO, dEq_OI, dEq_IO, dEq_PP, dNe_PP, dIs_O, dIsnt_O, dIs_I, dIsnt_I, dIs_non, dIsnt_non, dIn_IT, dIn_IL, dIdx_tup, dIdx_lst, dIdx_scr, dAdd_int, atI0, atI1, atI2, atI3, atI4, atI5, vw_last, get_last, set_last, app_last, encOL_none, find_line_ok]
      | some l =>
        have : F = some l := by rw [hF, q]; rfl
        rw [this]
        simp only [sSeq, sIf, sB, sE, sAsg, sRet, sRetN, sNil, sExpr, sBrk, sCnt, gN, gT, gsC, gsN, FK.e1, FK.e2, eC, eVar, eCall, aNil, aCons, M.bind, M.pure, eTup, eLst, eNew, eSl, oNone, oSome, bT, bNot, bAnd, bOr, eAnd, eOr, eNot, eIf, eCh, truth, eMs, eMl, dSub, dMul, dFdiv, dMod, dLe, dLt, dGe, dGt, D.isNon, dSl, dLen, dInt, dOrd_one, dMax2, dMin2, dTuple, dList, dListC, dApp, dNeg, vw, seq, lstOf, fnD, List.map_cons, List.map_nil, List.length_cons, List.length_nil, List.cons_append, List.nil_append, List.append_nil, List.replicate_succ, List.replicate_zero, List.getElem?_cons_zero, List.getElem?_cons_succ, List.set_cons_zero, List.set_cons_succ, Int.cast_ofNat_Int, Nat.reduceBEq, Int.reduceBEq, Nat.reduceAdd, Nat.reduceSub, Nat.reduceLT, Nat.reduceLeDiff, Nat.zero_add, Nat.add_zero, Nat.sub_zero, Nat.sub_self, ↓reduceIte, if_true, if_false, Bool.not_true, Bool.not_false, Bool.false_eq_true, Bool.true_eq_false, decide_true, decide_false, decide_not, true_and, and_true, and_self, true_or, or_true, not_true_eq_false, not_false_eq_true, ne_eq, reduceCtorEq, Int.reduceLT, Int.reduceLE, Int.reduceNeg, Int.reduceSub, Int.reduceAdd, Int.reduceMul, Int.reducePow, Int.reduceToNat, sz, D.dat, D.datL, D.dep, D.depL, szl, inb, List.any_cons, List.any_nil, Bool.true_and, Bool.false_and, Bool.and_true, Bool.and_false, Bool.or_false, Bool.false_or, Bool.true_or, Bool.or_true, Nat.max_self, Nat.max_zero, Nat.zero_max, Nat.min_self, Nat.zero_le, Nat.min_zero, Nat.zero_min, iR1, iR2, rng1, rng2, iE, itOf, sFor, bYes, Option.isNone_some, Option.isSome_some, Option.isNone_none, Option.isSome_none, Option.some.injEq, dEq_int, dNe_int, dEq_II, dEq_OO, dEq_OI, dEq_IO, dEq_PP, dNe_PP, dIs_O, dIsnt_O, dIs_I, dIsnt_I, dIs_non, dIsnt_non, dIn_IT, dIn_IL, dIdx_tup, dIdx_lst, dIdx_scr, dAdd_int, atI0, atI1, atI2, atI3, atI4, atI5, vw_last, get_last, set_last, app_last, encOL_some, dIs_L]
    dsimp only
    rw [← hF]
    cases hq : F with
    | none => exact Good.seq (Good.rt (by simp only [sSeq, sIf, sB, sE, sAsg, sRet, sRetN, sNil, sExpr, sBrk, sCnt, gN, gT, gsC, gsN, FK.e1, FK.e2, eC, eVar, eCall, aNil, aCons, M.bind, M.pure, eTup, eLst, eNew, eSl, oNone, oSome, bT, bNot, bAnd, bOr, eAnd, eOr, eNot, eIf, eCh, truth, eMs, eMl, dSub, dMul, dFdiv, dMod, dLe, dLt, dGe, dGt, D.isNon, dSl, dLen, dInt, dOrd_one, dMax2, dMin2, dTuple, dList, dListC, dApp, dNeg, vw, seq, lstOf, fnD, List.map_cons, List.map_nil, List.length_cons, List.length_nil, List.cons_append, List.nil_append, List.append_nil, List.replicate_succ, List.replicate_zero, List.getElem?_cons_zero, List.getElem?_cons_succ, List.set_cons_zero, List.set_cons_succ, Int.cast_ofNat_Int, Nat.reduceBEq, Int.reduceBEq, Nat.reduceAdd, Nat.reduceSub, Nat.reduceLT, Nat.reduceLeDiff, Nat.zero_add, Nat.add_zero, Nat.sub_zero, Nat.sub_self, ↓reduceIte, if_true, if_false, Bool.not_true, Bool.not_false, Bool.false_eq_true, Bool.true_eq_false, decide_true, decide_false, decide_not, true_and, and_true, and_self, true_or, or_true, not_true_eq_false, not_false_eq_true, ne_eq, reduceCtorEq, Int.reduceLT, Int.reduceLE, Int.reduceNeg, Int.reduceSub, Int.reduceAdd, Int.reduceMul, Int.reducePow, Int.reduceToNat, sz, D.dat, D.datL, D.dep, D.depL, szl, inb, List.any_cons, List.any_nil, Bool.true_and, Bool.false_and, Bool.and_true, Bool.and_false, Bool.or_false, Bool.false_or, Bool.true_or, Bool.or_true, Nat.max_self, Nat.max_zero, Nat.zero_max, Nat.min_self, Nat.zero_le, Nat.min_zero, Nat.zero_min, iR1, iR2, rng1, rng2, iE, itOf, sFor, bYes, Option.isNone_some, Option.isSome_some, Option.isNone_none, Option.isSome_none, Option.some.injEq, dEq_int, dNe_int, dEq_II, dEq_OO, dEq_OI, dEq_IO, dEq_PP, dNe_PP, dIs_O, dIsnt_O, dIs_I, dIsnt_I, dIs_non, dIsnt_non, dIn_IT, dIn_IL, dIdx_tup, dIdx_lst, dIdx_scr, dAdd_int, atI0, atI1, atI2, atI3, atI4, atI5, vw_last, get_last, set_last, app_last, encOL_none]; rfl) rfl)
    | some l =>
      have hm : l ∈ ls := by
        rw [hq] at hF
        cases q : fhead ls a with
        | none => rw [q] at hF; exact (fline_mem hF.symm).1
        | some x => rw [q] at hF; cases hF; exact (fhead_mem q).1
      dsimp only
      refine Good.seq (Good.nx (ρ := [some (.lst (ls.map encL)), some (encO a), some (encO b), some (encPc p), some (encL l), none, none, none, none]) (h := []) (by simp only [sSeq, sIf, sB, sE, sAsg, sRet, sRetN, sNil, sExpr, sBrk, sCnt, gN, gT, gsC, gsN, FK.e1, FK.e2, eC, eVar, eCall, aNil, aCons, M.bind, M.pure, eTup, eLst, eNew, eSl, oNone, oSome, bT, bNot, bAnd, bOr, eAnd, eOr, eNot, eIf, eCh, truth, eMs, eMl, dSub, dMul, dFdiv, dMod, dLe, dLt, dGe, dGt, D.isNon, dSl, dLen, dInt, dOrd_one, dMax2, dMin2, dTuple, dList, dListC, dApp, dNeg, vw, seq, lstOf, fnD, List.map_cons, List.map_nil, List.length_cons, List.length_nil, List.cons_append, List.nil_append, List.append_nil, List.replicate_succ, List.replicate_zero, List.getElem?_cons_zero, List.getElem?_cons_succ, List.set_cons_zero, List.set_cons_succ, Int.cast_ofNat_Int, Nat.reduceBEq, Int.reduceBEq, Nat.reduceAdd, Nat.reduceSub, Nat.reduceLT, Nat.reduceLeDiff, Nat.zero_add, Nat.add_zero, Nat.sub_zero, Nat.sub_self, ↓reduceIte, if_true, if_false, Bool.not_true, Bool.not_false, Bool.false_eq_true, Bool.true_eq_false, decide_true, decide_false, decide_not, true_and, and_true, and_self, true_or, or_true, not_true_eq_false, not_false_eq_true, ne_eq, reduceCtorEq, Int.reduceLT, Int.reduceLE, Int.reduceNeg, Int.reduceSub, Int.reduceAdd, Int.reduceMul, Int.reducePow, Int.reduceToNat, sz, D.dat, D.datL, D.dep, D.depL, szl, inb, List.any_cons, List.any_nil, Bool.true_and, Bool.false_and, Bool.and_true, Bool.and_false, Bool.or_false, Bool.false_or, Bool.true_or, Bool.or_true, Nat.max_self, Nat.max_zero, Nat.zero_max, Nat.min_self, Nat.zero_le, Nat.min_zero, Nat.zero_min, iR1, iR2, rng1, rng2, iE, itOf, sFor, bYes, Option.isNone_some, Option.isSome_some, Option.isNone_none, Option.isSome_none, Option.some.injEq, dEq_int, dNe_int, dEq_II, dEq_OO, dEq_OI, dEq_IO, dEq_PP, dNe_PP, dIs_O, dIsnt_O, dIs_I, dIsnt_I, dIs_non, dIsnt_non, dIn_IT, dIn_IL, dIdx_tup, dIdx_lst, dIdx_scr, dAdd_int, atI0, atI1, atI2, atI3, atI4, atI5, vw_last, get_last, set_last, app_last, encOL_some, dIs_L]) ?_)
      refine Good.seq (Good.nx (ρ := [some (.lst (ls.map encL)), some (encO a), some (encO b), some (encPc p), some (encL l), some (encO (settleF ls p).1), some (encP (settleF ls p).2), none, none]) (h := []) (by simp only [sSeq, sIf, sB, sE, sAsg, sRet, sRetN, sNil, sExpr, sBrk, sCnt, gN, gT, gsC, gsN, FK.e1, FK.e2, eC, eVar, eCall, aNil, aCons, M.bind, M.pure, eTup, eLst, eNew, eSl, oNone, oSome, bT, bNot, bAnd, bOr, eAnd, eOr, eNot, eIf, eCh, truth, eMs, eMl, dSub, dMul, dFdiv, dMod, dLe, dLt, dGe, dGt, D.isNon, dSl, dLen, dInt, dOrd_one, dMax2, dMin2, dTuple, dList, dListC, dApp, dNeg, vw, seq, lstOf, fnD, List.map_cons, List.map_nil, List.length_cons, List.length_nil, List.cons_append, List.nil_append, List.append_nil, List.replicate_succ, List.replicate_zero, List.getElem?_cons_zero, List.getElem?_cons_succ, List.set_cons_zero, List.set_cons_succ, Int.cast_ofNat_Int, Nat.reduceBEq, Int.reduceBEq, Nat.reduceAdd, Nat.reduceSub, Nat.reduceLT, Nat.reduceLeDiff, Nat.zero_add, Nat.add_zero, Nat.sub_zero, Nat.sub_self, ↓reduceIte, if_true, if_false, Bool.not_true, Bool.not_false, Bool.false_eq_true, Bool.true_eq_false, decide_true, decide_false, decide_not, true_and, and_true, and_self, true_or, or_true, not_true_eq_false, not_false_eq_true, ne_eq, reduceCtorEq, Int.reduceLT, Int.reduceLE, Int.reduceNeg, Int.reduceSub, Int.reduceAdd, Int.reduceMul, Int.reducePow, Int.reduceToNat, sz, D.dat, D.datL, D.dep, D.depL, szl, inb, List.any_cons, List.any_nil, Bool.true_and, Bool.false_and, Bool.and_true, Bool.and_false, Bool.or_false, Bool.false_or, Bool.true_or, Bool.or_true, Nat.max_self, Nat.max_zero, Nat.zero_max, Nat.min_self, Nat.zero_le, Nat.min_zero, Nat.zero_min, iR1, iR2, rng1, rng2, iE, itOf, sFor, bYes, Option.isNone_some, Option.isSome_some, Option.isNone_none, Option.isSome_none, Option.some.injEq, dEq_int, dNe_int, dEq_II, dEq_OO, dEq_OI, dEq_IO, dEq_PP, dNe_PP, dIs_O, dIsnt_O, dIs_I, dIsnt_I, dIs_non, dIsnt_non, dIn_IT, dIn_IL, dIdx_tup, dIdx_lst, dIdx_scr, dAdd_int, atI0, atI1, atI2, atI3, atI4, atI5, vw_last, get_last, set_last, app_last, s1]) ?_)
      have t1 := stands_in_ok ls (settleF ls p).1 l.id (by omega) []
      by_cases hs : standsIn ls l.id (ls.length + 1) (settleF ls p).1 = true
      · rw [if_pos hs]
        rw [hs] at t1
        exact Good.seq (Good.rt (by simp only [sSeq, sIf, sB, sE, sAsg, sRet, sRetN, sNil, sExpr, sBrk, sCnt, gN, gT, gsC, gsN, FK.e1, FK.e2, eC, eVar, eCall, aNil, aCons, M.bind, M.pure, eTup, eLst, eNew, eSl, oNone, oSome, bT, bNot, bAnd, bOr, eAnd, eOr, eNot, eIf, eCh, truth, eMs, eMl, dSub, dMul, dFdiv, dMod, dLe, dLt, dGe, dGt, D.isNon, dSl, dLen, dInt, dOrd_one, dMax2, dMin2, dTuple, dList, dListC, dApp, dNeg, vw, seq, lstOf, fnD, List.map_cons, List.map_nil, List.length_cons, List.length_nil, List.cons_append, List.nil_append, List.append_nil, List.replicate_succ, List.replicate_zero, List.getElem?_cons_zero, List.getElem?_cons_succ, List.set_cons_zero, List.set_cons_succ, Int.cast_ofNat_Int, Nat.reduceBEq, Int.reduceBEq, Nat.reduceAdd, Nat.reduceSub, Nat.reduceLT, Nat.reduceLeDiff, Nat.zero_add, Nat.add_zero, Nat.sub_zero, Nat.sub_self, ↓reduceIte, if_true, if_false, Bool.not_true, Bool.not_false, Bool.false_eq_true, Bool.true_eq_false, decide_true, decide_false, decide_not, true_and, and_true, and_self, true_or, or_true, not_true_eq_false, not_false_eq_true, ne_eq, reduceCtorEq, Int.reduceLT, Int.reduceLE, Int.reduceNeg, Int.reduceSub, Int.reduceAdd, Int.reduceMul, Int.reducePow, Int.reduceToNat, sz, D.dat, D.datL, D.dep, D.depL, szl, inb, List.any_cons, List.any_nil, Bool.true_and, Bool.false_and, Bool.and_true, Bool.and_false, Bool.or_false, Bool.false_or, Bool.true_or, Bool.or_true, Nat.max_self, Nat.max_zero, Nat.zero_max, Nat.min_self, Nat.zero_le, Nat.min_zero, Nat.zero_min, iR1, iR2, rng1, rng2, iE, itOf, sFor, bYes, Option.isNone_some, Option.isSome_some, Option.isNone_none, Option.isSome_none, Option.some.injEq, dEq_int, dNe_int, dEq_II, dEq_OO, dEq_OI, dEq_IO, dEq_PP, dNe_PP, dIs_O, dIsnt_O, dIs_I, dIsnt_I, dIs_non, dIsnt_non, dIn_IT, dIn_IL, dIdx_tup, dIdx_lst, dIdx_scr, dAdd_int, atI0, atI1, atI2, atI3, atI4, atI5, vw_last, get_last, set_last, app_last, ix0, t1]; rfl) rfl)
      · rw [if_neg hs]
        rw [Bool.eq_false_iff.mpr hs] at t1
        refine Good.seq (Good.nx (ρ := [some (.lst (ls.map encL)), some (encO a), some (encO b), some (encPc p), some (encL l), some (encO (settleF ls p).1), some (encP (settleF ls p).2), none, none]) (h := []) (by simp only [sSeq, sIf, sB, sE, sAsg, sRet, sRetN, sNil, sExpr, sBrk, sCnt, gN, gT, gsC, gsN, FK.e1, FK.e2, eC, eVar, eCall, aNil, aCons, M.bind, M.pure, eTup, eLst, eNew, eSl, oNone, oSome, bT, bNot, bAnd, bOr, eAnd, eOr, eNot, eIf, eCh, truth, eMs, eMl, dSub, dMul, dFdiv, dMod, dLe, dLt, dGe, dGt, D.isNon, dSl, dLen, dInt, dOrd_one, dMax2, dMin2, dTuple, dList, dListC, dApp, dNeg, vw, seq, lstOf, fnD, List.map_cons, List.map_nil, List.length_cons, List.length_nil, List.cons_append, List.nil_append, List.append_nil, List.replicate_succ, List.replicate_zero, List.getElem?_cons_zero, List.getElem?_cons_succ, List.set_cons_zero, List.set_cons_succ, Int.cast_ofNat_Int, Nat.reduceBEq, Int.reduceBEq, Nat.reduceAdd, Nat.reduceSub, Nat.reduceLT, Nat.reduceLeDiff, Nat.zero_add, Nat.add_zero, Nat.sub_zero, Nat.sub_self, ↓reduceIte, if_true, if_false, Bool.not_true, Bool.not_false, Bool.false_eq_true, Bool.true_eq_false, decide_true, decide_false, decide_not, true_and, and_true, and_self, true_or, or_true, not_true_eq_false, not_false_eq_true, ne_eq, reduceCtorEq, Int.reduceLT, Int.reduceLE, Int.reduceNeg, Int.reduceSub, Int.reduceAdd, Int.reduceMul, Int.reducePow, Int.reduceToNat, sz, D.dat, D.datL, D.dep, D.depL, szl, inb, List.any_cons, List.any_nil, Bool.true_and, Bool.false_and, Bool.and_true, Bool.and_false, Bool.or_false, Bool.false_or, Bool.true_or, Bool.or_true, Nat.max_self, Nat.max_zero, Nat.zero_max, Nat.min_self, Nat.zero_le, Nat.min_zero, Nat.zero_min, iR1, iR2, rng1, rng2, iE, itOf, sFor, bYes, Option.isNone_some, Option.isSome_some, Option.isNone_none, Option.isSome_none, Option.some.injEq, dEq_int, dNe_int, dEq_II, dEq_OO, dEq_OI, dEq_IO, dEq_PP, dNe_PP, dIs_O, dIsnt_O, dIs_I, dIsnt_I, dIs_non, dIsnt_non, dIn_IT, dIn_IL, dIdx_tup, dIdx_lst, dIdx_scr, dAdd_int, atI0, atI1, atI2, atI3, atI4, atI5, vw_last, get_last, set_last, app_last, ix0, t1]) ?_)
        refine Good.seq (Good.nx (ρ := [some (.lst (ls.map encL)), some (encO a), some (encO b), some (encPc p), some (encL l), some (encO (settleF ls p).1), some (encP (settleF ls p).2), some (.ref 0), none]) (h := [.lst []]) (by simp only [sSeq, sIf, sB, sE, sAsg, sRet, sRetN, sNil, sExpr, sBrk, sCnt, gN, gT, gsC, gsN, FK.e1, FK.e2, eC, eVar, eCall, aNil, aCons, M.bind, M.pure, eTup, eLst, eSl, oNone, oSome, bT, bNot, bAnd, bOr, eAnd, eOr, eNot, eIf, eCh, truth, eMs, eMl, dSub, dMul, dFdiv, dMod, dLe, dLt, dGe, dGt, D.isNon, dSl, dLen, dInt, dOrd_one, dMax2, dMin2, dTuple, dList, dListC, dApp, dNeg, vw, seq, lstOf, fnD, List.map_cons, List.map_nil, List.length_cons, List.length_nil, List.cons_append, List.nil_append, List.append_nil, List.replicate_succ, List.replicate_zero, List.getElem?_cons_zero, List.getElem?_cons_succ, List.set_cons_zero, List.set_cons_succ, Int.cast_ofNat_Int, Nat.reduceBEq, Int.reduceBEq, Nat.reduceAdd, Nat.reduceSub, Nat.reduceLT, Nat.reduceLeDiff, Nat.zero_add, Nat.add_zero, Nat.sub_zero, Nat.sub_self, ↓reduceIte, if_true, if_false, Bool.not_true, Bool.not_false, Bool.false_eq_true, Bool.true_eq_false, decide_true, decide_false, decide_not, true_and, and_true, and_self, true_or, or_true, not_true_eq_false, not_false_eq_true, ne_eq, reduceCtorEq, Int.reduceLT, Int.reduceLE, Int.reduceNeg, Int.reduceSub, Int.reduceAdd, Int.reduceMul, Int.reducePow, Int.reduceToNat, sz, D.dat, D.datL, D.dep, D.depL, szl, inb, List.any_cons, List.any_nil, Bool.true_and, Bool.false_and, Bool.and_true, Bool.and_false, Bool.or_false, Bool.false_or, Bool.true_or, Bool.or_true, Nat.max_self, Nat.max_zero, Nat.zero_max, Nat.min_self, Nat.zero_le, Nat.min_zero, Nat.zero_min, iR1, iR2, rng1, rng2, iE, itOf, sFor, bYes, Option.isNone_some, Option.isSome_some, Option.isNone_none, Option.isSome_none, Option.some.injEq, dEq_int, dNe_int, dEq_II, dEq_OO, dEq_OI, dEq_IO, dEq_PP, dNe_PP, dIs_O, dIsnt_O, dIs_I, dIsnt_I, dIs_non, dIsnt_non, dIn_IT, dIn_IL, dIdx_tup, dIdx_lst, dIdx_scr, dAdd_int, atI0, atI1, atI2, atI3, atI4, atI5, vw_last, get_last, set_last, app_last, eNew_nil]) ?_)
        refine Good.seq (Good.build (en := encL) (f := fL fun x => if x.id = l.id then { x with ins := (settleF ls p).1, below := (settleF ls p).2 } else x) (hh := fun acc => [.lst acc]) (o := none) (I := fun ρ => ∃ y, ρ = [some (.lst (ls.map encL)), some (encO a), some (encO b), some (encPc p), some (encL l), some (encO (settleF ls p).1), some (encP (settleF ls p).2), some (.ref 0), y]) 1000000 (xs := ls) (acc := []) rfl (fun _ => trivial) ⟨_, rfl⟩ ?_ ?_ ?_)
        · rw [flat_fL, List.length_map, List.length_map]
          show 0 + _ ≤ _
          omega
        · rintro x hx ρ acc ⟨y, rfl⟩ hB
          have ha : acc.length < 16777216 := by omega
          refine ⟨_, rfl, _, ⟨some (encL x), rfl⟩, .inl ?_⟩
          unfold fL
          by_cases c1 : x.id = l.id
          · obtain rfl := uniq w.nd hx hm c1
            simp only [sSeq, sIf, sB, sE, sAsg, sRet, sRetN, sNil, sExpr, sBrk, sCnt, gN, gT, gsC, gsN, FK.e1, FK.e2, eC, eVar, eCall, aNil, aCons, M.bind, M.pure, eTup, eLst, eNew, eSl, oNone, oSome, bT, bNot, bAnd, bOr, eAnd, eOr, eNot, eIf, eCh, truth, eMs, eMl, dSub, dMul, dFdiv, dMod, dLe, dLt, dGe, dGt, D.isNon, dSl, dLen, dInt, dOrd_one, dMax2, dMin2, dTuple, dList, dListC, dApp, dNeg, vw, seq, lstOf, fnD, List.map_cons, List.map_nil, List.length_cons, List.length_nil, List.cons_append, List.nil_append, List.append_nil, List.replicate_succ, List.replicate_zero, List.getElem?_cons_zero, List.getElem?_cons_succ, List.set_cons_zero, List.set_cons_succ, Int.cast_ofNat_Int, Nat.reduceBEq, Int.reduceBEq, Nat.reduceAdd, Nat.reduceSub, Nat.reduceLT, Nat.reduceLeDiff, Nat.zero_add, Nat.add_zero, Nat.sub_zero, Nat.sub_self, ↓reduceIte, if_true, if_false, Bool.not_true, Bool.not_false, Bool.false_eq_true, Bool.true_eq_false, decide_true, decide_false, decide_not, true_and, and_true, and_self, true_or, or_true, not_true_eq_false, not_false_eq_true, ne_eq, reduceCtorEq, Int.reduceLT, Int.reduceLE, Int.reduceNeg, Int.reduceSub, Int.reduceAdd, Int.reduceMul, Int.reducePow, Int.reduceToNat, sz, D.dat, D.datL, D.dep, D.depL, szl, inb, List.any_cons, List.any_nil, Bool.true_and, Bool.false_and, Bool.and_true, Bool.and_false, Bool.or_false, Bool.false_or, Bool.true_or, Bool.or_true, Nat.max_self, Nat.max_zero, Nat.zero_max, Nat.min_self, Nat.zero_le, Nat.min_zero, Nat.zero_min, iR1, iR2, rng1, rng2, iE, itOf, sFor, bYes, Option.isNone_some, Option.isSome_some, Option.isNone_none, Option.isSome_none, Option.some.injEq, dEq_int, dNe_int, dEq_II, dEq_OO, dEq_OI, dEq_IO, dEq_PP, dNe_PP, dIs_O, dIsnt_O, dIs_I, dIsnt_I, dIs_non, dIsnt_non, dIn_IT, dIn_IL, dIdx_tup, dIdx_lst, dIdx_scr, dAdd_int, atI0, atI1, atI2, atI3, atI4, atI5, vw_last, get_last, set_last, app_last, ix0, ix1, ix4, ha]
            rfl
          · simp only [sSeq, sIf, sB, sE, sAsg, sRet, sRetN, sNil, sExpr, sBrk, sCnt, gN, gT, gsC, gsN, FK.e1, FK.e2, eC, eVar, eCall, aNil, aCons, M.bind, M.pure, eTup, eLst, eNew, eSl, oNone, oSome, bT, bNot, bAnd, bOr, eAnd, eOr, eNot, eIf, eCh, truth, eMs, eMl, dSub, dMul, dFdiv, dMod, dLe, dLt, dGe, dGt, D.isNon, dSl, dLen, dInt, dOrd_one, dMax2, dMin2, dTuple, dList, dListC, dApp, dNeg, vw, seq, lstOf, fnD, List.map_cons, List.map_nil, List.length_cons, List.length_nil, List.cons_append, List.nil_append, List.append_nil, List.replicate_succ, List.replicate_zero, List.getElem?_cons_zero, List.getElem?_cons_succ, List.set_cons_zero, List.set_cons_succ, Int.cast_ofNat_Int, Nat.reduceBEq, Int.reduceBEq, Nat.reduceAdd, Nat.reduceSub, Nat.reduceLT, Nat.reduceLeDiff, Nat.zero_add, Nat.add_zero, Nat.sub_zero, Nat.sub_self, ↓reduceIte, if_true, if_false, Bool.not_true, Bool.not_false, Bool.false_eq_true, Bool.true_eq_false, decide_true, decide_false, decide_not, true_and, and_true, and_self, true_or, or_true, not_true_eq_false, not_false_eq_true, ne_eq, reduceCtorEq, Int.reduceLT, Int.reduceLE, Int.reduceNeg, Int.reduceSub, Int.reduceAdd, Int.reduceMul, Int.reducePow, Int.reduceToNat, sz, D.dat, D.datL, D.dep, D.depL, szl, inb, List.any_cons, List.any_nil, Bool.true_and, Bool.false_and, Bool.and_true, Bool.and_false, Bool.or_false, Bool.false_or, Bool.true_or, Bool.or_true, Nat.max_self, Nat.max_zero, Nat.zero_max, Nat.min_self, Nat.zero_le, Nat.min_zero, Nat.zero_min, iR1, iR2, rng1, rng2, iE, itOf, sFor, bYes, Option.isNone_some, Option.isSome_some, Option.isNone_none, Option.isSome_none, Option.some.injEq, dEq_int, dNe_int, dEq_II, dEq_OO, dEq_OI, dEq_IO, dEq_PP, dNe_PP, dIs_O, dIsnt_O, dIs_I, dIsnt_I, dIs_non, dIsnt_non, dIn_IT, dIn_IL, dIdx_tup, dIdx_lst, dIdx_scr, dAdd_int, atI0, atI1, atI2, atI3, atI4, atI5, vw_last, get_last, set_last, app_last, ix0, c1, ha]
        · rintro ρ' ⟨y, rfl⟩
          rw [flat_fL, List.nil_append]
          exact Good.rt rfl rfl)
  exact callP_ok hA e (fz_lstOf q (nrL_L _))
theorem encE_mv (i : Id) (ms : List (Option Id × Option Id × Pc)) : encE (.move i ms) = .tup [.str "move", encI i, .tup (ms.map encM)] := rfl
theorem encE_dr (i : Id) (hs : List Id) : encE (.drop i hs) = .tup [.str "drop", encI i, encT hs] := rfl
theorem encE_wr (i : Id) (p : Pc) (c : Option Mk4) (m : Option Id) (rs : List Id) : encE (.write i p c m rs) = .tup [.str "write", encI i, encPc p, encC c, encO m, encT rs] := rfl
theorem ixE_wr (i : Id) (p : Pc) (c : Option Mk4) (m : Option Id) (rs : List Id) (h : CH) : dIdx (encE (.write i p c m rs)) (.int 0) h = .ok (.str "write") h := rfl
theorem dEq_str (a b : Str) (h : CH) : dEq (.str a) (.str b) h = .ok (.bl (a == b)) h := by
  unfold dEq
  rw [if_pos ⟨rfl, rfl, by show min 0 0 ≤ 60; decide⟩]
  rfl
theorem wd_wd : ((Str.ofString "write") == (Str.ofString "drop")) = false := by decide
theorem wd_mw : ((Str.ofString "move") == (Str.ofString "write")) = false := by decide
theorem wd_md : ((Str.ofString "move") == (Str.ofString "drop")) = false := by decide
theorem wd_dw : ((Str.ofString "drop") == (Str.ofString "write")) = false := by decide
theorem wd_ww : ((Str.ofString "write") == (Str.ofString "write")) = true := by decide
theorem wd_dd : ((Str.ofString "drop") == (Str.ofString "drop")) = true := by decide
theorem lines_after_fn {n : Nat} (hn : n + 12 ≤ 1000000) {ls : List Ln} (w : Snd n ls) (hl : ls.length < 1000000) (e : Ed) (he : okE e) (fresh : ∀ l ∈ ls, l.id ≠ e.id) : d_lines_after [.lst (ls.map encL), encE e] [] = .ok (.ref 0) [.lst ((afterL ls e).map encL)] := by
  cases e with
  | write i p c m rs =>
    have e1 := write_lines_ok (by omega) w hl i p he.1 c m rs fresh []
    refine Good.fnE (ρ := [some (.lst (ls.map encL)), some (encE (.write i p c m rs)), none, none, none]) ?_
    unfold b_lines_after
    exact Good.seq (Good.rt (by simp only [sSeq, sIf, sB, sE, sAsg, sRet, sRetN, sNil, sExpr, sBrk, sCnt, gN, gT, gsC, gsN, FK.e1, FK.e2, eC, eVar, eCall, aNil, aCons, M.bind, M.pure, eTup, eLst, eNew, eSl, oNone, oSome, bT, bNot, bAnd, bOr, eAnd, eOr, eNot, eIf, eCh, truth, eMs, eMl, dSub, dMul, dFdiv, dMod, dLe, dLt, dGe, dGt, D.isNon, dSl, dLen, dInt, dOrd_one, dMax2, dMin2, dTuple, dList, dListC, dApp, dNeg, vw, seq, lstOf, fnD, List.map_cons, List.map_nil, List.length_cons, List.length_nil, List.cons_append, List.nil_append, List.append_nil, List.replicate_succ, List.replicate_zero, List.getElem?_cons_zero, List.getElem?_cons_succ, List.set_cons_zero, List.set_cons_succ, Int.cast_ofNat_Int, Nat.reduceBEq, Int.reduceBEq, Nat.reduceAdd, Nat.reduceSub, Nat.reduceLT, Nat.reduceLeDiff, Nat.zero_add, Nat.add_zero, Nat.sub_zero, Nat.sub_self, ↓reduceIte, if_true, if_false, Bool.not_true, Bool.not_false, Bool.false_eq_true, Bool.true_eq_false, decide_true, decide_false, decide_not, true_and, and_true, and_self, true_or, or_true, not_true_eq_false, not_false_eq_true, ne_eq, reduceCtorEq, Int.reduceLT, Int.reduceLE, Int.reduceNeg, Int.reduceSub, Int.reduceAdd, Int.reduceMul, Int.reducePow, Int.reduceToNat, sz, D.dat, D.datL, D.dep, D.depL, szl, inb, List.any_cons, List.any_nil, Bool.true_and, Bool.false_and, Bool.and_true, Bool.and_false, Bool.or_false, Bool.false_or, Bool.true_or, Bool.or_true, Nat.max_self, Nat.max_zero, Nat.zero_max, Nat.min_self, Nat.zero_le, Nat.min_zero, Nat.zero_min, iR1, iR2, rng1, rng2, iE, itOf, sFor, bYes, Option.isNone_some, Option.isSome_some, Option.isNone_none, Option.isSome_none, Option.some.injEq, dEq_int, dNe_int, dEq_II, dEq_OO, dEq_OI, dEq_IO, dEq_PP, dNe_PP, dIs_O, dIsnt_O, dIs_I, dIsnt_I, dIs_non, dIsnt_non, dIn_IT, dIn_IL, dIdx_tup, dIdx_lst, dIdx_scr, dAdd_int, atI0, atI1, atI2, atI3, atI4, atI5, vw_last, get_last, set_last, app_last, ixE_wr, dEq_str, wd_ww, e1]; rfl) ⟨rfl, rfl⟩)
  | drop i hs =>
    have e1 := end_heads_ok (by omega) w (by omega) hs []
    refine Good.fnE (ρ := [some (.lst (ls.map encL)), some (encE (.drop i hs)), none, none, none]) ?_
    unfold b_lines_after
    refine Good.seq (Good.nx (ρ := [some (.lst (ls.map encL)), some (encE (.drop i hs)), none, none, none]) (h := []) (by simp only [sSeq, sIf, sB, sE, sAsg, sRet, sRetN, sNil, sExpr, sBrk, sCnt, gN, gT, gsC, gsN, FK.e1, FK.e2, eC, eVar, eCall, aNil, aCons, M.bind, M.pure, eTup, eLst, eNew, eSl, oNone, oSome, bT, bNot, bAnd, bOr, eAnd, eOr, eNot, eIf, eCh, truth, eMs, eMl, dSub, dMul, dFdiv, dMod, dLe, dLt, dGe, dGt, D.isNon, dSl, dLen, dInt, dOrd_one, dMax2, dMin2, dTuple, dList, dListC, dApp, dNeg, vw, seq, lstOf, fnD, List.map_cons, List.map_nil, List.length_cons, List.length_nil, List.cons_append, List.nil_append, List.append_nil, List.replicate_succ, List.replicate_zero, List.getElem?_cons_zero, List.getElem?_cons_succ, List.set_cons_zero, List.set_cons_succ, Int.cast_ofNat_Int, Nat.reduceBEq, Int.reduceBEq, Nat.reduceAdd, Nat.reduceSub, Nat.reduceLT, Nat.reduceLeDiff, Nat.zero_add, Nat.add_zero, Nat.sub_zero, Nat.sub_self, ↓reduceIte, if_true, if_false, Bool.not_true, Bool.not_false, Bool.false_eq_true, Bool.true_eq_false, decide_true, decide_false, decide_not, true_and, and_true, and_self, true_or, or_true, not_true_eq_false, not_false_eq_true, ne_eq, reduceCtorEq, Int.reduceLT, Int.reduceLE, Int.reduceNeg, Int.reduceSub, Int.reduceAdd, Int.reduceMul, Int.reducePow, Int.reduceToNat, sz, D.dat, D.datL, D.dep, D.depL, szl, inb, List.any_cons, List.any_nil, Bool.true_and, Bool.false_and, Bool.and_true, Bool.and_false, Bool.or_false, Bool.false_or, Bool.true_or, Bool.or_true, Nat.max_self, Nat.max_zero, Nat.zero_max, Nat.min_self, Nat.zero_le, Nat.min_zero, Nat.zero_min, iR1, iR2, rng1, rng2, iE, itOf, sFor, bYes, Option.isNone_some, Option.isSome_some, Option.isNone_none, Option.isSome_none, Option.some.injEq, dEq_int, dNe_int, dEq_II, dEq_OO, dEq_OI, dEq_IO, dEq_PP, dNe_PP, dIs_O, dIsnt_O, dIs_I, dIsnt_I, dIs_non, dIsnt_non, dIn_IT, dIn_IL, dIdx_tup, dIdx_lst, dIdx_scr, dAdd_int, atI0, atI1, atI2, atI3, atI4, atI5, vw_last, get_last, set_last, app_last, encE_dr, dEq_str, wd_dw]) ?_)
    exact Good.seq (Good.rt (by simp only [sSeq, sIf, sB, sE, sAsg, sRet, sRetN, sNil, sExpr, sBrk, sCnt, gN, gT, gsC, gsN, FK.e1, FK.e2, eC, eVar, eCall, aNil, aCons, M.bind, M.pure, eTup, eLst, eNew, eSl, oNone, oSome, bT, bNot, bAnd, bOr, eAnd, eOr, eNot, eIf, eCh, truth, eMs, eMl, dSub, dMul, dFdiv, dMod, dLe, dLt, dGe, dGt, D.isNon, dSl, dLen, dInt, dOrd_one, dMax2, dMin2, dTuple, dList, dListC, dApp, dNeg, vw, seq, lstOf, fnD, List.map_cons, List.map_nil, List.length_cons, List.length_nil, List.cons_append, List.nil_append, List.append_nil, List.replicate_succ, List.replicate_zero, List.getElem?_cons_zero, List.getElem?_cons_succ, List.set_cons_zero, List.set_cons_succ, Int.cast_ofNat_Int, Nat.reduceBEq, Int.reduceBEq, Nat.reduceAdd, Nat.reduceSub, Nat.reduceLT, Nat.reduceLeDiff, Nat.zero_add, Nat.add_zero, Nat.sub_zero, Nat.sub_self, ↓reduceIte, if_true, if_false, Bool.not_true, Bool.not_false, Bool.false_eq_true, Bool.true_eq_false, decide_true, decide_false, decide_not, true_and, and_true, and_self, true_or, or_true, not_true_eq_false, not_false_eq_true, ne_eq, reduceCtorEq, Int.reduceLT, Int.reduceLE, Int.reduceNeg, Int.reduceSub, Int.reduceAdd, Int.reduceMul, Int.reducePow, Int.reduceToNat, sz, D.dat, D.datL, D.dep, D.depL, szl, inb, List.any_cons, List.any_nil, Bool.true_and, Bool.false_and, Bool.and_true, Bool.and_false, Bool.or_false, Bool.false_or, Bool.true_or, Bool.or_true, Nat.max_self, Nat.max_zero, Nat.zero_max, Nat.min_self, Nat.zero_le, Nat.min_zero, Nat.zero_min, iR1, iR2, rng1, rng2, iE, itOf, sFor, bYes, Option.isNone_some, Option.isSome_some, Option.isNone_none, Option.isSome_none, Option.some.injEq, dEq_int, dNe_int, dEq_II, dEq_OO, dEq_OI, dEq_IO, dEq_PP, dNe_PP, dIs_O, dIsnt_O, dIs_I, dIsnt_I, dIs_non, dIsnt_non, dIn_IT, dIn_IL, dIdx_tup, dIdx_lst, dIdx_scr, dAdd_int, atI0, atI1, atI2, atI3, atI4, atI5, vw_last, get_last, set_last, app_last, encE_dr, dEq_str, wd_dd, e1]; rfl) ⟨rfl, rfl⟩)
  | move i ms =>
    refine Good.fnE (ρ := [some (.lst (ls.map encL)), some (encE (.move i ms)), none, none, none]) ?_
    unfold b_lines_after
    refine Good.seq (Good.nx (ρ := [some (.lst (ls.map encL)), some (encE (.move i ms)), none, none, none]) (h := []) (by simp only [sSeq, sIf, sB, sE, sAsg, sRet, sRetN, sNil, sExpr, sBrk, sCnt, gN, gT, gsC, gsN, FK.e1, FK.e2, eC, eVar, eCall, aNil, aCons, M.bind, M.pure, eTup, eLst, eNew, eSl, oNone, oSome, bT, bNot, bAnd, bOr, eAnd, eOr, eNot, eIf, eCh, truth, eMs, eMl, dSub, dMul, dFdiv, dMod, dLe, dLt, dGe, dGt, D.isNon, dSl, dLen, dInt, dOrd_one, dMax2, dMin2, dTuple, dList, dListC, dApp, dNeg, vw, seq, lstOf, fnD, List.map_cons, List.map_nil, List.length_cons, List.length_nil, List.cons_append, List.nil_append, List.append_nil, List.replicate_succ, List.replicate_zero, List.getElem?_cons_zero, List.getElem?_cons_succ, List.set_cons_zero, List.set_cons_succ, Int.cast_ofNat_Int, Nat.reduceBEq, Int.reduceBEq, Nat.reduceAdd, Nat.reduceSub, Nat.reduceLT, Nat.reduceLeDiff, Nat.zero_add, Nat.add_zero, Nat.sub_zero, Nat.sub_self, ↓reduceIte, if_true, if_false, Bool.not_true, Bool.not_false, Bool.false_eq_true, Bool.true_eq_false, decide_true, decide_false, decide_not, true_and, and_true, and_self, true_or, or_true, not_true_eq_false, not_false_eq_true, ne_eq, reduceCtorEq, Int.reduceLT, Int.reduceLE, Int.reduceNeg, Int.reduceSub, Int.reduceAdd, Int.reduceMul, Int.reducePow, Int.reduceToNat, sz, D.dat, D.datL, D.dep, D.depL, szl, inb, List.any_cons, List.any_nil, Bool.true_and, Bool.false_and, Bool.and_true, Bool.and_false, Bool.or_false, Bool.false_or, Bool.true_or, Bool.or_true, Nat.max_self, Nat.max_zero, Nat.zero_max, Nat.min_self, Nat.zero_le, Nat.min_zero, Nat.zero_min, iR1, iR2, rng1, rng2, iE, itOf, sFor, bYes, Option.isNone_some, Option.isSome_some, Option.isNone_none, Option.isSome_none, Option.some.injEq, dEq_int, dNe_int, dEq_II, dEq_OO, dEq_OI, dEq_IO, dEq_PP, dNe_PP, dIs_O, dIsnt_O, dIs_I, dIsnt_I, dIs_non, dIsnt_non, dIn_IT, dIn_IL, dIdx_tup, dIdx_lst, dIdx_scr, dAdd_int, atI0, atI1, atI2, atI3, atI4, atI5, vw_last, get_last, set_last, app_last, encE_mv, dEq_str, wd_mw]) ?_)
    refine Good.seq (Good.nx (ρ := [some (.lst (ls.map encL)), some (encE (.move i ms)), none, none, none]) (h := []) (by simp only [sSeq, sIf, sB, sE, sAsg, sRet, sRetN, sNil, sExpr, sBrk, sCnt, gN, gT, gsC, gsN, FK.e1, FK.e2, eC, eVar, eCall, aNil, aCons, M.bind, M.pure, eTup, eLst, eNew, eSl, oNone, oSome, bT, bNot, bAnd, bOr, eAnd, eOr, eNot, eIf, eCh, truth, eMs, eMl, dSub, dMul, dFdiv, dMod, dLe, dLt, dGe, dGt, D.isNon, dSl, dLen, dInt, dOrd_one, dMax2, dMin2, dTuple, dList, dListC, dApp, dNeg, vw, seq, lstOf, fnD, List.map_cons, List.map_nil, List.length_cons, List.length_nil, List.cons_append, List.nil_append, List.append_nil, List.replicate_succ, List.replicate_zero, List.getElem?_cons_zero, List.getElem?_cons_succ, List.set_cons_zero, List.set_cons_succ, Int.cast_ofNat_Int, Nat.reduceBEq, Int.reduceBEq, Nat.reduceAdd, Nat.reduceSub, Nat.reduceLT, Nat.reduceLeDiff, Nat.zero_add, Nat.add_zero, Nat.sub_zero, Nat.sub_self, ↓reduceIte, if_true, if_false, Bool.not_true, Bool.not_false, Bool.false_eq_true, Bool.true_eq_false, decide_true, decide_false, decide_not, true_and, and_true, and_self, true_or, or_true, not_true_eq_false, not_false_eq_true, ne_eq, reduceCtorEq, Int.reduceLT, Int.reduceLE, Int.reduceNeg, Int.reduceSub, Int.reduceAdd, Int.reduceMul, Int.reducePow, Int.reduceToNat, sz, D.dat, D.datL, D.dep, D.depL, szl, inb, List.any_cons, List.any_nil, Bool.true_and, Bool.false_and, Bool.and_true, Bool.and_false, Bool.or_false, Bool.false_or, Bool.true_or, Bool.or_true, Nat.max_self, Nat.max_zero, Nat.zero_max, Nat.min_self, Nat.zero_le, Nat.min_zero, Nat.zero_min, iR1, iR2, rng1, rng2, iE, itOf, sFor, bYes, Option.isNone_some, Option.isSome_some, Option.isNone_none, Option.isSome_none, Option.some.injEq, dEq_int, dNe_int, dEq_II, dEq_OO, dEq_OI, dEq_IO, dEq_PP, dNe_PP, dIs_O, dIsnt_O, dIs_I, dIsnt_I, dIs_non, dIsnt_non, dIn_IT, dIn_IL, dIdx_tup, dIdx_lst, dIdx_scr, dAdd_int, atI0, atI1, atI2, atI3, atI4, atI5, vw_last, get_last, set_last, app_last, encE_mv, dEq_str, wd_md]) ?_)
    have hms : ∀ m ∈ ms, okP m.2.2 := he.2
    refine Good.seq (Good.fold (en := encM) (st := moveL) (o := none) (h := []) (I := fun (s : List Ln) ρ => (∃ x y z, ρ = [some (.lst (s.map encL)), some (encE (.move i ms)), x, y, z]) ∧ (∃ k, Snd k s) ∧ s.length = ls.length) (xs := ms) (s := ls) (by simp only [sSeq, sIf, sB, sE, sAsg, sRet, sRetN, sNil, sExpr, sBrk, sCnt, gN, gT, gsC, gsN, FK.e1, FK.e2, eC, eVar, eCall, aNil, aCons, M.bind, M.pure, eTup, eLst, eNew, eSl, oNone, oSome, bT, bNot, bAnd, bOr, eAnd, eOr, eNot, eIf, eCh, truth, eMs, eMl, dSub, dMul, dFdiv, dMod, dLe, dLt, dGe, dGt, D.isNon, dSl, dLen, dInt, dOrd_one, dMax2, dMin2, dTuple, dList, dListC, dApp, dNeg, vw, seq, lstOf, fnD, List.map_cons, List.map_nil, List.length_cons, List.length_nil, List.cons_append, List.nil_append, List.append_nil, List.replicate_succ, List.replicate_zero, List.getElem?_cons_zero, List.getElem?_cons_succ, List.set_cons_zero, List.set_cons_succ, Int.cast_ofNat_Int, Nat.reduceBEq, Int.reduceBEq, Nat.reduceAdd, Nat.reduceSub, Nat.reduceLT, Nat.reduceLeDiff, Nat.zero_add, Nat.add_zero, Nat.sub_zero, Nat.sub_self, ↓reduceIte, if_true, if_false, Bool.not_true, Bool.not_false, Bool.false_eq_true, Bool.true_eq_false, decide_true, decide_false, decide_not, true_and, and_true, and_self, true_or, or_true, not_true_eq_false, not_false_eq_true, ne_eq, reduceCtorEq, Int.reduceLT, Int.reduceLE, Int.reduceNeg, Int.reduceSub, Int.reduceAdd, Int.reduceMul, Int.reducePow, Int.reduceToNat, sz, D.dat, D.datL, D.dep, D.depL, szl, inb, List.any_cons, List.any_nil, Bool.true_and, Bool.false_and, Bool.and_true, Bool.and_false, Bool.or_false, Bool.false_or, Bool.true_or, Bool.or_true, Nat.max_self, Nat.max_zero, Nat.zero_max, Nat.min_self, Nat.zero_le, Nat.min_zero, Nat.zero_min, iR1, iR2, rng1, rng2, iE, itOf, sFor, bYes, Option.isNone_some, Option.isSome_some, Option.isNone_none, Option.isSome_none, Option.some.injEq, dEq_int, dNe_int, dEq_II, dEq_OO, dEq_OI, dEq_IO, dEq_PP, dNe_PP, dIs_O, dIsnt_O, dIs_I, dIsnt_I, dIs_non, dIsnt_non, dIn_IT, dIn_IL, dIdx_tup, dIdx_lst, dIdx_scr, dAdd_int, atI0, atI1, atI2, atI3, atI4, atI5, vw_last, get_last, set_last, app_last, encE_mv]) trivial ⟨⟨none, none, none, rfl⟩, ⟨n, w⟩, rfl⟩ ?_ ?_)
    · rintro m hm s ρ ⟨⟨x, y, z, rfl⟩, ⟨k, wk⟩, hk⟩
      refine ⟨[some (.lst (s.map encL)), some (encE (.move i ms)), some (encO m.1), some (encO m.2.1), some (encPc m.2.2)], rfl, ?_⟩
      have e1 := move_line_ok wk (by omega) m []
      refine ⟨_, by simp only [sSeq, sIf, sB, sE, sAsg, sRet, sRetN, sNil, sExpr, sBrk, sCnt, gN, gT, gsC, gsN, FK.e1, FK.e2, eC, eVar, eCall, aNil, aCons, M.bind, M.pure, eTup, eLst, eNew, eSl, oNone, oSome, bT, bNot, bAnd, bOr, eAnd, eOr, eNot, eIf, eCh, truth, eMs, eMl, dSub, dMul, dFdiv, dMod, dLe, dLt, dGe, dGt, D.isNon, dSl, dLen, dInt, dOrd_one, dMax2, dMin2, dTuple, dList, dListC, dApp, dNeg, vw, seq, lstOf, fnD, List.map_cons, List.map_nil, List.length_cons, List.length_nil, List.cons_append, List.nil_append, List.append_nil, List.replicate_succ, List.replicate_zero, List.getElem?_cons_zero, List.getElem?_cons_succ, List.set_cons_zero, List.set_cons_succ, Int.cast_ofNat_Int, Nat.reduceBEq, Int.reduceBEq, Nat.reduceAdd, Nat.reduceSub, Nat.reduceLT, Nat.reduceLeDiff, Nat.zero_add, Nat.add_zero, Nat.sub_zero, Nat.sub_self, ↓reduceIte, if_true, if_false, Bool.not_true, Bool.not_false, Bool.false_eq_true, Bool.true_eq_false, decide_true, decide_false, decide_not, true_and, and_true, and_self, true_or, or_true, not_true_eq_false, not_false_eq_true, ne_eq, reduceCtorEq, Int.reduceLT, Int.reduceLE, Int.reduceNeg, Int.reduceSub, Int.reduceAdd, Int.reduceMul, Int.reducePow, Int.reduceToNat, sz, D.dat, D.datL, D.dep, D.depL, szl, inb, List.any_cons, List.any_nil, Bool.true_and, Bool.false_and, Bool.and_true, Bool.and_false, Bool.or_false, Bool.false_or, Bool.true_or, Bool.or_true, Nat.max_self, Nat.max_zero, Nat.zero_max, Nat.min_self, Nat.zero_le, Nat.min_zero, Nat.zero_min, iR1, iR2, rng1, rng2, iE, itOf, sFor, bYes, Option.isNone_some, Option.isSome_some, Option.isNone_none, Option.isSome_none, Option.some.injEq, dEq_int, dNe_int, dEq_II, dEq_OO, dEq_OI, dEq_IO, dEq_PP, dNe_PP, dIs_O, dIsnt_O, dIs_I, dIsnt_I, dIs_non, dIsnt_non, dIn_IT, dIn_IL, dIdx_tup, dIdx_lst, dIdx_scr, dAdd_int, atI0, atI1, atI2, atI3, atI4, atI5, vw_last, get_last, set_last, app_last, e1]; rfl, ⟨_, _, _, rfl⟩, ⟨_, wk.moveL m (hms m hm)⟩, ?_⟩
      have := congrArg List.length (ids_moves [m] (ls := s))
      rw [List.length_map, List.length_map] at this
      rw [← hk]
      exact this
    · rintro ρ' ⟨⟨x, y, z, rfl⟩, _, _⟩
      exact Good.rt (by simp only [sSeq, sIf, sB, sE, sAsg, sRet, sRetN, sNil, sExpr, sBrk, sCnt, gN, gT, gsC, gsN, FK.e1, FK.e2, eC, eVar, eCall, aNil, aCons, M.bind, M.pure, eTup, eLst, eNew, eSl, oNone, oSome, bT, bNot, bAnd, bOr, eAnd, eOr, eNot, eIf, eCh, truth, eMs, eMl, dSub, dMul, dFdiv, dMod, dLe, dLt, dGe, dGt, D.isNon, dSl, dLen, dInt, dOrd_one, dMax2, dMin2, dTuple, dList, dListC, dApp, dNeg, vw, seq, lstOf, fnD, List.map_cons, List.map_nil, List.length_cons, List.length_nil, List.cons_append, List.nil_append, List.append_nil, List.replicate_succ, List.replicate_zero, List.getElem?_cons_zero, List.getElem?_cons_succ, List.set_cons_zero, List.set_cons_succ, Int.cast_ofNat_Int, Nat.reduceBEq, Int.reduceBEq, Nat.reduceAdd, Nat.reduceSub, Nat.reduceLT, Nat.reduceLeDiff, Nat.zero_add, Nat.add_zero, Nat.sub_zero, Nat.sub_self, ↓reduceIte, if_true, if_false, Bool.not_true, Bool.not_false, Bool.false_eq_true, Bool.true_eq_false, decide_true, decide_false, decide_not, true_and, and_true, and_self, true_or, or_true, not_true_eq_false, not_false_eq_true, ne_eq, reduceCtorEq, Int.reduceLT, Int.reduceLE, Int.reduceNeg, Int.reduceSub, Int.reduceAdd, Int.reduceMul, Int.reducePow, Int.reduceToNat, sz, D.dat, D.datL, D.dep, D.depL, szl, inb, List.any_cons, List.any_nil, Bool.true_and, Bool.false_and, Bool.and_true, Bool.and_false, Bool.or_false, Bool.false_or, Bool.true_or, Bool.or_true, Nat.max_self, Nat.max_zero, Nat.zero_max, Nat.min_self, Nat.zero_le, Nat.min_zero, Nat.zero_min, iR1, iR2, rng1, rng2, iE, itOf, sFor, bYes, Option.isNone_some, Option.isSome_some, Option.isNone_none, Option.isSome_none, Option.some.injEq, dEq_int, dNe_int, dEq_II, dEq_OO, dEq_OI, dEq_IO, dEq_PP, dNe_PP, dIs_O, dIsnt_O, dIs_I, dIsnt_I, dIs_non, dIsnt_non, dIn_IT, dIn_IL, dIdx_tup, dIdx_lst, dIdx_scr, dAdd_int, atI0, atI1, atI2, atI3, atI4, atI5, vw_last, get_last, set_last, app_last]; rfl) ⟨rfl, rfl⟩
theorem lines_after_ok {n : Nat} (hn : n + 12 ≤ 1000000) {ls : List Ln} (w : Snd n ls) (hl : ls.length < 1000000) (e : Ed) (he : okE e) (fresh : ∀ l ∈ ls, l.id ≠ e.id) (h : CH) : callP 2 d_lines_after [.lst (ls.map encL), encE e] h = .ok (.lst ((afterL ls e).map encL)) h :=
  callP_ok (nrLs ls (nr1 (flat_E e))) (lines_after_fn hn w hl e he fresh) (fz_ref rfl (nrL_L _))
theorem flatL_E : ∀ es : List Ed, D.flatL (es.map encE) = true
  | [] => rfl
  | e :: es => by
    show (D.flat (encE e) && D.flatL (es.map encE)) = true
    rw [flat_E, flatL_E es]; rfl
end FK

/-! part: LB -/
set_option linter.all false
set_option maxRecDepth 100000
set_option maxHeartbeats 4000000
namespace FK
open PySem PySem.Spec L2
/-! LB: lines as data. -/
theorem dat_L (l : Ln) : D.dat (encL l) = true := by
  show (D.dat (encI l.id) && (D.dat (encI l.head) && (D.dat (encO l.ins) && (D.dat (encP l.below) && (D.dat (encC l.ct) && true))))) = true
  rw [dat_I, dat_I, dat_O, dat_P, dat_C]; rfl
theorem datL_L : ∀ ls : List Ln, D.datL (ls.map encL) = true
  | [] => rfl
  | l :: ls => by
    show (D.dat (encL l) && D.datL (ls.map encL)) = true
    rw [dat_L, datL_L]; rfl
theorem dep_L (l : Ln) : D.dep (encL l) ≤ 2 := by
  show max (D.dep (encI l.id)) (max (D.dep (encI l.head)) (max (D.dep (encO l.ins)) (max (D.dep (encP l.below)) (max (D.dep (encC l.ct)) 0)))) + 1 ≤ 2
  have := dep_O l.ins
  have := dep_C l.ct
  rw [dep_I, dep_I, dep_P]
  omega
theorem depL_L : ∀ ls : List Ln, D.depL (ls.map encL) ≤ 2
  | [] => Nat.zero_le _
  | l :: ls => by
    have := dep_L l
    have := depL_L ls
    show max (D.dep (encL l)) (D.depL (ls.map encL)) ≤ 2
    omega
theorem dNe_LL {h : CH} {a b : D} {ls : List Ln} (ha : lstOf h a = some (ls.map encL)) (hb : lstOf h b = some (ls.map encL)) : dNe a b h = .ok (.bl false) h := by
  have v : ∀ a, lstOf h a = some (ls.map encL) → vw h a = .lst (ls.map encL) := fun a e => by
    unfold lstOf at e
    split at e
    · rename_i q; cases e; exact q
    · cases e
  have dp := depL_L ls
  unfold dNe
  rw [v a ha, v b hb, if_pos ⟨datL_L ls, datL_L ls, by show min (D.depL _ + 1) (D.depL _ + 1) ≤ 60; omega⟩, eqb_self]
  rfl
theorem dEq_LL {h : CH} {a b : D} {ls : List Ln} (ha : lstOf h a = some (ls.map encL)) (hb : lstOf h b = some (ls.map encL)) : dEq a b h = .ok (.bl true) h := by
  have v : ∀ a, lstOf h a = some (ls.map encL) → vw h a = .lst (ls.map encL) := fun a e => by
    unfold lstOf at e
    split at e
    · rename_i q; cases e; exact q
    · cases e
  have dp := depL_L ls
  unfold dEq
  rw [v a ha, v b hb, if_pos ⟨datL_L ls, datL_L ls, by show min (D.depL _ + 1) (D.depL _ + 1) ≤ 60; omega⟩, eqb_self]
theorem nr_Es (es : List Ed) : D.nr (.lst (es.map encE)) = true := flatL_nrL (flatL_E es)
theorem dNe_L1 (l : Ln) (h : CH) : dNe (encL l) (encL l) h = .ok (.bl false) h := by
  have := dep_L l
  show (if D.dat (encL l) = true ∧ D.dat (encL l) = true ∧ min (D.dep (encL l)) (D.dep (encL l)) ≤ 60 then R.ok (D.bl (!D.eqb (encL l) (encL l))) h else .bad) = _
  rw [if_pos ⟨dat_L l, dat_L l, by omega⟩, eqb_self]
  rfl
theorem dNotIn_IL (i : Id) (is : List Id) (h : CH) : dNotIn (encI i) (.lst (is.map encI)) h = .ok (.bl (!decide (i ∈ is))) h := by
  show (if (vw h (encI i)).dat = true ∧ D.datL (is.map encI) = true ∧ (vw h (encI i)).dep ≤ 60 then R.ok (D.bl (!inb (vw h (encI i)) (is.map encI))) h else .bad) = _
  rw [vw_I, if_pos ⟨rfl, datL_I is, by rw [dep_I]; decide⟩, inb_I]
theorem len_P (p : List Str) (h : CH) : dLen [encP p] h = .ok (.int p.length) h := by
  show R.ok (D.int ((p.map D.str).length : Nat)) h = _
  rw [List.length_map]
theorem dSl_P (p : List Str) (k : Nat) (hk : k ≤ p.length) (h : CH) : dSl (encP p) (some (k : Int)) none h = .ok (encP (p.drop k)) h := by
  show R.ok (D.tup (cut (p.map D.str) (some (k : Int)) none)) h = _
  rw [cut_from (by rw [List.length_map]; exact hk), ← List.map_drop]
  rfl
end FK

/-! part: LG -/
set_option linter.all false
set_option maxRecDepth 100000
set_option maxHeartbeats 4000000
namespace FK
open PySem PySem.Spec L2
/-! LG: the edits that the laws draw. -/
theorem fdiv_ok (a b : Int) (h0 : 0 < b) (h1 : b < 1073741824) (h : CH) : dFdiv (.int a) (.int b) h = .ok (.int (a / b)) h := if_pos ⟨h0, h1⟩
theorem mod_ok (a b : Int) (h0 : 0 < b) (h : CH) : dMod (.int a) (.int b) h = .ok (.int (a % b)) h := if_pos h0
theorem mul_ok (a b : Int) (h0 : -(2 ^ 64) < a ∧ a < 2 ^ 64) (h : CH) : dMul (.int a) (.int b) h = .ok (.int (a * b)) h := if_pos (.inl h0)
theorem len_lst (xs : List D) (h : CH) : dLen [.lst xs] h = .ok (.int xs.length) h := rfl
theorem atI_I {is : List Id} {k : Int} (h0 : 0 ≤ k) (h1 : k < is.length) : ∃ i, i ∈ is ∧ atI (is.map encI) k = some (encI i) := by
  obtain ⟨j, rfl⟩ : ∃ j : Nat, k = (j : Int) := ⟨k.toNat, by omega⟩
  have hj : j < is.length := by omega
  exact ⟨is[j], List.getElem_mem hj, L2.atI_nat (by rw [List.getElem?_map, List.getElem?_eq_getElem hj]; rfl)⟩
theorem pick_ok (r : Int) (is : List Id) (hl : is.length ≤ 1000000) (h : CH) : ∃ o : Option Id, (∀ i, o = some i → i ∈ is) ∧ callP 2 d_l_pick [.int r, .lst (is.map encI)] h = .ok (encO o) h := by
  have hn : D.nrL [.int r, .lst (is.map encI)] = true := by
    show (true && (D.nrL (is.map encI) && true)) = true
    rw [nrL_I]; rfl
  suffices hs : ∃ o : Option Id, (∀ i, o = some i → i ∈ is) ∧ d_l_pick [.int r, .lst (is.map encI)] [] = .ok (encO o) [] by
    obtain ⟨o, ho, e⟩ := hs
    exact ⟨o, ho, callP_ok hn e (fz_nr (nr_O o))⟩
  unfold d_l_pick b_l_pick
  by_cases h0 : is = []
  · subst h0
    exact ⟨none, by simp, by simp only [sSeq, sIf, sB, sE, sAsg, sRet, sRetN, sNil, sExpr, sBrk, sCnt, gN, gT, gsC, gsN, FK.e1, FK.e2, eC, eVar, eCall, aNil, aCons, M.bind, M.pure, eTup, eLst, eNew, eSl, oNone, oSome, bT, bNot, bAnd, bOr, eAnd, eOr, eNot, eIf, eCh, truth, eMs, eMl, dSub, dMul, dFdiv, dMod, dLe, dLt, dGe, dGt, D.isNon, dSl, dLen, dInt, dOrd_one, dMax2, dMin2, dTuple, dList, dListC, dApp, dNeg, vw, seq, lstOf, fnD, List.map_cons, List.map_nil, List.length_cons, List.length_nil, List.cons_append, List.nil_append, List.append_nil, List.replicate_succ, List.replicate_zero, List.getElem?_cons_zero, List.getElem?_cons_succ, List.set_cons_zero, List.set_cons_succ, Int.cast_ofNat_Int, Nat.reduceBEq, Int.reduceBEq, Nat.reduceAdd, Nat.reduceSub, Nat.reduceLT, Nat.reduceLeDiff, Nat.zero_add, Nat.add_zero, Nat.sub_zero, Nat.sub_self, ↓reduceIte, if_true, if_false, Bool.not_true, Bool.not_false, Bool.false_eq_true, Bool.true_eq_false, decide_true, decide_false, decide_not, true_and, and_true, and_self, true_or, or_true, not_true_eq_false, not_false_eq_true, ne_eq, reduceCtorEq, Int.reduceLT, Int.reduceLE, Int.reduceNeg, Int.reduceSub, Int.reduceAdd, Int.reduceMul, Int.reducePow, Int.reduceToNat, sz, D.dat, D.datL, D.dep, D.depL, szl, inb, List.any_cons, List.any_nil, Bool.true_and, Bool.false_and, Bool.and_true, Bool.and_false, Bool.or_false, Bool.false_or, Bool.true_or, Bool.or_true, Nat.max_self, Nat.max_zero, Nat.zero_max, Nat.min_self, Nat.zero_le, Nat.min_zero, Nat.zero_min, iR1, iR2, rng1, rng2, iE, itOf, sFor, bYes, Option.isNone_some, Option.isSome_some, Option.isNone_none, Option.isSome_none, Option.some.injEq, dEq_int, dNe_int, dEq_II, dEq_OO, dEq_OI, dEq_IO, dEq_PP, dNe_PP, dIs_O, dIsnt_O, dIs_I, dIsnt_I, dIs_non, dIsnt_non, dIn_IT, dIn_IL, dIdx_tup, dIdx_lst, dIdx_scr, dAdd_int, atI0, atI1, atI2, atI3, atI4, atI5, vw_last, get_last, set_last, app_last, len_lst]; rfl⟩
  have hp : 0 < is.length := List.length_pos_iff.mpr h0
  have hz : ¬ ((is.length : Int) = 0) := by omega
  by_cases h1 : r % 3 = 0
  · exact ⟨none, by simp, by simp only [sSeq, sIf, sB, sE, sAsg, sRet, sRetN, sNil, sExpr, sBrk, sCnt, gN, gT, gsC, gsN, FK.e1, FK.e2, eC, eVar, eCall, aNil, aCons, M.bind, M.pure, eTup, eLst, eNew, eSl, oNone, oSome, bT, bNot, bAnd, bOr, eAnd, eOr, eNot, eIf, eCh, truth, eMs, eMl, dSub, dMul, dFdiv, dMod, dLe, dLt, dGe, dGt, D.isNon, dSl, dLen, dInt, dOrd_one, dMax2, dMin2, dTuple, dList, dListC, dApp, dNeg, vw, seq, lstOf, fnD, List.map_cons, List.map_nil, List.length_cons, List.length_nil, List.cons_append, List.nil_append, List.append_nil, List.replicate_succ, List.replicate_zero, List.getElem?_cons_zero, List.getElem?_cons_succ, List.set_cons_zero, List.set_cons_succ, Int.cast_ofNat_Int, Nat.reduceBEq, Int.reduceBEq, Nat.reduceAdd, Nat.reduceSub, Nat.reduceLT, Nat.reduceLeDiff, Nat.zero_add, Nat.add_zero, Nat.sub_zero, Nat.sub_self, ↓reduceIte, if_true, if_false, Bool.not_true, Bool.not_false, Bool.false_eq_true, Bool.true_eq_false, decide_true, decide_false, decide_not, true_and, and_true, and_self, true_or, or_true, not_true_eq_false, not_false_eq_true, ne_eq, reduceCtorEq, Int.reduceLT, Int.reduceLE, Int.reduceNeg, Int.reduceSub, Int.reduceAdd, Int.reduceMul, Int.reducePow, Int.reduceToNat, sz, D.dat, D.datL, D.dep, D.depL, szl, inb, List.any_cons, List.any_nil, Bool.true_and, Bool.false_and, Bool.and_true, Bool.and_false, Bool.or_false, Bool.false_or, Bool.true_or, Bool.or_true, Nat.max_self, Nat.max_zero, Nat.zero_max, Nat.min_self, Nat.zero_le, Nat.min_zero, Nat.zero_min, iR1, iR2, rng1, rng2, iE, itOf, sFor, bYes, Option.isNone_some, Option.isSome_some, Option.isNone_none, Option.isSome_none, Option.some.injEq, dEq_int, dNe_int, dEq_II, dEq_OO, dEq_OI, dEq_IO, dEq_PP, dNe_PP, dIs_O, dIsnt_O, dIs_I, dIsnt_I, dIs_non, dIsnt_non, dIn_IT, dIn_IL, dIdx_tup, dIdx_lst, dIdx_scr, dAdd_int, atI0, atI1, atI2, atI3, atI4, atI5, vw_last, get_last, set_last, app_last, len_lst, List.length_map, hz, h1]; rfl⟩
  by_cases h2 : r / 7 % 2 = 0
  · obtain ⟨i, hi, e⟩ := atI_I (is := is) (k := r / 3 % is.length) (Int.emod_nonneg _ hz) (Int.emod_lt_of_pos _ (by omega))
    have hp2 : (0 : Int) < is.length := by omega
    exact ⟨some i, fun j e => by cases e; exact hi, by simp only [sSeq, sIf, sB, sE, sAsg, sRet, sRetN, sNil, sExpr, sBrk, sCnt, gN, gT, gsC, gsN, FK.e1, FK.e2, eC, eVar, eCall, aNil, aCons, M.bind, M.pure, eTup, eLst, eNew, eSl, oNone, oSome, bT, bNot, bAnd, bOr, eAnd, eOr, eNot, eIf, eCh, truth, eMs, eMl, dSub, dMul, dFdiv, dMod, dLe, dLt, dGe, dGt, D.isNon, dSl, dLen, dInt, dOrd_one, dMax2, dMin2, dTuple, dList, dListC, dApp, dNeg, vw, seq, lstOf, fnD, List.map_cons, List.map_nil, List.length_cons, List.length_nil, List.cons_append, List.nil_append, List.append_nil, List.replicate_succ, List.replicate_zero, List.getElem?_cons_zero, List.getElem?_cons_succ, List.set_cons_zero, List.set_cons_succ, Int.cast_ofNat_Int, Nat.reduceBEq, Int.reduceBEq, Nat.reduceAdd, Nat.reduceSub, Nat.reduceLT, Nat.reduceLeDiff, Nat.zero_add, Nat.add_zero, Nat.sub_zero, Nat.sub_self, ↓reduceIte, if_true, if_false, Bool.not_true, Bool.not_false, Bool.false_eq_true, Bool.true_eq_false, decide_true, decide_false, decide_not, true_and, and_true, and_self, true_or, or_true, not_true_eq_false, not_false_eq_true, ne_eq, reduceCtorEq, Int.reduceLT, Int.reduceLE, Int.reduceNeg, Int.reduceSub, Int.reduceAdd, Int.reduceMul, Int.reducePow, Int.reduceToNat, sz, D.dat, D.datL, D.dep, D.depL, szl, inb, List.any_cons, List.any_nil, Bool.true_and, Bool.false_and, Bool.and_true, Bool.and_false, Bool.or_false, Bool.false_or, Bool.true_or, Bool.or_true, Nat.max_self, Nat.max_zero, Nat.zero_max, Nat.min_self, Nat.zero_le, Nat.min_zero, Nat.zero_min, iR1, iR2, rng1, rng2, iE, itOf, sFor, bYes, Option.isNone_some, Option.isSome_some, Option.isNone_none, Option.isSome_none, Option.some.injEq, dEq_int, dNe_int, dEq_II, dEq_OO, dEq_OI, dEq_IO, dEq_PP, dNe_PP, dIs_O, dIsnt_O, dIs_I, dIsnt_I, dIs_non, dIsnt_non, dIn_IT, dIn_IL, dIdx_tup, dIdx_lst, dIdx_scr, dAdd_int, atI0, atI1, atI2, atI3, atI4, atI5, vw_last, get_last, set_last, app_last, len_lst, List.length_map, hz, h1, h2, if_pos hp2, e]; rfl⟩
  · obtain ⟨m, hm, hm2, hm3⟩ : ∃ m : Int, (if (is.length : Int) < 3 then (is.length : Int) else 3) = m ∧ 0 < m ∧ m ≤ is.length := ⟨_, rfl, by split <;> omega, by split <;> omega⟩
    have q1 := Int.emod_nonneg (r / 3) (show m ≠ 0 by omega)
    have q2 := Int.emod_lt_of_pos (r / 3) hm2
    obtain ⟨i, hi, e⟩ := atI_I (is := is) (k := is.length - 1 - r / 3 % m) (by omega) (by omega)
    exact ⟨some i, fun j e => by cases e; exact hi, by simp only [sSeq, sIf, sB, sE, sAsg, sRet, sRetN, sNil, sExpr, sBrk, sCnt, gN, gT, gsC, gsN, FK.e1, FK.e2, eC, eVar, eCall, aNil, aCons, M.bind, M.pure, eTup, eLst, eNew, eSl, oNone, oSome, bT, bNot, bAnd, bOr, eAnd, eOr, eNot, eIf, eCh, truth, eMs, eMl, dSub, dMul, dFdiv, dMod, dLe, dLt, dGe, dGt, D.isNon, dSl, dLen, dInt, dOrd_one, dMax2, dMin2, dTuple, dList, dListC, dApp, dNeg, vw, seq, lstOf, fnD, List.map_cons, List.map_nil, List.length_cons, List.length_nil, List.cons_append, List.nil_append, List.append_nil, List.replicate_succ, List.replicate_zero, List.getElem?_cons_zero, List.getElem?_cons_succ, List.set_cons_zero, List.set_cons_succ, Int.cast_ofNat_Int, Nat.reduceBEq, Int.reduceBEq, Nat.reduceAdd, Nat.reduceSub, Nat.reduceLT, Nat.reduceLeDiff, Nat.zero_add, Nat.add_zero, Nat.sub_zero, Nat.sub_self, ↓reduceIte, if_true, if_false, Bool.not_true, Bool.not_false, Bool.false_eq_true, Bool.true_eq_false, decide_true, decide_false, decide_not, true_and, and_true, and_self, true_or, or_true, not_true_eq_false, not_false_eq_true, ne_eq, reduceCtorEq, Int.reduceLT, Int.reduceLE, Int.reduceNeg, Int.reduceSub, Int.reduceAdd, Int.reduceMul, Int.reducePow, Int.reduceToNat, sz, D.dat, D.datL, D.dep, D.depL, szl, inb, List.any_cons, List.any_nil, Bool.true_and, Bool.false_and, Bool.and_true, Bool.and_false, Bool.or_false, Bool.false_or, Bool.true_or, Bool.or_true, Nat.max_self, Nat.max_zero, Nat.zero_max, Nat.min_self, Nat.zero_le, Nat.min_zero, Nat.zero_min, iR1, iR2, rng1, rng2, iE, itOf, sFor, bYes, Option.isNone_some, Option.isSome_some, Option.isNone_none, Option.isSome_none, Option.some.injEq, dEq_int, dNe_int, dEq_II, dEq_OO, dEq_OI, dEq_IO, dEq_PP, dNe_PP, dIs_O, dIsnt_O, dIs_I, dIsnt_I, dIs_non, dIsnt_non, dIn_IT, dIn_IL, dIdx_tup, dIdx_lst, dIdx_scr, dAdd_int, atI0, atI1, atI2, atI3, atI4, atI5, vw_last, get_last, set_last, app_last, len_lst, List.length_map, hz, h1, h2, hm, if_pos hm2, e]; rfl⟩
abbrev nms : List Str := ["a", "b", "c.txt", "d"]
theorem path_ok (r : Int) (m : Int) (h0 : 0 < m) (h1 : m ≤ 3) (h : CH) : ∃ p : List Str, p.length ≤ 3 ∧ 0 < p.length ∧ (∀ x ∈ p, x ∈ nms) ∧ callP 2 d_l_path [.int r, .int m] h = .ok (encP p) h := by
  have q1 := Int.emod_nonneg (r / 5) (show m ≠ 0 by omega)
  have q2 := Int.emod_lt_of_pos (r / 5) h0
  have hr : inR (1 + r / 5 % m) := ⟨by omega, by omega⟩
  obtain ⟨ys, e, l, pp⟩ := eLc_list (it := (iR1 (aCons (FK.e2 dAdd (eC (.int 1)) (FK.e2 dMod (eCall dInt (aCons (FK.e2 dFdiv (eVar 0) (eC (.int 5))) (aNil))) (eVar 1))) (aNil)))) (g := gN 3) (f := (FK.e2 dIdx (eVar 2) (FK.e2 dMod (eCall dInt (aCons (FK.e2 dFdiv (eVar 0) (FK.e2 dAdd (FK.e2 dMul (eC (.int 11)) (eVar 3)) (eC (.int 3)))) (aNil))) (eC (.int 4))))) (vs := [3])
    (ρ := [some (.int r), some (.int m), some (.lst (nms.map .str)), none]) (h := []) (ds := rangeD 0 (1 + r / 5 % m)) (fun _ y => ∃ x : Str, y = .str x ∧ x ∈ nms) (by simp only [sSeq, sIf, sB, sE, sAsg, sRet, sRetN, sNil, sExpr, sBrk, sCnt, gN, gT, gsC, gsN, FK.e1, FK.e2, eC, eVar, eCall, aNil, aCons, M.bind, M.pure, eTup, eLst, eNew, eSl, oNone, oSome, bT, bNot, bAnd, bOr, eAnd, eOr, eNot, eIf, eCh, truth, eMs, eMl, dSub, dMul, dFdiv, dMod, dLe, dLt, dGe, dGt, D.isNon, dSl, dLen, dInt, dOrd_one, dMax2, dMin2, dTuple, dList, dListC, dApp, dNeg, vw, seq, lstOf, fnD, List.map_cons, List.map_nil, List.length_cons, List.length_nil, List.cons_append, List.nil_append, List.append_nil, List.replicate_succ, List.replicate_zero, List.getElem?_cons_zero, List.getElem?_cons_succ, List.set_cons_zero, List.set_cons_succ, Int.cast_ofNat_Int, Nat.reduceBEq, Int.reduceBEq, Nat.reduceAdd, Nat.reduceSub, Nat.reduceLT, Nat.reduceLeDiff, Nat.zero_add, Nat.add_zero, Nat.sub_zero, Nat.sub_self, ↓reduceIte, if_true, if_false, Bool.not_true, Bool.not_false, Bool.false_eq_true, Bool.true_eq_false, decide_true, decide_false, decide_not, true_and, and_true, and_self, true_or, or_true, not_true_eq_false, not_false_eq_true, ne_eq, reduceCtorEq, Int.reduceLT, Int.reduceLE, Int.reduceNeg, Int.reduceSub, Int.reduceAdd, Int.reduceMul, Int.reducePow, Int.reduceToNat, sz, D.dat, D.datL, D.dep, D.depL, szl, inb, List.any_cons, List.any_nil, Bool.true_and, Bool.false_and, Bool.and_true, Bool.and_false, Bool.or_false, Bool.false_or, Bool.true_or, Bool.or_true, Nat.max_self, Nat.max_zero, Nat.zero_max, Nat.min_self, Nat.zero_le, Nat.min_zero, Nat.zero_min, iR1, iR2, rng1, rng2, iE, itOf, sFor, bYes, Option.isNone_some, Option.isSome_some, Option.isNone_none, Option.isSome_none, Option.some.injEq, dEq_int, dNe_int, dEq_II, dEq_OO, dEq_OI, dEq_IO, dEq_PP, dNe_PP, dIs_O, dIsnt_O, dIs_I, dIsnt_I, dIs_non, dIsnt_non, dIn_IT, dIn_IL, dIdx_tup, dIdx_lst, dIdx_scr, dAdd_int, atI0, atI1, atI2, atI3, atI4, atI5, vw_last, get_last, set_last, app_last, if_pos h0, if_pos hr]) (by rw [length_rangeD]; omega) (fun j d e => by
      obtain ⟨rfl, hj⟩ := getElem?_rangeD e
      obtain ⟨v, hv, hm⟩ := atI_mem (xs := nms.map D.str) (k := r / (11 * (0 + (j : Int)) + 3) % 4) (by omega) (by show _ < (4 : Int); omega)
      obtain ⟨x, hx, rfl⟩ := List.mem_map.mp hm
      refine ⟨_, _, rfl, ?_, x, rfl, hx⟩
      have d1 := fdiv_ok r (11 * (0 + (j : Int)) + 3) (by omega) (by omega) []
      have m1 := mul_ok 11 (0 + (j : Int)) ⟨by decide, by decide⟩ []
      generalize hN : nms.map D.str = NN at hv ⊢
      simp only [sSeq, sIf, sB, sE, sAsg, sRet, sRetN, sNil, sExpr, sBrk, sCnt, gN, gT, gsC, gsN, FK.e1, FK.e2, eC, eVar, eCall, aNil, aCons, M.bind, M.pure, eTup, eLst, eNew, eSl, oNone, oSome, bT, bNot, bAnd, bOr, eAnd, eOr, eNot, eIf, eCh, truth, eMs, eMl, dSub, dMod, dLe, dLt, dGe, dGt, D.isNon, dSl, dLen, dInt, dOrd_one, dMax2, dMin2, dTuple, dList, dListC, dApp, dNeg, vw, seq, lstOf, fnD, List.map_cons, List.map_nil, List.length_cons, List.length_nil, List.cons_append, List.nil_append, List.append_nil, List.replicate_succ, List.replicate_zero, List.getElem?_cons_zero, List.getElem?_cons_succ, List.set_cons_zero, List.set_cons_succ, Int.cast_ofNat_Int, Nat.reduceBEq, Int.reduceBEq, Nat.reduceAdd, Nat.reduceSub, Nat.reduceLT, Nat.reduceLeDiff, Nat.zero_add, Nat.add_zero, Nat.sub_zero, Nat.sub_self, ↓reduceIte, if_true, if_false, Bool.not_true, Bool.not_false, Bool.false_eq_true, Bool.true_eq_false, decide_true, decide_false, decide_not, true_and, and_true, and_self, true_or, or_true, not_true_eq_false, not_false_eq_true, ne_eq, reduceCtorEq, Int.reduceLT, Int.reduceLE, Int.reduceNeg, Int.reduceSub, Int.reduceAdd, Int.reduceMul, Int.reducePow, Int.reduceToNat, sz, D.dat, D.datL, D.dep, D.depL, szl, inb, List.any_cons, List.any_nil, Bool.true_and, Bool.false_and, Bool.and_true, Bool.and_false, Bool.or_false, Bool.false_or, Bool.true_or, Bool.or_true, Nat.max_self, Nat.max_zero, Nat.zero_max, Nat.min_self, Nat.zero_le, Nat.min_zero, Nat.zero_min, iR1, iR2, rng1, rng2, iE, itOf, sFor, bYes, Option.isNone_some, Option.isSome_some, Option.isNone_none, Option.isSome_none, Option.some.injEq, dEq_int, dNe_int, dEq_II, dEq_OO, dEq_OI, dEq_IO, dEq_PP, dNe_PP, dIs_O, dIsnt_O, dIs_I, dIsnt_I, dIs_non, dIsnt_non, dIn_IT, dIn_IL, dIdx_tup, dIdx_lst, dIdx_scr, dAdd_int, atI0, atI1, atI2, atI3, atI4, atI5, vw_last, get_last, set_last, app_last, wipeE, d1, m1, hv])
  obtain ⟨zs, rfl, hz⟩ := strs_of pp
  have hl : zs.length = (1 + r / 5 % m - 0).toNat := by rw [← length_rangeD, ← l, List.length_map]
  refine ⟨zs, by omega, by omega, hz, callP_ok rfl (fnD_rt (ρ := [some (.int r), some (.int m), none, none]) (ρ' := [some (.int r), some (.int m), some (.lst (nms.map .str)), none]) (d := encP zs) (h' := []) ?_) (fz_nr (nr_P zs))⟩
  unfold b_l_path
  refine seq_eq (ρ1 := [some (.int r), some (.int m), some (.lst (nms.map .str)), none]) (h1 := []) rfl ?_
  generalize hN : nms.map D.str = NN at e ⊢
  simp only [sSeq, sIf, sB, sE, sAsg, sRet, sRetN, sNil, sExpr, sBrk, sCnt, gN, gT, gsC, gsN, FK.e1, FK.e2, eC, eVar, eCall, aNil, aCons, M.bind, M.pure, eTup, eLst, eNew, eSl, oNone, oSome, bT, bNot, bAnd, bOr, eAnd, eOr, eNot, eIf, eCh, truth, eMs, eMl, dSub, dMul, dFdiv, dMod, dLe, dLt, dGe, dGt, D.isNon, dSl, dLen, dInt, dOrd_one, dMax2, dMin2, dTuple, dList, dListC, dApp, dNeg, vw, seq, lstOf, fnD, List.map_cons, List.map_nil, List.length_cons, List.length_nil, List.cons_append, List.nil_append, List.append_nil, List.replicate_succ, List.replicate_zero, List.getElem?_cons_zero, List.getElem?_cons_succ, List.set_cons_zero, List.set_cons_succ, Int.cast_ofNat_Int, Nat.reduceBEq, Int.reduceBEq, Nat.reduceAdd, Nat.reduceSub, Nat.reduceLT, Nat.reduceLeDiff, Nat.zero_add, Nat.add_zero, Nat.sub_zero, Nat.sub_self, ↓reduceIte, if_true, if_false, Bool.not_true, Bool.not_false, Bool.false_eq_true, Bool.true_eq_false, decide_true, decide_false, decide_not, true_and, and_true, and_self, true_or, or_true, not_true_eq_false, not_false_eq_true, ne_eq, reduceCtorEq, Int.reduceLT, Int.reduceLE, Int.reduceNeg, Int.reduceSub, Int.reduceAdd, Int.reduceMul, Int.reducePow, Int.reduceToNat, sz, D.dat, D.datL, D.dep, D.depL, szl, inb, List.any_cons, List.any_nil, Bool.true_and, Bool.false_and, Bool.and_true, Bool.and_false, Bool.or_false, Bool.false_or, Bool.true_or, Bool.or_true, Nat.max_self, Nat.max_zero, Nat.zero_max, Nat.min_self, Nat.zero_le, Nat.min_zero, Nat.zero_min, iR1, iR2, rng1, rng2, iE, itOf, sFor, bYes, Option.isNone_some, Option.isSome_some, Option.isNone_none, Option.isSome_none, Option.some.injEq, dEq_int, dNe_int, dEq_II, dEq_OO, dEq_OI, dEq_IO, dEq_PP, dNe_PP, dIs_O, dIsnt_O, dIs_I, dIsnt_I, dIs_non, dIsnt_non, dIn_IT, dIn_IL, dIdx_tup, dIdx_lst, dIdx_scr, dAdd_int, atI0, atI1, atI2, atI3, atI4, atI5, vw_last, get_last, set_last, app_last, e]
  rfl
def okPn (p : Pc) : Prop := p.below ≠ [] ∧ p.seen ≠ []
theorem place_okN (r : Int) (is : List Id) (hl : is.length ≤ 1000000) (h : CH) : ∃ p : Pc, okP p ∧ okPn p ∧ callP 2 d_l_place [.int r, .lst (is.map encI)] h = .ok (encPc p) h := by
  have hn : D.nrL [.int r, .lst (is.map encI)] = true := by
    show (true && (D.nrL (is.map encI) && true)) = true
    rw [nrL_I]; rfl
  obtain ⟨o, ho, e1⟩ := pick_ok (r / 2) is hl []
  obtain ⟨p, hp, hp0, _, e2⟩ := path_ok (r / 13) 2 (by decide) (by decide) []
  obtain ⟨q, hq, hq0, _, e3⟩ := path_ok (r / 101) 3 (by decide) (by decide) []
  refine ⟨⟨o, p, q⟩, ⟨hp, hq⟩, ⟨List.length_pos_iff.mp hp0, List.length_pos_iff.mp hq0⟩, callP_ok (d := encPc ⟨o, p, q⟩) (h' := []) hn ?_ (fz_nr (D.nr_flat _ (flat_Pc _)))⟩
  unfold d_l_place b_l_place
  simp only [sSeq, sIf, sB, sE, sAsg, sRet, sRetN, sNil, sExpr, sBrk, sCnt, gN, gT, gsC, gsN, FK.e1, FK.e2, eC, eVar, eCall, aNil, aCons, M.bind, M.pure, eTup, eLst, eNew, eSl, oNone, oSome, bT, bNot, bAnd, bOr, eAnd, eOr, eNot, eIf, eCh, truth, eMs, eMl, dSub, dMul, dFdiv, dMod, dLe, dLt, dGe, dGt, D.isNon, dSl, dLen, dInt, dOrd_one, dMax2, dMin2, dTuple, dList, dListC, dApp, dNeg, vw, seq, lstOf, fnD, List.map_cons, List.map_nil, List.length_cons, List.length_nil, List.cons_append, List.nil_append, List.append_nil, List.replicate_succ, List.replicate_zero, List.getElem?_cons_zero, List.getElem?_cons_succ, List.set_cons_zero, List.set_cons_succ, Int.cast_ofNat_Int, Nat.reduceBEq, Int.reduceBEq, Nat.reduceAdd, Nat.reduceSub, Nat.reduceLT, Nat.reduceLeDiff, Nat.zero_add, Nat.add_zero, Nat.sub_zero, Nat.sub_self, ↓reduceIte, if_true, if_false, Bool.not_true, Bool.not_false, Bool.false_eq_true, Bool.true_eq_false, decide_true, decide_false, decide_not, true_and, and_true, and_self, true_or, or_true, not_true_eq_false, not_false_eq_true, ne_eq, reduceCtorEq, Int.reduceLT, Int.reduceLE, Int.reduceNeg, Int.reduceSub, Int.reduceAdd, Int.reduceMul, Int.reducePow, Int.reduceToNat, sz, D.dat, D.datL, D.dep, D.depL, szl, inb, List.any_cons, List.any_nil, Bool.true_and, Bool.false_and, Bool.and_true, Bool.and_false, Bool.or_false, Bool.false_or, Bool.true_or, Bool.or_true, Nat.max_self, Nat.max_zero, Nat.zero_max, Nat.min_self, Nat.zero_le, Nat.min_zero, Nat.zero_min, iR1, iR2, rng1, rng2, iE, itOf, sFor, bYes, Option.isNone_some, Option.isSome_some, Option.isNone_none, Option.isSome_none, Option.some.injEq, dEq_int, dNe_int, dEq_II, dEq_OO, dEq_OI, dEq_IO, dEq_PP, dNe_PP, dIs_O, dIsnt_O, dIs_I, dIsnt_I, dIs_non, dIsnt_non, dIn_IT, dIn_IL, dIdx_tup, dIdx_lst, dIdx_scr, dAdd_int, atI0, atI1, atI2, atI3, atI4, atI5, vw_last, get_last, set_last, app_last, e1, e2, e3]
  rfl
theorem heads_ok (r : Int) (is : List Id) (hl : is.length ≤ 1000000) (h : CH) : ∃ hs : List Id, hs.length ≤ 3 ∧ (∀ i ∈ hs, i ∈ is) ∧ callP 2 d_l_heads [.int r, .lst (is.map encI)] h = .ok (encT hs) h := by
  have hn : D.nrL [.int r, .lst (is.map encI)] = true := by
    show (true && (D.nrL (is.map encI) && true)) = true
    rw [nrL_I]; rfl
  have hr : inR (r / 17 % 4) := ⟨by omega, by omega⟩
  obtain ⟨d, h', e, hs, h1, h2, rfl⟩ := Good.fn (N := 5) (body := b_l_heads) (ds := [.int r, .lst (is.map encI)]) (h := []) (ρ := [some (.int r), some (.lst (is.map encI)), none, none, none]) (T := fun d h' => ∃ hs : List Id, hs.length ≤ 3 ∧ (∀ i ∈ hs, i ∈ is) ∧ d = encT hs) (by
    unfold b_l_heads
    refine Good.seq (Good.nx (ρ := [some (.int r), some (.lst (is.map encI)), some (.ref 0), none, none]) (h := [.lst []]) (by simp only [sSeq, sIf, sB, sE, sAsg, sRet, sRetN, sNil, sExpr, sBrk, sCnt, gN, gT, gsC, gsN, FK.e1, FK.e2, eC, eVar, eCall, aNil, aCons, M.bind, M.pure, eTup, eLst, eSl, oNone, oSome, bT, bNot, bAnd, bOr, eAnd, eOr, eNot, eIf, eCh, truth, eMs, eMl, dSub, dMul, dFdiv, dMod, dLe, dLt, dGe, dGt, D.isNon, dSl, dLen, dInt, dOrd_one, dMax2, dMin2, dTuple, dList, dListC, dApp, dNeg, vw, seq, lstOf, fnD, List.map_cons, List.map_nil, List.length_cons, List.length_nil, List.cons_append, List.nil_append, List.append_nil, List.replicate_succ, List.replicate_zero, List.getElem?_cons_zero, List.getElem?_cons_succ, List.set_cons_zero, List.set_cons_succ, Int.cast_ofNat_Int, Nat.reduceBEq, Int.reduceBEq, Nat.reduceAdd, Nat.reduceSub, Nat.reduceLT, Nat.reduceLeDiff, Nat.zero_add, Nat.add_zero, Nat.sub_zero, Nat.sub_self, ↓reduceIte, if_true, if_false, Bool.not_true, Bool.not_false, Bool.false_eq_true, Bool.true_eq_false, decide_true, decide_false, decide_not, true_and, and_true, and_self, true_or, or_true, not_true_eq_false, not_false_eq_true, ne_eq, reduceCtorEq, Int.reduceLT, Int.reduceLE, Int.reduceNeg, Int.reduceSub, Int.reduceAdd, Int.reduceMul, Int.reducePow, Int.reduceToNat, sz, D.dat, D.datL, D.dep, D.depL, szl, inb, List.any_cons, List.any_nil, Bool.true_and, Bool.false_and, Bool.and_true, Bool.and_false, Bool.or_false, Bool.false_or, Bool.true_or, Bool.or_true, Nat.max_self, Nat.max_zero, Nat.zero_max, Nat.min_self, Nat.zero_le, Nat.min_zero, Nat.zero_min, iR1, iR2, rng1, rng2, iE, itOf, sFor, bYes, Option.isNone_some, Option.isSome_some, Option.isNone_none, Option.isSome_none, Option.some.injEq, dEq_int, dNe_int, dEq_II, dEq_OO, dEq_OI, dEq_IO, dEq_PP, dNe_PP, dIs_O, dIsnt_O, dIs_I, dIsnt_I, dIs_non, dIsnt_non, dIn_IT, dIn_IL, dIdx_tup, dIdx_lst, dIdx_scr, dAdd_int, atI0, atI1, atI2, atI3, atI4, atI5, vw_last, get_last, set_last, app_last, eNew_nil]) ?_)
    refine Good.seq (Good.sFor (ds := rangeD 0 (r / 17 % 4)) (h1 := [.lst []]) (by simp only [sSeq, sIf, sB, sE, sAsg, sRet, sRetN, sNil, sExpr, sBrk, sCnt, gN, gT, gsC, gsN, FK.e1, FK.e2, eC, eVar, eCall, aNil, aCons, M.bind, M.pure, eTup, eLst, eNew, eSl, oNone, oSome, bT, bNot, bAnd, bOr, eAnd, eOr, eNot, eIf, eCh, truth, eMs, eMl, dSub, dMul, dFdiv, dMod, dLe, dLt, dGe, dGt, D.isNon, dSl, dLen, dInt, dOrd_one, dMax2, dMin2, dTuple, dList, dListC, dApp, dNeg, vw, seq, lstOf, fnD, List.map_cons, List.map_nil, List.length_cons, List.length_nil, List.cons_append, List.nil_append, List.append_nil, List.replicate_succ, List.replicate_zero, List.getElem?_cons_zero, List.getElem?_cons_succ, List.set_cons_zero, List.set_cons_succ, Int.cast_ofNat_Int, Nat.reduceBEq, Int.reduceBEq, Nat.reduceAdd, Nat.reduceSub, Nat.reduceLT, Nat.reduceLeDiff, Nat.zero_add, Nat.add_zero, Nat.sub_zero, Nat.sub_self, ↓reduceIte, if_true, if_false, Bool.not_true, Bool.not_false, Bool.false_eq_true, Bool.true_eq_false, decide_true, decide_false, decide_not, true_and, and_true, and_self, true_or, or_true, not_true_eq_false, not_false_eq_true, ne_eq, reduceCtorEq, Int.reduceLT, Int.reduceLE, Int.reduceNeg, Int.reduceSub, Int.reduceAdd, Int.reduceMul, Int.reducePow, Int.reduceToNat, sz, D.dat, D.datL, D.dep, D.depL, szl, inb, List.any_cons, List.any_nil, Bool.true_and, Bool.false_and, Bool.and_true, Bool.and_false, Bool.or_false, Bool.false_or, Bool.true_or, Bool.or_true, Nat.max_self, Nat.max_zero, Nat.zero_max, Nat.min_self, Nat.zero_le, Nat.min_zero, Nat.zero_min, iR1, iR2, rng1, rng2, iE, itOf, sFor, bYes, Option.isNone_some, Option.isSome_some, Option.isNone_none, Option.isSome_none, Option.some.injEq, dEq_int, dNe_int, dEq_II, dEq_OO, dEq_OI, dEq_IO, dEq_PP, dNe_PP, dIs_O, dIsnt_O, dIs_I, dIsnt_I, dIs_non, dIsnt_non, dIn_IT, dIn_IL, dIdx_tup, dIdx_lst, dIdx_scr, dAdd_int, atI0, atI1, atI2, atI3, atI4, atI5, vw_last, get_last, set_last, app_last, if_pos hr]) (Good.forL (fun i ρ h => ∃ (y z : Option D) (hs : List Id), ρ = [some (.int r), some (.lst (is.map encI)), some (.ref 0), y, z] ∧ h = [.lst (hs.map encI)] ∧ hs.length ≤ i ∧ ∀ i ∈ hs, i ∈ is) _ ⟨none, none, [], rfl, rfl, Nat.le_refl _, by simp⟩ ?_ ?_))
    · rintro j d ρ h e ⟨y, z, hs, rfl, rfl, hj, hm⟩
      obtain ⟨rfl, hj2⟩ := getElem?_rangeD e
      refine ⟨_, rfl, ?_⟩
      have d1 := fdiv_ok r (23 * (0 + (j : Int)) + 5) (by omega) (by omega) [.lst (hs.map encI)]
      have m1 := mul_ok 23 (0 + (j : Int)) ⟨by decide, by decide⟩ [.lst (hs.map encI)]
      obtain ⟨o, ho, e1⟩ := pick_ok (r / (23 * (0 + (j : Int)) + 5)) is hl [.lst (hs.map encI)]
      refine Good.seq (Good.nx (ρ := [some (.int r), some (.lst (is.map encI)), some (.ref 0), some (.int (0 + (j : Int))), some (encO o)]) (h := [.lst (hs.map encI)]) (by simp only [sSeq, sIf, sB, sE, sAsg, sRet, sRetN, sNil, sExpr, sBrk, sCnt, gN, gT, gsC, gsN, FK.e1, FK.e2, eC, eVar, eCall, aNil, aCons, M.bind, M.pure, eTup, eLst, eNew, eSl, oNone, oSome, bT, bNot, bAnd, bOr, eAnd, eOr, eNot, eIf, eCh, truth, eMs, eMl, dSub, dMod, dLe, dLt, dGe, dGt, D.isNon, dSl, dLen, dInt, dOrd_one, dMax2, dMin2, dTuple, dList, dListC, dApp, dNeg, vw, seq, lstOf, fnD, List.map_cons, List.map_nil, List.length_cons, List.length_nil, List.cons_append, List.nil_append, List.append_nil, List.replicate_succ, List.replicate_zero, List.getElem?_cons_zero, List.getElem?_cons_succ, List.set_cons_zero, List.set_cons_succ, Int.cast_ofNat_Int, Nat.reduceBEq, Int.reduceBEq, Nat.reduceAdd, Nat.reduceSub, Nat.reduceLT, Nat.reduceLeDiff, Nat.zero_add, Nat.add_zero, Nat.sub_zero, Nat.sub_self, ↓reduceIte, if_true, if_false, Bool.not_true, Bool.not_false, Bool.false_eq_true, Bool.true_eq_false, decide_true, decide_false, decide_not, true_and, and_true, and_self, true_or, or_true, not_true_eq_false, not_false_eq_true, ne_eq, reduceCtorEq, Int.reduceLT, Int.reduceLE, Int.reduceNeg, Int.reduceSub, Int.reduceAdd, Int.reduceMul, Int.reducePow, Int.reduceToNat, sz, D.dat, D.datL, D.dep, D.depL, szl, inb, List.any_cons, List.any_nil, Bool.true_and, Bool.false_and, Bool.and_true, Bool.and_false, Bool.or_false, Bool.false_or, Bool.true_or, Bool.or_true, Nat.max_self, Nat.max_zero, Nat.zero_max, Nat.min_self, Nat.zero_le, Nat.min_zero, Nat.zero_min, iR1, iR2, rng1, rng2, iE, itOf, sFor, bYes, Option.isNone_some, Option.isSome_some, Option.isNone_none, Option.isSome_none, Option.some.injEq, dEq_int, dNe_int, dEq_II, dEq_OO, dEq_OI, dEq_IO, dEq_PP, dNe_PP, dIs_O, dIsnt_O, dIs_I, dIsnt_I, dIs_non, dIsnt_non, dIn_IT, dIn_IL, dIdx_tup, dIdx_lst, dIdx_scr, dAdd_int, atI0, atI1, atI2, atI3, atI4, atI5, vw_last, get_last, set_last, app_last, d1, m1, e1]) ?_)
      cases o with
      | none => exact Good.nx (by simp only [sSeq, sIf, sB, sE, sAsg, sRet, sRetN, sNil, sExpr, sBrk, sCnt, gN, gT, gsC, gsN, FK.e1, FK.e2, eC, eVar, eCall, aNil, aCons, M.bind, M.pure, eTup, eLst, eNew, eSl, oNone, oSome, bT, bNot, bAnd, bOr, eAnd, eOr, eNot, eIf, eCh, truth, eMs, eMl, dSub, dMul, dFdiv, dMod, dLe, dLt, dGe, dGt, D.isNon, dSl, dLen, dInt, dOrd_one, dMax2, dMin2, dTuple, dList, dListC, dApp, dNeg, vw, seq, lstOf, fnD, List.map_cons, List.map_nil, List.length_cons, List.length_nil, List.cons_append, List.nil_append, List.append_nil, List.replicate_succ, List.replicate_zero, List.getElem?_cons_zero, List.getElem?_cons_succ, List.set_cons_zero, List.set_cons_succ, Int.cast_ofNat_Int, Nat.reduceBEq, Int.reduceBEq, Nat.reduceAdd, Nat.reduceSub, Nat.reduceLT, Nat.reduceLeDiff, Nat.zero_add, Nat.add_zero, Nat.sub_zero, Nat.sub_self, ↓reduceIte, if_true, if_false, Bool.not_true, Bool.not_false, Bool.false_eq_true, Bool.true_eq_false, decide_true, decide_false, decide_not, true_and, and_true, and_self, true_or, or_true, not_true_eq_false, not_false_eq_true, ne_eq, reduceCtorEq, Int.reduceLT, Int.reduceLE, Int.reduceNeg, Int.reduceSub, Int.reduceAdd, Int.reduceMul, Int.reducePow, Int.reduceToNat, sz, D.dat, D.datL, D.dep, D.depL, szl, inb, List.any_cons, List.any_nil, Bool.true_and, Bool.false_and, Bool.and_true, Bool.and_false, Bool.or_false, Bool.false_or, Bool.true_or, Bool.or_true, Nat.max_self, Nat.max_zero, Nat.zero_max, Nat.min_self, Nat.zero_le, Nat.min_zero, Nat.zero_min, iR1, iR2, rng1, rng2, iE, itOf, sFor, bYes, Option.isNone_some, Option.isSome_some, Option.isNone_none, Option.isSome_none, Option.some.injEq, dEq_int, dNe_int, dEq_II, dEq_OO, dEq_OI, dEq_IO, dEq_PP, dNe_PP, dIs_O, dIsnt_O, dIs_I, dIsnt_I, dIs_non, dIsnt_non, dIn_IT, dIn_IL, dIdx_tup, dIdx_lst, dIdx_scr, dAdd_int, atI0, atI1, atI2, atI3, atI4, atI5, vw_last, get_last, set_last, app_last]; rfl) ⟨_, _, hs, rfl, rfl, by omega, hm⟩
      | some i =>
        have hz : (hs.map encI).length < 16777216 := by rw [List.length_map]; omega
        refine Good.nx (ρ := [some (.int r), some (.lst (is.map encI)), some (.ref 0), some (.int (0 + (j : Int))), some (encO (some i))]) (h := [.lst ((hs ++ [i]).map encI)]) (by simp only [sSeq, sIf, sB, sE, sAsg, sRet, sRetN, sNil, sExpr, sBrk, sCnt, gN, gT, gsC, gsN, FK.e1, FK.e2, eC, eVar, eCall, aNil, aCons, M.bind, M.pure, eTup, eLst, eNew, eSl, oNone, oSome, bT, bNot, bAnd, bOr, eAnd, eOr, eNot, eIf, eCh, truth, eMs, eMl, dSub, dMul, dFdiv, dMod, dLe, dLt, dGe, dGt, D.isNon, dSl, dLen, dInt, dOrd_one, dMax2, dMin2, dTuple, dList, dListC, dApp, dNeg, vw, seq, lstOf, fnD, List.map_cons, List.map_nil, List.length_cons, List.length_nil, List.cons_append, List.nil_append, List.append_nil, List.replicate_succ, List.replicate_zero, List.getElem?_cons_zero, List.getElem?_cons_succ, List.set_cons_zero, List.set_cons_succ, Int.cast_ofNat_Int, Nat.reduceBEq, Int.reduceBEq, Nat.reduceAdd, Nat.reduceSub, Nat.reduceLT, Nat.reduceLeDiff, Nat.zero_add, Nat.add_zero, Nat.sub_zero, Nat.sub_self, ↓reduceIte, if_true, if_false, Bool.not_true, Bool.not_false, Bool.false_eq_true, Bool.true_eq_false, decide_true, decide_false, decide_not, true_and, and_true, and_self, true_or, or_true, not_true_eq_false, not_false_eq_true, ne_eq, reduceCtorEq, Int.reduceLT, Int.reduceLE, Int.reduceNeg, Int.reduceSub, Int.reduceAdd, Int.reduceMul, Int.reducePow, Int.reduceToNat, sz, D.dat, D.datL, D.dep, D.depL, szl, inb, List.any_cons, List.any_nil, Bool.true_and, Bool.false_and, Bool.and_true, Bool.and_false, Bool.or_false, Bool.false_or, Bool.true_or, Bool.or_true, Nat.max_self, Nat.max_zero, Nat.zero_max, Nat.min_self, Nat.zero_le, Nat.min_zero, Nat.zero_min, iR1, iR2, rng1, rng2, iE, itOf, sFor, bYes, Option.isNone_some, Option.isSome_some, Option.isNone_none, Option.isSome_none, Option.some.injEq, dEq_int, dNe_int, dEq_II, dEq_OO, dEq_OI, dEq_IO, dEq_PP, dNe_PP, dIs_O, dIsnt_O, dIs_I, dIsnt_I, dIs_non, dIsnt_non, dIn_IT, dIn_IL, dIdx_tup, dIdx_lst, dIdx_scr, dAdd_int, atI0, atI1, atI2, atI3, atI4, atI5, vw_last, get_last, set_last, app_last, hz, List.map_append]; rfl) ⟨_, _, hs ++ [i], rfl, rfl, by rw [List.length_append]; exact Nat.succ_le_succ hj, fun k hk => ?_⟩
        rcases List.mem_append.mp hk with z | z
        · exact hm k z
        · rw [List.mem_singleton.mp z]; exact ho i rfl
    · rintro ρ h ⟨y, z, hs, rfl, rfl, hj, hm⟩
      rw [length_rangeD] at hj
      exact Good.rt (by simp only [sSeq, sIf, sB, sE, sAsg, sRet, sRetN, sNil, sExpr, sBrk, sCnt, gN, gT, gsC, gsN, FK.e1, FK.e2, eC, eVar, eCall, aNil, aCons, M.bind, M.pure, eTup, eLst, eNew, eSl, oNone, oSome, bT, bNot, bAnd, bOr, eAnd, eOr, eNot, eIf, eCh, truth, eMs, eMl, dSub, dMul, dFdiv, dMod, dLe, dLt, dGe, dGt, D.isNon, dSl, dLen, dInt, dOrd_one, dMax2, dMin2, dTuple, dList, dListC, dApp, dNeg, vw, seq, lstOf, fnD, List.map_cons, List.map_nil, List.length_cons, List.length_nil, List.cons_append, List.nil_append, List.append_nil, List.replicate_succ, List.replicate_zero, List.getElem?_cons_zero, List.getElem?_cons_succ, List.set_cons_zero, List.set_cons_succ, Int.cast_ofNat_Int, Nat.reduceBEq, Int.reduceBEq, Nat.reduceAdd, Nat.reduceSub, Nat.reduceLT, Nat.reduceLeDiff, Nat.zero_add, Nat.add_zero, Nat.sub_zero, Nat.sub_self, ↓reduceIte, if_true, if_false, Bool.not_true, Bool.not_false, Bool.false_eq_true, Bool.true_eq_false, decide_true, decide_false, decide_not, true_and, and_true, and_self, true_or, or_true, not_true_eq_false, not_false_eq_true, ne_eq, reduceCtorEq, Int.reduceLT, Int.reduceLE, Int.reduceNeg, Int.reduceSub, Int.reduceAdd, Int.reduceMul, Int.reducePow, Int.reduceToNat, sz, D.dat, D.datL, D.dep, D.depL, szl, inb, List.any_cons, List.any_nil, Bool.true_and, Bool.false_and, Bool.and_true, Bool.and_false, Bool.or_false, Bool.false_or, Bool.true_or, Bool.or_true, Nat.max_self, Nat.max_zero, Nat.zero_max, Nat.min_self, Nat.zero_le, Nat.min_zero, Nat.zero_min, iR1, iR2, rng1, rng2, iE, itOf, sFor, bYes, Option.isNone_some, Option.isSome_some, Option.isNone_none, Option.isSome_none, Option.some.injEq, dEq_int, dNe_int, dEq_II, dEq_OO, dEq_OI, dEq_IO, dEq_PP, dNe_PP, dIs_O, dIsnt_O, dIs_I, dIsnt_I, dIs_non, dIsnt_non, dIn_IT, dIn_IL, dIdx_tup, dIdx_lst, dIdx_scr, dAdd_int, atI0, atI1, atI2, atI3, atI4, atI5, vw_last, get_last, set_last, app_last]; rfl) ⟨hs, by omega, hm, rfl⟩)
  exact ⟨hs, h1, h2, callP_ok hn e (fz_nr (nr_T hs))⟩
end FK

/-! part: LE -/
set_option linter.all false
set_option maxRecDepth 100000
set_option maxHeartbeats 4000000
namespace FK
open PySem PySem.Spec L2
/-! LE: one edit, all edits of a law. -/
theorem emod_I (r n : Int) (h : 0 < n) : 0 ≤ r % n ∧ r % n < n := ⟨Int.emod_nonneg _ (by omega), Int.emod_lt_of_pos _ h⟩
/-- what is replaced came before; places have names -/
def okN (is : List Id) : Ed → Prop
  | .write _ pl _ _ rs => okPn pl ∧ ∀ i ∈ rs, i ∈ is
  | .drop _ hs => ∀ i ∈ hs, i ∈ is
  | .move _ ms => ∀ m ∈ ms, okPn m.2.2
theorem edit_ok (r : Int) (i : Id) (is : List Id) (hl : is.length ≤ 1000000) : ∃ e : Ed, okE e ∧ e.id = i ∧ okN is e ∧ ∃ h', d_l_edit [.int r, encI i, .lst (is.map encI)] [] = .ok (encE e) h' := by
  obtain ⟨pc, hpc, hpn, e1⟩ := place_okN (r / 6) is hl []
  obtain ⟨d, h', e, ed, h1, h2, h4, rfl⟩ := Good.fn (N := 10) (body := b_l_edit) (ds := [.int r, encI i, .lst (is.map encI)]) (h := []) (ρ := [some (.int r), some (encI i), some (.lst (is.map encI)), none, none, none, none, none, none, none]) (T := fun d h' => ∃ e : Ed, okE e ∧ e.id = i ∧ okN is e ∧ d = encE e) (by
    unfold b_l_edit
    refine Good.seq (Good.nx (ρ := [some (.int r), some (encI i), some (.lst (is.map encI)), some (encPc pc), none, none, none, none, none, none]) (h := []) (by simp only [sSeq, sIf, sB, sE, sAsg, sRet, sRetN, sNil, sExpr, sBrk, sCnt, gN, gT, gsC, gsN, FK.e1, FK.e2, eC, eVar, eCall, aNil, aCons, M.bind, M.pure, eTup, eLst, eNew, eSl, oNone, oSome, bT, bNot, bAnd, bOr, eAnd, eOr, eNot, eIf, eCh, truth, eMs, eMl, dSub, dMul, dFdiv, dMod, dLe, dLt, dGe, dGt, D.isNon, dSl, dLen, dInt, dOrd_one, dMax2, dMin2, dTuple, dList, dListC, dApp, dNeg, vw, seq, lstOf, fnD, List.map_cons, List.map_nil, List.length_cons, List.length_nil, List.cons_append, List.nil_append, List.append_nil, List.replicate_succ, List.replicate_zero, List.getElem?_cons_zero, List.getElem?_cons_succ, List.set_cons_zero, List.set_cons_succ, Int.cast_ofNat_Int, Nat.reduceBEq, Int.reduceBEq, Nat.reduceAdd, Nat.reduceSub, Nat.reduceLT, Nat.reduceLeDiff, Nat.zero_add, Nat.add_zero, Nat.sub_zero, Nat.sub_self, ↓reduceIte, if_true, if_false, Bool.not_true, Bool.not_false, Bool.false_eq_true, Bool.true_eq_false, decide_true, decide_false, decide_not, true_and, and_true, and_self, true_or, or_true, not_true_eq_false, not_false_eq_true, ne_eq, reduceCtorEq, Int.reduceLT, Int.reduceLE, Int.reduceNeg, Int.reduceSub, Int.reduceAdd, Int.reduceMul, Int.reducePow, Int.reduceToNat, sz, D.dat, D.datL, D.dep, D.depL, szl, inb, List.any_cons, List.any_nil, Bool.true_and, Bool.false_and, Bool.and_true, Bool.and_false, Bool.or_false, Bool.false_or, Bool.true_or, Bool.or_true, Nat.max_self, Nat.max_zero, Nat.zero_max, Nat.min_self, Nat.zero_le, Nat.min_zero, Nat.zero_min, iR1, iR2, rng1, rng2, iE, itOf, sFor, bYes, Option.isNone_some, Option.isSome_some, Option.isNone_none, Option.isSome_none, Option.some.injEq, dEq_int, dNe_int, dEq_II, dEq_OO, dEq_OI, dEq_IO, dEq_PP, dNe_PP, dIs_O, dIsnt_O, dIs_I, dIsnt_I, dIs_non, dIsnt_non, dIn_IT, dIn_IL, dIdx_tup, dIdx_lst, dIdx_scr, dAdd_int, atI0, atI1, atI2, atI3, atI4, atI5, vw_last, get_last, set_last, app_last, e1]) ?_)
    refine Good.seq (Good.nx (ρ := [some (.int r), some (encI i), some (.lst (is.map encI)), some (encPc pc), some (.int (r % 6)), none, none, none, none, none]) (h := []) (by simp only [sSeq, sIf, sB, sE, sAsg, sRet, sRetN, sNil, sExpr, sBrk, sCnt, gN, gT, gsC, gsN, FK.e1, FK.e2, eC, eVar, eCall, aNil, aCons, M.bind, M.pure, eTup, eLst, eNew, eSl, oNone, oSome, bT, bNot, bAnd, bOr, eAnd, eOr, eNot, eIf, eCh, truth, eMs, eMl, dSub, dMul, dFdiv, dMod, dLe, dLt, dGe, dGt, D.isNon, dSl, dLen, dInt, dOrd_one, dMax2, dMin2, dTuple, dList, dListC, dApp, dNeg, vw, seq, lstOf, fnD, List.map_cons, List.map_nil, List.length_cons, List.length_nil, List.cons_append, List.nil_append, List.append_nil, List.replicate_succ, List.replicate_zero, List.getElem?_cons_zero, List.getElem?_cons_succ, List.set_cons_zero, List.set_cons_succ, Int.cast_ofNat_Int, Nat.reduceBEq, Int.reduceBEq, Nat.reduceAdd, Nat.reduceSub, Nat.reduceLT, Nat.reduceLeDiff, Nat.zero_add, Nat.add_zero, Nat.sub_zero, Nat.sub_self, ↓reduceIte, if_true, if_false, Bool.not_true, Bool.not_false, Bool.false_eq_true, Bool.true_eq_false, decide_true, decide_false, decide_not, true_and, and_true, and_self, true_or, or_true, not_true_eq_false, not_false_eq_true, ne_eq, reduceCtorEq, Int.reduceLT, Int.reduceLE, Int.reduceNeg, Int.reduceSub, Int.reduceAdd, Int.reduceMul, Int.reducePow, Int.reduceToNat, sz, D.dat, D.datL, D.dep, D.depL, szl, inb, List.any_cons, List.any_nil, Bool.true_and, Bool.false_and, Bool.and_true, Bool.and_false, Bool.or_false, Bool.false_or, Bool.true_or, Bool.or_true, Nat.max_self, Nat.max_zero, Nat.zero_max, Nat.min_self, Nat.zero_le, Nat.min_zero, Nat.zero_min, iR1, iR2, rng1, rng2, iE, itOf, sFor, bYes, Option.isNone_some, Option.isSome_some, Option.isNone_none, Option.isSome_none, Option.some.injEq, dEq_int, dNe_int, dEq_II, dEq_OO, dEq_OI, dEq_IO, dEq_PP, dNe_PP, dIs_O, dIsnt_O, dIs_I, dIsnt_I, dIs_non, dIsnt_non, dIn_IT, dIn_IL, dIdx_tup, dIdx_lst, dIdx_scr, dAdd_int, atI0, atI1, atI2, atI3, atI4, atI5, vw_last, get_last, set_last, app_last]) ?_)
    refine Good.seq (Good.ite (h1 := []) (decide (r % 6 = 0)) (by simp only [sSeq, sIf, sB, sE, sAsg, sRet, sRetN, sNil, sExpr, sBrk, sCnt, gN, gT, gsC, gsN, FK.e1, FK.e2, eC, eVar, eCall, aNil, aCons, M.bind, M.pure, eTup, eLst, eNew, eSl, oNone, oSome, bT, bNot, bAnd, bOr, eAnd, eOr, eNot, eIf, eCh, truth, eMs, eMl, dSub, dMul, dFdiv, dMod, dLe, dLt, dGe, dGt, D.isNon, dSl, dLen, dInt, dOrd_one, dMax2, dMin2, dTuple, dList, dListC, dApp, dNeg, vw, seq, lstOf, fnD, List.map_cons, List.map_nil, List.length_cons, List.length_nil, List.cons_append, List.nil_append, List.append_nil, List.replicate_succ, List.replicate_zero, List.getElem?_cons_zero, List.getElem?_cons_succ, List.set_cons_zero, List.set_cons_succ, Int.cast_ofNat_Int, Nat.reduceBEq, Int.reduceBEq, Nat.reduceAdd, Nat.reduceSub, Nat.reduceLT, Nat.reduceLeDiff, Nat.zero_add, Nat.add_zero, Nat.sub_zero, Nat.sub_self, ↓reduceIte, if_true, if_false, Bool.not_true, Bool.not_false, Bool.false_eq_true, Bool.true_eq_false, decide_true, decide_false, decide_not, true_and, and_true, and_self, true_or, or_true, not_true_eq_false, not_false_eq_true, ne_eq, reduceCtorEq, Int.reduceLT, Int.reduceLE, Int.reduceNeg, Int.reduceSub, Int.reduceAdd, Int.reduceMul, Int.reducePow, Int.reduceToNat, sz, D.dat, D.datL, D.dep, D.depL, szl, inb, List.any_cons, List.any_nil, Bool.true_and, Bool.false_and, Bool.and_true, Bool.and_false, Bool.or_false, Bool.false_or, Bool.true_or, Bool.or_true, Nat.max_self, Nat.max_zero, Nat.zero_max, Nat.min_self, Nat.zero_le, Nat.min_zero, Nat.zero_min, iR1, iR2, rng1, rng2, iE, itOf, sFor, bYes, Option.isNone_some, Option.isSome_some, Option.isNone_none, Option.isSome_none, Option.some.injEq, dEq_int, dNe_int, dEq_II, dEq_OO, dEq_OI, dEq_IO, dEq_PP, dNe_PP, dIs_O, dIsnt_O, dIs_I, dIsnt_I, dIs_non, dIsnt_non, dIn_IT, dIn_IL, dIdx_tup, dIdx_lst, dIdx_scr, dAdd_int, atI0, atI1, atI2, atI3, atI4, atI5, vw_last, get_last, set_last, app_last]) (fun _ => ?_) (fun hk => Good.nx rfl ?_))
    · obtain ⟨hs, hl1, hin, e2⟩ := heads_ok r is hl []
      exact Good.rt (by simp only [sSeq, sIf, sB, sE, sAsg, sRet, sRetN, sNil, sExpr, sBrk, sCnt, gN, gT, gsC, gsN, FK.e1, FK.e2, eC, eVar, eCall, aNil, aCons, M.bind, M.pure, eTup, eLst, eNew, eSl, oNone, oSome, bT, bNot, bAnd, bOr, eAnd, eOr, eNot, eIf, eCh, truth, eMs, eMl, dSub, dMul, dFdiv, dMod, dLe, dLt, dGe, dGt, D.isNon, dSl, dLen, dInt, dOrd_one, dMax2, dMin2, dTuple, dList, dListC, dApp, dNeg, vw, seq, lstOf, fnD, List.map_cons, List.map_nil, List.length_cons, List.length_nil, List.cons_append, List.nil_append, List.append_nil, List.replicate_succ, List.replicate_zero, List.getElem?_cons_zero, List.getElem?_cons_succ, List.set_cons_zero, List.set_cons_succ, Int.cast_ofNat_Int, Nat.reduceBEq, Int.reduceBEq, Nat.reduceAdd, Nat.reduceSub, Nat.reduceLT, Nat.reduceLeDiff, Nat.zero_add, Nat.add_zero, Nat.sub_zero, Nat.sub_self, ↓reduceIte, if_true, if_false, Bool.not_true, Bool.not_false, Bool.false_eq_true, Bool.true_eq_false, decide_true, decide_false, decide_not, true_and, and_true, and_self, true_or, or_true, not_true_eq_false, not_false_eq_true, ne_eq, reduceCtorEq, Int.reduceLT, Int.reduceLE, Int.reduceNeg, Int.reduceSub, Int.reduceAdd, Int.reduceMul, Int.reducePow, Int.reduceToNat, sz, D.dat, D.datL, D.dep, D.depL, szl, inb, List.any_cons, List.any_nil, Bool.true_and, Bool.false_and, Bool.and_true, Bool.and_false, Bool.or_false, Bool.false_or, Bool.true_or, Bool.or_true, Nat.max_self, Nat.max_zero, Nat.zero_max, Nat.min_self, Nat.zero_le, Nat.min_zero, Nat.zero_min, iR1, iR2, rng1, rng2, iE, itOf, sFor, bYes, Option.isNone_some, Option.isSome_some, Option.isNone_none, Option.isSome_none, Option.some.injEq, dEq_int, dNe_int, dEq_II, dEq_OO, dEq_OI, dEq_IO, dEq_PP, dNe_PP, dIs_O, dIsnt_O, dIs_I, dIsnt_I, dIs_non, dIsnt_non, dIn_IT, dIn_IL, dIdx_tup, dIdx_lst, dIdx_scr, dAdd_int, atI0, atI1, atI2, atI3, atI4, atI5, vw_last, get_last, set_last, app_last, e2]; rfl) ⟨.write i pc none none hs, ⟨hpc, by omega⟩, rfl, ⟨hpn, hin⟩, rfl⟩
    refine Good.seq (Good.ite (h1 := []) (decide (r % 6 ≤ 3) || decide (is.length = 0)) ?_ (fun _ => ?_) (fun hk2 => Good.nx rfl ?_))
    · cases hd : decide (r % 6 ≤ 3) with
      | true => simp only [sSeq, sIf, sB, sE, sAsg, sRet, sRetN, sNil, sExpr, sBrk, sCnt, gN, gT, gsC, gsN, FK.e1, FK.e2, eC, eVar, eCall, aNil, aCons, M.bind, M.pure, eTup, eLst, eNew, eSl, oNone, oSome, bT, bNot, bAnd, bOr, eAnd, eOr, eNot, eIf, eCh, truth, eMs, eMl, dSub, dMul, dFdiv, dMod, dLe, dLt, dGe, dGt, D.isNon, dSl, dLen, dInt, dOrd_one, dMax2, dMin2, dTuple, dList, dListC, dApp, dNeg, vw, seq, lstOf, fnD, List.map_cons, List.map_nil, List.length_cons, List.length_nil, List.cons_append, List.nil_append, List.append_nil, List.replicate_succ, List.replicate_zero, List.getElem?_cons_zero, List.getElem?_cons_succ, List.set_cons_zero, List.set_cons_succ, Int.cast_ofNat_Int, Nat.reduceBEq, Int.reduceBEq, Nat.reduceAdd, Nat.reduceSub, Nat.reduceLT, Nat.reduceLeDiff, Nat.zero_add, Nat.add_zero, Nat.sub_zero, Nat.sub_self, ↓reduceIte, if_true, if_false, Bool.not_true, Bool.not_false, Bool.false_eq_true, Bool.true_eq_false, decide_true, decide_false, decide_not, true_and, and_true, and_self, true_or, or_true, not_true_eq_false, not_false_eq_true, ne_eq, reduceCtorEq, Int.reduceLT, Int.reduceLE, Int.reduceNeg, Int.reduceSub, Int.reduceAdd, Int.reduceMul, Int.reducePow, Int.reduceToNat, sz, D.dat, D.datL, D.dep, D.depL, szl, inb, List.any_cons, List.any_nil, Bool.true_and, Bool.false_and, Bool.and_true, Bool.and_false, Bool.or_false, Bool.false_or, Bool.true_or, Bool.or_true, Nat.max_self, Nat.max_zero, Nat.zero_max, Nat.min_self, Nat.zero_le, Nat.min_zero, Nat.zero_min, iR1, iR2, rng1, rng2, iE, itOf, sFor, bYes, Option.isNone_some, Option.isSome_some, Option.isNone_none, Option.isSome_none, Option.some.injEq, dEq_int, dNe_int, dEq_II, dEq_OO, dEq_OI, dEq_IO, dEq_PP, dNe_PP, dIs_O, dIsnt_O, dIs_I, dIsnt_I, dIs_non, dIsnt_non, dIn_IT, dIn_IL, dIdx_tup, dIdx_lst, dIdx_scr, dAdd_int, atI0, atI1, atI2, atI3, atI4, atI5, vw_last, get_last, set_last, app_last, hd]
      | false =>
        have : decide (is.length = 0) = decide ((is.length : Int) = 0) := by by_cases h : is.length = 0 <;> simp [h]
        rw [this]
        simp only [sSeq, sIf, sB, sE, sAsg, sRet, sRetN, sNil, sExpr, sBrk, sCnt, gN, gT, gsC, gsN, FK.e1, FK.e2, eC, eVar, eCall, aNil, aCons, M.bind, M.pure, eTup, eLst, eNew, eSl, oNone, oSome, bT, bNot, bAnd, bOr, eAnd, eOr, eNot, eIf, eCh, truth, eMs, eMl, dSub, dMul, dFdiv, dMod, dLe, dLt, dGe, dGt, D.isNon, dSl, dLen, dInt, dOrd_one, dMax2, dMin2, dTuple, dList, dListC, dApp, dNeg, vw, seq, lstOf, fnD, List.map_cons, List.map_nil, List.length_cons, List.length_nil, List.cons_append, List.nil_append, List.append_nil, List.replicate_succ, List.replicate_zero, List.getElem?_cons_zero, List.getElem?_cons_succ, List.set_cons_zero, List.set_cons_succ, Int.cast_ofNat_Int, Nat.reduceBEq, Int.reduceBEq, Nat.reduceAdd, Nat.reduceSub, Nat.reduceLT, Nat.reduceLeDiff, Nat.zero_add, Nat.add_zero, Nat.sub_zero, Nat.sub_self, ↓reduceIte, if_true, if_false, Bool.not_true, Bool.not_false, Bool.false_eq_true, Bool.true_eq_false, decide_true, decide_false, decide_not, true_and, and_true, and_self, true_or, or_true, not_true_eq_false, not_false_eq_true, ne_eq, reduceCtorEq, Int.reduceLT, Int.reduceLE, Int.reduceNeg, Int.reduceSub, Int.reduceAdd, Int.reduceMul, Int.reducePow, Int.reduceToNat, sz, D.dat, D.datL, D.dep, D.depL, szl, inb, List.any_cons, List.any_nil, Bool.true_and, Bool.false_and, Bool.and_true, Bool.and_false, Bool.or_false, Bool.false_or, Bool.true_or, Bool.or_true, Nat.max_self, Nat.max_zero, Nat.zero_max, Nat.min_self, Nat.zero_le, Nat.min_zero, Nat.zero_min, iR1, iR2, rng1, rng2, iE, itOf, sFor, bYes, Option.isNone_some, Option.isSome_some, Option.isNone_none, Option.isSome_none, Option.some.injEq, dEq_int, dNe_int, dEq_II, dEq_OO, dEq_OI, dEq_IO, dEq_PP, dNe_PP, dIs_O, dIsnt_O, dIs_I, dIsnt_I, dIs_non, dIsnt_non, dIn_IT, dIn_IL, dIdx_tup, dIdx_lst, dIdx_scr, dAdd_int, atI0, atI1, atI2, atI3, atI4, atI5, vw_last, get_last, set_last, app_last, hd, len_lst, List.length_map]
    · refine Good.seq (Good.nx (ρ := [some (.int r), some (encI i), some (.lst (is.map encI)), some (encPc pc), some (.int (r % 6)), some (.int (r / 19 % 3)), none, none, none, none]) (h := []) (by simp only [sSeq, sIf, sB, sE, sAsg, sRet, sRetN, sNil, sExpr, sBrk, sCnt, gN, gT, gsC, gsN, FK.e1, FK.e2, eC, eVar, eCall, aNil, aCons, M.bind, M.pure, eTup, eLst, eNew, eSl, oNone, oSome, bT, bNot, bAnd, bOr, eAnd, eOr, eNot, eIf, eCh, truth, eMs, eMl, dSub, dMul, dFdiv, dMod, dLe, dLt, dGe, dGt, D.isNon, dSl, dLen, dInt, dOrd_one, dMax2, dMin2, dTuple, dList, dListC, dApp, dNeg, vw, seq, lstOf, fnD, List.map_cons, List.map_nil, List.length_cons, List.length_nil, List.cons_append, List.nil_append, List.append_nil, List.replicate_succ, List.replicate_zero, List.getElem?_cons_zero, List.getElem?_cons_succ, List.set_cons_zero, List.set_cons_succ, Int.cast_ofNat_Int, Nat.reduceBEq, Int.reduceBEq, Nat.reduceAdd, Nat.reduceSub, Nat.reduceLT, Nat.reduceLeDiff, Nat.zero_add, Nat.add_zero, Nat.sub_zero, Nat.sub_self, ↓reduceIte, if_true, if_false, Bool.not_true, Bool.not_false, Bool.false_eq_true, Bool.true_eq_false, decide_true, decide_false, decide_not, true_and, and_true, and_self, true_or, or_true, not_true_eq_false, not_false_eq_true, ne_eq, reduceCtorEq, Int.reduceLT, Int.reduceLE, Int.reduceNeg, Int.reduceSub, Int.reduceAdd, Int.reduceMul, Int.reducePow, Int.reduceToNat, sz, D.dat, D.datL, D.dep, D.depL, szl, inb, List.any_cons, List.any_nil, Bool.true_and, Bool.false_and, Bool.and_true, Bool.and_false, Bool.or_false, Bool.false_or, Bool.true_or, Bool.or_true, Nat.max_self, Nat.max_zero, Nat.zero_max, Nat.min_self, Nat.zero_le, Nat.min_zero, Nat.zero_min, iR1, iR2, rng1, rng2, iE, itOf, sFor, bYes, Option.isNone_some, Option.isSome_some, Option.isNone_none, Option.isSome_none, Option.some.injEq, dEq_int, dNe_int, dEq_II, dEq_OO, dEq_OI, dEq_IO, dEq_PP, dNe_PP, dIs_O, dIsnt_O, dIs_I, dIsnt_I, dIs_non, dIsnt_non, dIn_IT, dIn_IL, dIdx_tup, dIdx_lst, dIdx_scr, dAdd_int, atI0, atI1, atI2, atI3, atI4, atI5, vw_last, get_last, set_last, app_last]) ?_)
      obtain ⟨hs, hl1, hin, e2⟩ := heads_ok r is hl []
      obtain ⟨o, ho, e3⟩ := pick_ok (r / 29) is hl []
      exact Good.rt (by simp only [sSeq, sIf, sB, sE, sAsg, sRet, sRetN, sNil, sExpr, sBrk, sCnt, gN, gT, gsC, gsN, FK.e1, FK.e2, eC, eVar, eCall, aNil, aCons, M.bind, M.pure, eTup, eLst, eNew, eSl, oNone, oSome, bT, bNot, bAnd, bOr, eAnd, eOr, eNot, eIf, eCh, truth, eMs, eMl, dSub, dMul, dFdiv, dMod, dLe, dLt, dGe, dGt, D.isNon, dSl, dLen, dInt, dOrd_one, dMax2, dMin2, dTuple, dList, dListC, dApp, dNeg, vw, seq, lstOf, fnD, List.map_cons, List.map_nil, List.length_cons, List.length_nil, List.cons_append, List.nil_append, List.append_nil, List.replicate_succ, List.replicate_zero, List.getElem?_cons_zero, List.getElem?_cons_succ, List.set_cons_zero, List.set_cons_succ, Int.cast_ofNat_Int, Nat.reduceBEq, Int.reduceBEq, Nat.reduceAdd, Nat.reduceSub, Nat.reduceLT, Nat.reduceLeDiff, Nat.zero_add, Nat.add_zero, Nat.sub_zero, Nat.sub_self, ↓reduceIte, if_true, if_false, Bool.not_true, Bool.not_false, Bool.false_eq_true, Bool.true_eq_false, decide_true, decide_false, decide_not, true_and, and_true, and_self, true_or, or_true, not_true_eq_false, not_false_eq_true, ne_eq, reduceCtorEq, Int.reduceLT, Int.reduceLE, Int.reduceNeg, Int.reduceSub, Int.reduceAdd, Int.reduceMul, Int.reducePow, Int.reduceToNat, sz, D.dat, D.datL, D.dep, D.depL, szl, inb, List.any_cons, List.any_nil, Bool.true_and, Bool.false_and, Bool.and_true, Bool.and_false, Bool.or_false, Bool.false_or, Bool.true_or, Bool.or_true, Nat.max_self, Nat.max_zero, Nat.zero_max, Nat.min_self, Nat.zero_le, Nat.min_zero, Nat.zero_min, iR1, iR2, rng1, rng2, iE, itOf, sFor, bYes, Option.isNone_some, Option.isSome_some, Option.isNone_none, Option.isSome_none, Option.some.injEq, dEq_int, dNe_int, dEq_II, dEq_OO, dEq_OI, dEq_IO, dEq_PP, dNe_PP, dIs_O, dIsnt_O, dIs_I, dIsnt_I, dIs_non, dIsnt_non, dIn_IT, dIn_IL, dIdx_tup, dIdx_lst, dIdx_scr, dAdd_int, atI0, atI1, atI2, atI3, atI4, atI5, vw_last, get_last, set_last, app_last, e2, e3]; rfl) ⟨.write i pc (some (r / 19 % 3, r / 19 % 3, r / 19 % 3 + 1, false)) o hs, ⟨hpc, by omega⟩, rfl, ⟨hpn, hin⟩, rfl⟩
    refine Good.seq (Good.ite (h1 := []) (decide (r % 6 = 4)) (by simp only [sSeq, sIf, sB, sE, sAsg, sRet, sRetN, sNil, sExpr, sBrk, sCnt, gN, gT, gsC, gsN, FK.e1, FK.e2, eC, eVar, eCall, aNil, aCons, M.bind, M.pure, eTup, eLst, eNew, eSl, oNone, oSome, bT, bNot, bAnd, bOr, eAnd, eOr, eNot, eIf, eCh, truth, eMs, eMl, dSub, dMul, dFdiv, dMod, dLe, dLt, dGe, dGt, D.isNon, dSl, dLen, dInt, dOrd_one, dMax2, dMin2, dTuple, dList, dListC, dApp, dNeg, vw, seq, lstOf, fnD, List.map_cons, List.map_nil, List.length_cons, List.length_nil, List.cons_append, List.nil_append, List.append_nil, List.replicate_succ, List.replicate_zero, List.getElem?_cons_zero, List.getElem?_cons_succ, List.set_cons_zero, List.set_cons_succ, Int.cast_ofNat_Int, Nat.reduceBEq, Int.reduceBEq, Nat.reduceAdd, Nat.reduceSub, Nat.reduceLT, Nat.reduceLeDiff, Nat.zero_add, Nat.add_zero, Nat.sub_zero, Nat.sub_self, ↓reduceIte, if_true, if_false, Bool.not_true, Bool.not_false, Bool.false_eq_true, Bool.true_eq_false, decide_true, decide_false, decide_not, true_and, and_true, and_self, true_or, or_true, not_true_eq_false, not_false_eq_true, ne_eq, reduceCtorEq, Int.reduceLT, Int.reduceLE, Int.reduceNeg, Int.reduceSub, Int.reduceAdd, Int.reduceMul, Int.reducePow, Int.reduceToNat, sz, D.dat, D.datL, D.dep, D.depL, szl, inb, List.any_cons, List.any_nil, Bool.true_and, Bool.false_and, Bool.and_true, Bool.and_false, Bool.or_false, Bool.false_or, Bool.true_or, Bool.or_true, Nat.max_self, Nat.max_zero, Nat.zero_max, Nat.min_self, Nat.zero_le, Nat.min_zero, Nat.zero_min, iR1, iR2, rng1, rng2, iE, itOf, sFor, bYes, Option.isNone_some, Option.isSome_some, Option.isNone_none, Option.isSome_none, Option.some.injEq, dEq_int, dNe_int, dEq_II, dEq_OO, dEq_OI, dEq_IO, dEq_PP, dNe_PP, dIs_O, dIsnt_O, dIs_I, dIsnt_I, dIs_non, dIsnt_non, dIn_IT, dIn_IL, dIdx_tup, dIdx_lst, dIdx_scr, dAdd_int, atI0, atI1, atI2, atI3, atI4, atI5, vw_last, get_last, set_last, app_last]) (fun _ => ?_) (fun hk => Good.nx rfl ?_))
    · obtain ⟨hs, hl1, hin, e2⟩ := heads_ok (r / 3) is hl []
      exact Good.rt (by simp only [sSeq, sIf, sB, sE, sAsg, sRet, sRetN, sNil, sExpr, sBrk, sCnt, gN, gT, gsC, gsN, FK.e1, FK.e2, eC, eVar, eCall, aNil, aCons, M.bind, M.pure, eTup, eLst, eNew, eSl, oNone, oSome, bT, bNot, bAnd, bOr, eAnd, eOr, eNot, eIf, eCh, truth, eMs, eMl, dSub, dMul, dFdiv, dMod, dLe, dLt, dGe, dGt, D.isNon, dSl, dLen, dInt, dOrd_one, dMax2, dMin2, dTuple, dList, dListC, dApp, dNeg, vw, seq, lstOf, fnD, List.map_cons, List.map_nil, List.length_cons, List.length_nil, List.cons_append, List.nil_append, List.append_nil, List.replicate_succ, List.replicate_zero, List.getElem?_cons_zero, List.getElem?_cons_succ, List.set_cons_zero, List.set_cons_succ, Int.cast_ofNat_Int, Nat.reduceBEq, Int.reduceBEq, Nat.reduceAdd, Nat.reduceSub, Nat.reduceLT, Nat.reduceLeDiff, Nat.zero_add, Nat.add_zero, Nat.sub_zero, Nat.sub_self, ↓reduceIte, if_true, if_false, Bool.not_true, Bool.not_false, Bool.false_eq_true, Bool.true_eq_false, decide_true, decide_false, decide_not, true_and, and_true, and_self, true_or, or_true, not_true_eq_false, not_false_eq_true, ne_eq, reduceCtorEq, Int.reduceLT, Int.reduceLE, Int.reduceNeg, Int.reduceSub, Int.reduceAdd, Int.reduceMul, Int.reducePow, Int.reduceToNat, sz, D.dat, D.datL, D.dep, D.depL, szl, inb, List.any_cons, List.any_nil, Bool.true_and, Bool.false_and, Bool.and_true, Bool.and_false, Bool.or_false, Bool.false_or, Bool.true_or, Bool.or_true, Nat.max_self, Nat.max_zero, Nat.zero_max, Nat.min_self, Nat.zero_le, Nat.min_zero, Nat.zero_min, iR1, iR2, rng1, rng2, iE, itOf, sFor, bYes, Option.isNone_some, Option.isSome_some, Option.isNone_none, Option.isSome_none, Option.some.injEq, dEq_int, dNe_int, dEq_II, dEq_OO, dEq_OI, dEq_IO, dEq_PP, dNe_PP, dIs_O, dIsnt_O, dIs_I, dIsnt_I, dIs_non, dIsnt_non, dIn_IT, dIn_IL, dIdx_tup, dIdx_lst, dIdx_scr, dAdd_int, atI0, atI1, atI2, atI3, atI4, atI5, vw_last, get_last, set_last, app_last, e2]; rfl) ⟨.drop i hs, by show _ ≤ 1000; omega, rfl, hin, rfl⟩
    refine Good.seq (Good.nx (ρ := [some (.int r), some (encI i), some (.lst (is.map encI)), some (encPc pc), some (.int (r % 6)), none, some (.ref 0), none, none, none]) (h := [.lst []]) (by simp only [sSeq, sIf, sB, sE, sAsg, sRet, sRetN, sNil, sExpr, sBrk, sCnt, gN, gT, gsC, gsN, FK.e1, FK.e2, eC, eVar, eCall, aNil, aCons, M.bind, M.pure, eTup, eLst, eSl, oNone, oSome, bT, bNot, bAnd, bOr, eAnd, eOr, eNot, eIf, eCh, truth, eMs, eMl, dSub, dMul, dFdiv, dMod, dLe, dLt, dGe, dGt, D.isNon, dSl, dLen, dInt, dOrd_one, dMax2, dMin2, dTuple, dList, dListC, dApp, dNeg, vw, seq, lstOf, fnD, List.map_cons, List.map_nil, List.length_cons, List.length_nil, List.cons_append, List.nil_append, List.append_nil, List.replicate_succ, List.replicate_zero, List.getElem?_cons_zero, List.getElem?_cons_succ, List.set_cons_zero, List.set_cons_succ, Int.cast_ofNat_Int, Nat.reduceBEq, Int.reduceBEq, Nat.reduceAdd, Nat.reduceSub, Nat.reduceLT, Nat.reduceLeDiff, Nat.zero_add, Nat.add_zero, Nat.sub_zero, Nat.sub_self, ↓reduceIte, if_true, if_false, Bool.not_true, Bool.not_false, Bool.false_eq_true, Bool.true_eq_false, decide_true, decide_false, decide_not, true_and, and_true, and_self, true_or, or_true, not_true_eq_false, not_false_eq_true, ne_eq, reduceCtorEq, Int.reduceLT, Int.reduceLE, Int.reduceNeg, Int.reduceSub, Int.reduceAdd, Int.reduceMul, Int.reducePow, Int.reduceToNat, sz, D.dat, D.datL, D.dep, D.depL, szl, inb, List.any_cons, List.any_nil, Bool.true_and, Bool.false_and, Bool.and_true, Bool.and_false, Bool.or_false, Bool.false_or, Bool.true_or, Bool.or_true, Nat.max_self, Nat.max_zero, Nat.zero_max, Nat.min_self, Nat.zero_le, Nat.min_zero, Nat.zero_min, iR1, iR2, rng1, rng2, iE, itOf, sFor, bYes, Option.isNone_some, Option.isSome_some, Option.isNone_none, Option.isSome_none, Option.some.injEq, dEq_int, dNe_int, dEq_II, dEq_OO, dEq_OI, dEq_IO, dEq_PP, dNe_PP, dIs_O, dIsnt_O, dIs_I, dIsnt_I, dIs_non, dIsnt_non, dIn_IT, dIn_IL, dIdx_tup, dIdx_lst, dIdx_scr, dAdd_int, atI0, atI1, atI2, atI3, atI4, atI5, vw_last, get_last, set_last, app_last, eNew_nil]) ?_)
    have hr : inR (1 + r / 31 % 2) := ⟨by omega, by omega⟩
    refine Good.seq (Good.sFor (ds := rangeD 0 (1 + r / 31 % 2)) (h1 := [.lst []]) (by simp only [sSeq, sIf, sB, sE, sAsg, sRet, sRetN, sNil, sExpr, sBrk, sCnt, gN, gT, gsC, gsN, FK.e1, FK.e2, eC, eVar, eCall, aNil, aCons, M.bind, M.pure, eTup, eLst, eNew, eSl, oNone, oSome, bT, bNot, bAnd, bOr, eAnd, eOr, eNot, eIf, eCh, truth, eMs, eMl, dSub, dMul, dFdiv, dMod, dLe, dLt, dGe, dGt, D.isNon, dSl, dLen, dInt, dOrd_one, dMax2, dMin2, dTuple, dList, dListC, dApp, dNeg, vw, seq, lstOf, fnD, List.map_cons, List.map_nil, List.length_cons, List.length_nil, List.cons_append, List.nil_append, List.append_nil, List.replicate_succ, List.replicate_zero, List.getElem?_cons_zero, List.getElem?_cons_succ, List.set_cons_zero, List.set_cons_succ, Int.cast_ofNat_Int, Nat.reduceBEq, Int.reduceBEq, Nat.reduceAdd, Nat.reduceSub, Nat.reduceLT, Nat.reduceLeDiff, Nat.zero_add, Nat.add_zero, Nat.sub_zero, Nat.sub_self, ↓reduceIte, if_true, if_false, Bool.not_true, Bool.not_false, Bool.false_eq_true, Bool.true_eq_false, decide_true, decide_false, decide_not, true_and, and_true, and_self, true_or, or_true, not_true_eq_false, not_false_eq_true, ne_eq, reduceCtorEq, Int.reduceLT, Int.reduceLE, Int.reduceNeg, Int.reduceSub, Int.reduceAdd, Int.reduceMul, Int.reducePow, Int.reduceToNat, sz, D.dat, D.datL, D.dep, D.depL, szl, inb, List.any_cons, List.any_nil, Bool.true_and, Bool.false_and, Bool.and_true, Bool.and_false, Bool.or_false, Bool.false_or, Bool.true_or, Bool.or_true, Nat.max_self, Nat.max_zero, Nat.zero_max, Nat.min_self, Nat.zero_le, Nat.min_zero, Nat.zero_min, iR1, iR2, rng1, rng2, iE, itOf, sFor, bYes, Option.isNone_some, Option.isSome_some, Option.isNone_none, Option.isSome_none, Option.some.injEq, dEq_int, dNe_int, dEq_II, dEq_OO, dEq_OI, dEq_IO, dEq_PP, dNe_PP, dIs_O, dIsnt_O, dIs_I, dIsnt_I, dIs_non, dIsnt_non, dIn_IT, dIn_IL, dIdx_tup, dIdx_lst, dIdx_scr, dAdd_int, atI0, atI1, atI2, atI3, atI4, atI5, vw_last, get_last, set_last, app_last, if_pos hr]) (Good.forL (fun j ρ h => ∃ (y z u : Option D) (ms : List (Option Id × Option Id × Pc)), ρ = [some (.int r), some (encI i), some (.lst (is.map encI)), some (encPc pc), some (.int (r % 6)), none, some (.ref 0), y, z, u] ∧ h = [.lst (ms.map encM)] ∧ ms.length = j ∧ ∀ m ∈ ms, okP m.2.2 ∧ okPn m.2.2) _ ⟨none, none, none, [], rfl, rfl, rfl, by simp⟩ ?_ ?_))
    · rintro j d ρ h e ⟨y, z, u, ms, rfl, rfl, hj, hm⟩
      obtain ⟨rfl, hj2⟩ := getElem?_rangeD e
      refine ⟨_, rfl, ?_⟩
      generalize hjj : (0 + (j : Int)) = J
      have hJ0 : 0 ≤ J ∧ J ≤ 2 := by omega
      have d1 := fdiv_ok r (37 * J + 2) (by omega) (by omega) [.lst (ms.map encM)]
      have d2 := fdiv_ok r (41 * J + 3) (by omega) (by omega) [.lst (ms.map encM)]
      have d3 := fdiv_ok r (43 * J + 7) (by omega) (by omega) [.lst (ms.map encM)]
      have m0 := fun x => mul_ok 3 x ⟨by decide, by decide⟩ [.lst (ms.map encM)]
      have m1 := mul_ok 37 J ⟨by decide, by decide⟩ [.lst (ms.map encM)]
      have m2 := mul_ok 41 J ⟨by decide, by decide⟩ [.lst (ms.map encM)]
      have m3 := mul_ok 43 J ⟨by decide, by decide⟩ [.lst (ms.map encM)]
      obtain ⟨a, ha, e1⟩ := pick_ok (1 + 3 * (r / (37 * J + 2))) is hl [.lst (ms.map encM)]
      obtain ⟨b, hb, e2⟩ := pick_ok (1 + 3 * (r / (41 * J + 3))) is hl [.lst (ms.map encM)]
      obtain ⟨p, hp, hpn3, e3⟩ := place_okN (r / (43 * J + 7)) is hl [.lst (ms.map encM)]
      refine Good.seq (Good.nx (ρ := [some (.int r), some (encI i), some (.lst (is.map encI)), some (encPc pc), some (.int (r % 6)), none, some (.ref 0), some (.int J), some (encO a), u]) (h := [.lst (ms.map encM)]) (by simp only [sSeq, sIf, sB, sE, sAsg, sRet, sRetN, sNil, sExpr, sBrk, sCnt, gN, gT, gsC, gsN, FK.e1, FK.e2, eC, eVar, eCall, aNil, aCons, M.bind, M.pure, eTup, eLst, eNew, eSl, oNone, oSome, bT, bNot, bAnd, bOr, eAnd, eOr, eNot, eIf, eCh, truth, eMs, eMl, dSub, dMod, dLe, dLt, dGe, dGt, D.isNon, dSl, dLen, dInt, dOrd_one, dMax2, dMin2, dTuple, dList, dListC, dApp, dNeg, vw, seq, lstOf, fnD, List.map_cons, List.map_nil, List.length_cons, List.length_nil, List.cons_append, List.nil_append, List.append_nil, List.replicate_succ, List.replicate_zero, List.getElem?_cons_zero, List.getElem?_cons_succ, List.set_cons_zero, List.set_cons_succ, Int.cast_ofNat_Int, Nat.reduceBEq, Int.reduceBEq, Nat.reduceAdd, Nat.reduceSub, Nat.reduceLT, Nat.reduceLeDiff, Nat.zero_add, Nat.add_zero, Nat.sub_zero, Nat.sub_self, ↓reduceIte, if_true, if_false, Bool.not_true, Bool.not_false, Bool.false_eq_true, Bool.true_eq_false, decide_true, decide_false, decide_not, true_and, and_true, and_self, true_or, or_true, not_true_eq_false, not_false_eq_true, ne_eq, reduceCtorEq, Int.reduceLT, Int.reduceLE, Int.reduceNeg, Int.reduceSub, Int.reduceAdd, Int.reduceMul, Int.reducePow, Int.reduceToNat, sz, D.dat, D.datL, D.dep, D.depL, szl, inb, List.any_cons, List.any_nil, Bool.true_and, Bool.false_and, Bool.and_true, Bool.and_false, Bool.or_false, Bool.false_or, Bool.true_or, Bool.or_true, Nat.max_self, Nat.max_zero, Nat.zero_max, Nat.min_self, Nat.zero_le, Nat.min_zero, Nat.zero_min, iR1, iR2, rng1, rng2, iE, itOf, sFor, bYes, Option.isNone_some, Option.isSome_some, Option.isNone_none, Option.isSome_none, Option.some.injEq, dEq_int, dNe_int, dEq_II, dEq_OO, dEq_OI, dEq_IO, dEq_PP, dNe_PP, dIs_O, dIsnt_O, dIs_I, dIsnt_I, dIs_non, dIsnt_non, dIn_IT, dIn_IL, dIdx_tup, dIdx_lst, dIdx_scr, dAdd_int, atI0, atI1, atI2, atI3, atI4, atI5, vw_last, get_last, set_last, app_last, d1, m1, m0, e1]) ?_)
      refine Good.seq (Good.nx (ρ := [some (.int r), some (encI i), some (.lst (is.map encI)), some (encPc pc), some (.int (r % 6)), none, some (.ref 0), some (.int J), some (encO a), some (encO b)]) (h := [.lst (ms.map encM)]) (by simp only [sSeq, sIf, sB, sE, sAsg, sRet, sRetN, sNil, sExpr, sBrk, sCnt, gN, gT, gsC, gsN, FK.e1, FK.e2, eC, eVar, eCall, aNil, aCons, M.bind, M.pure, eTup, eLst, eNew, eSl, oNone, oSome, bT, bNot, bAnd, bOr, eAnd, eOr, eNot, eIf, eCh, truth, eMs, eMl, dSub, dMod, dLe, dLt, dGe, dGt, D.isNon, dSl, dLen, dInt, dOrd_one, dMax2, dMin2, dTuple, dList, dListC, dApp, dNeg, vw, seq, lstOf, fnD, List.map_cons, List.map_nil, List.length_cons, List.length_nil, List.cons_append, List.nil_append, List.append_nil, List.replicate_succ, List.replicate_zero, List.getElem?_cons_zero, List.getElem?_cons_succ, List.set_cons_zero, List.set_cons_succ, Int.cast_ofNat_Int, Nat.reduceBEq, Int.reduceBEq, Nat.reduceAdd, Nat.reduceSub, Nat.reduceLT, Nat.reduceLeDiff, Nat.zero_add, Nat.add_zero, Nat.sub_zero, Nat.sub_self, ↓reduceIte, if_true, if_false, Bool.not_true, Bool.not_false, Bool.false_eq_true, Bool.true_eq_false, decide_true, decide_false, decide_not, true_and, and_true, and_self, true_or, or_true, not_true_eq_false, not_false_eq_true, ne_eq, reduceCtorEq, Int.reduceLT, Int.reduceLE, Int.reduceNeg, Int.reduceSub, Int.reduceAdd, Int.reduceMul, Int.reducePow, Int.reduceToNat, sz, D.dat, D.datL, D.dep, D.depL, szl, inb, List.any_cons, List.any_nil, Bool.true_and, Bool.false_and, Bool.and_true, Bool.and_false, Bool.or_false, Bool.false_or, Bool.true_or, Bool.or_true, Nat.max_self, Nat.max_zero, Nat.zero_max, Nat.min_self, Nat.zero_le, Nat.min_zero, Nat.zero_min, iR1, iR2, rng1, rng2, iE, itOf, sFor, bYes, Option.isNone_some, Option.isSome_some, Option.isNone_none, Option.isSome_none, Option.some.injEq, dEq_int, dNe_int, dEq_II, dEq_OO, dEq_OI, dEq_IO, dEq_PP, dNe_PP, dIs_O, dIsnt_O, dIs_I, dIsnt_I, dIs_non, dIsnt_non, dIn_IT, dIn_IL, dIdx_tup, dIdx_lst, dIdx_scr, dAdd_int, atI0, atI1, atI2, atI3, atI4, atI5, vw_last, get_last, set_last, app_last, d2, m2, m0, e2]) ?_)
      have hz : (ms.map encM).length < 16777216 := by rw [List.length_map]; omega
      refine Good.nx (ρ := [some (.int r), some (encI i), some (.lst (is.map encI)), some (encPc pc), some (.int (r % 6)), none, some (.ref 0), some (.int J), some (encO a), some (encO b)]) (h := [.lst ((ms ++ [(a, b, p)]).map encM)]) (by simp only [sSeq, sIf, sB, sE, sAsg, sRet, sRetN, sNil, sExpr, sBrk, sCnt, gN, gT, gsC, gsN, FK.e1, FK.e2, eC, eVar, eCall, aNil, aCons, M.bind, M.pure, eTup, eLst, eNew, eSl, oNone, oSome, bT, bNot, bAnd, bOr, eAnd, eOr, eNot, eIf, eCh, truth, eMs, eMl, dSub, dMod, dLe, dLt, dGe, dGt, D.isNon, dSl, dLen, dInt, dOrd_one, dMax2, dMin2, dTuple, dList, dListC, dApp, dNeg, vw, seq, lstOf, fnD, List.map_cons, List.map_nil, List.length_cons, List.length_nil, List.cons_append, List.nil_append, List.append_nil, List.replicate_succ, List.replicate_zero, List.getElem?_cons_zero, List.getElem?_cons_succ, List.set_cons_zero, List.set_cons_succ, Int.cast_ofNat_Int, Nat.reduceBEq, Int.reduceBEq, Nat.reduceAdd, Nat.reduceSub, Nat.reduceLT, Nat.reduceLeDiff, Nat.zero_add, Nat.add_zero, Nat.sub_zero, Nat.sub_self, ↓reduceIte, if_true, if_false, Bool.not_true, Bool.not_false, Bool.false_eq_true, Bool.true_eq_false, decide_true, decide_false, decide_not, true_and, and_true, and_self, true_or, or_true, not_true_eq_false, not_false_eq_true, ne_eq, reduceCtorEq, Int.reduceLT, Int.reduceLE, Int.reduceNeg, Int.reduceSub, Int.reduceAdd, Int.reduceMul, Int.reducePow, Int.reduceToNat, sz, D.dat, D.datL, D.dep, D.depL, szl, inb, List.any_cons, List.any_nil, Bool.true_and, Bool.false_and, Bool.and_true, Bool.and_false, Bool.or_false, Bool.false_or, Bool.true_or, Bool.or_true, Nat.max_self, Nat.max_zero, Nat.zero_max, Nat.min_self, Nat.zero_le, Nat.min_zero, Nat.zero_min, iR1, iR2, rng1, rng2, iE, itOf, sFor, bYes, Option.isNone_some, Option.isSome_some, Option.isNone_none, Option.isSome_none, Option.some.injEq, dEq_int, dNe_int, dEq_II, dEq_OO, dEq_OI, dEq_IO, dEq_PP, dNe_PP, dIs_O, dIsnt_O, dIs_I, dIsnt_I, dIs_non, dIsnt_non, dIn_IT, dIn_IL, dIdx_tup, dIdx_lst, dIdx_scr, dAdd_int, atI0, atI1, atI2, atI3, atI4, atI5, vw_last, get_last, set_last, app_last, d3, m3, e3, hz, List.map_append]; rfl) ⟨_, _, _, ms ++ [(a, b, p)], rfl, rfl, by simp [hj], fun m hm2 => ?_⟩
      rcases List.mem_append.mp hm2 with z | z
      · exact hm m z
      · rw [List.mem_singleton.mp z]; exact ⟨hp, hpn3⟩
    · rintro ρ h ⟨y, z, u, ms, rfl, rfl, hj, hm⟩
      rw [length_rangeD] at hj
      exact Good.rt (by simp only [sSeq, sIf, sB, sE, sAsg, sRet, sRetN, sNil, sExpr, sBrk, sCnt, gN, gT, gsC, gsN, FK.e1, FK.e2, eC, eVar, eCall, aNil, aCons, M.bind, M.pure, eTup, eLst, eNew, eSl, oNone, oSome, bT, bNot, bAnd, bOr, eAnd, eOr, eNot, eIf, eCh, truth, eMs, eMl, dSub, dMul, dFdiv, dMod, dLe, dLt, dGe, dGt, D.isNon, dSl, dLen, dInt, dOrd_one, dMax2, dMin2, dTuple, dList, dListC, dApp, dNeg, vw, seq, lstOf, fnD, List.map_cons, List.map_nil, List.length_cons, List.length_nil, List.cons_append, List.nil_append, List.append_nil, List.replicate_succ, List.replicate_zero, List.getElem?_cons_zero, List.getElem?_cons_succ, List.set_cons_zero, List.set_cons_succ, Int.cast_ofNat_Int, Nat.reduceBEq, Int.reduceBEq, Nat.reduceAdd, Nat.reduceSub, Nat.reduceLT, Nat.reduceLeDiff, Nat.zero_add, Nat.add_zero, Nat.sub_zero, Nat.sub_self, ↓reduceIte, if_true, if_false, Bool.not_true, Bool.not_false, Bool.false_eq_true, Bool.true_eq_false, decide_true, decide_false, decide_not, true_and, and_true, and_self, true_or, or_true, not_true_eq_false, not_false_eq_true, ne_eq, reduceCtorEq, Int.reduceLT, Int.reduceLE, Int.reduceNeg, Int.reduceSub, Int.reduceAdd, Int.reduceMul, Int.reducePow, Int.reduceToNat, sz, D.dat, D.datL, D.dep, D.depL, szl, inb, List.any_cons, List.any_nil, Bool.true_and, Bool.false_and, Bool.and_true, Bool.and_false, Bool.or_false, Bool.false_or, Bool.true_or, Bool.or_true, Nat.max_self, Nat.max_zero, Nat.zero_max, Nat.min_self, Nat.zero_le, Nat.min_zero, Nat.zero_min, iR1, iR2, rng1, rng2, iE, itOf, sFor, bYes, Option.isNone_some, Option.isSome_some, Option.isNone_none, Option.isSome_none, Option.some.injEq, dEq_int, dNe_int, dEq_II, dEq_OO, dEq_OI, dEq_IO, dEq_PP, dNe_PP, dIs_O, dIsnt_O, dIs_I, dIsnt_I, dIs_non, dIsnt_non, dIn_IT, dIn_IL, dIdx_tup, dIdx_lst, dIdx_scr, dAdd_int, atI0, atI1, atI2, atI3, atI4, atI5, vw_last, get_last, set_last, app_last]; rfl) ⟨.move i ms, ⟨by omega, fun m h => (hm m h).1⟩, rfl, fun m h => (hm m h).2, rfl⟩)
  exact ⟨ed, h1, h2, h4, h', e⟩
def idK (k : Nat) : Id := ((k : Int) / 2 + 1, (k : Int) % 2)
theorem encI_idK (k : Nat) : encI (idK k) = .tup [.int ((k : Int) / 2 + 1), .int ((k : Int) % 2)] := rfl
theorem range_succ_map {α : Type} (f : Nat → α) (n : Nat) : (List.range (n + 1)).map f = (List.range n).map f ++ [f n] := by rw [List.range_succ, List.map_append]; rfl
theorem edits_okN (ns : List Int) (n : Nat) (hl : ns.length ≤ 63) (hn : n < 1000) (h : CH) : ∃ es : List Ed, es.length = n ∧ (∀ e ∈ es, okE e) ∧ es.map Ed.id = (List.range n).map idK ∧ (∀ j e, es[j]? = some e → okN ((List.range j).map idK) e) ∧ callP 2 d_l_edits [scrD ns, .int n] h = .ok (.lst (es.map encE)) h := by
  obtain ⟨cs, hc, hp, er⟩ := rows_ok ns n hl hn []
  replace er : callP 2 d_l_rows [scrD ns, .int n] [] = .ok (.lst (cs.map .int)) [] := er
  have hr : inR (n : Int) := inR_nat (by omega)
  obtain ⟨d, h', e, es, h1, h2, h3, h4, rfl, hh⟩ := Good.fn (N := 7) (body := b_l_edits) (ds := [scrD ns, .int n]) (h := []) (ρ := [some (scrD ns), some (.int n), none, none, none, none, none]) (T := fun d h' => ∃ es : List Ed, es.length = n ∧ (∀ e ∈ es, okE e) ∧ es.map Ed.id = (List.range n).map idK ∧ (∀ j e, es[j]? = some e → okN ((List.range j).map idK) e) ∧ d = .ref 0 ∧ h'[0]? = some (.lst (es.map encE))) (by
    unfold b_l_edits
    refine Good.seq (Good.nx (ρ := [some (scrD ns), some (.int n), some (.lst (cs.map .int)), none, none, none, none]) (h := []) (by simp only [sSeq, sIf, sB, sE, sAsg, sRet, sRetN, sNil, sExpr, sBrk, sCnt, gN, gT, gsC, gsN, FK.e1, FK.e2, eC, eVar, eCall, aNil, aCons, M.bind, M.pure, eTup, eLst, eNew, eSl, oNone, oSome, bT, bNot, bAnd, bOr, eAnd, eOr, eNot, eIf, eCh, truth, eMs, eMl, dSub, dMul, dFdiv, dMod, dLe, dLt, dGe, dGt, D.isNon, dSl, dLen, dInt, dOrd_one, dMax2, dMin2, dTuple, dList, dListC, dApp, dNeg, vw, seq, lstOf, fnD, List.map_cons, List.map_nil, List.length_cons, List.length_nil, List.cons_append, List.nil_append, List.append_nil, List.replicate_succ, List.replicate_zero, List.getElem?_cons_zero, List.getElem?_cons_succ, List.set_cons_zero, List.set_cons_succ, Int.cast_ofNat_Int, Nat.reduceBEq, Int.reduceBEq, Nat.reduceAdd, Nat.reduceSub, Nat.reduceLT, Nat.reduceLeDiff, Nat.zero_add, Nat.add_zero, Nat.sub_zero, Nat.sub_self, ↓reduceIte, if_true, if_false, Bool.not_true, Bool.not_false, Bool.false_eq_true, Bool.true_eq_false, decide_true, decide_false, decide_not, true_and, and_true, and_self, true_or, or_true, not_true_eq_false, not_false_eq_true, ne_eq, reduceCtorEq, Int.reduceLT, Int.reduceLE, Int.reduceNeg, Int.reduceSub, Int.reduceAdd, Int.reduceMul, Int.reducePow, Int.reduceToNat, sz, D.dat, D.datL, D.dep, D.depL, szl, inb, List.any_cons, List.any_nil, Bool.true_and, Bool.false_and, Bool.and_true, Bool.and_false, Bool.or_false, Bool.false_or, Bool.true_or, Bool.or_true, Nat.max_self, Nat.max_zero, Nat.zero_max, Nat.min_self, Nat.zero_le, Nat.min_zero, Nat.zero_min, iR1, iR2, rng1, rng2, iE, itOf, sFor, bYes, Option.isNone_some, Option.isSome_some, Option.isNone_none, Option.isSome_none, Option.some.injEq, dEq_int, dNe_int, dEq_II, dEq_OO, dEq_OI, dEq_IO, dEq_PP, dNe_PP, dIs_O, dIsnt_O, dIs_I, dIsnt_I, dIs_non, dIsnt_non, dIn_IT, dIn_IL, dIdx_tup, dIdx_lst, dIdx_scr, dAdd_int, atI0, atI1, atI2, atI3, atI4, atI5, vw_last, get_last, set_last, app_last, er]) ?_)
    refine Good.seq (Good.nx (ρ := [some (scrD ns), some (.int n), some (.lst (cs.map .int)), some (.ref 0), none, none, none]) (h := [.lst []]) (by simp only [sSeq, sIf, sB, sE, sAsg, sRet, sRetN, sNil, sExpr, sBrk, sCnt, gN, gT, gsC, gsN, FK.e1, FK.e2, eC, eVar, eCall, aNil, aCons, M.bind, M.pure, eTup, eLst, eSl, oNone, oSome, bT, bNot, bAnd, bOr, eAnd, eOr, eNot, eIf, eCh, truth, eMs, eMl, dSub, dMul, dFdiv, dMod, dLe, dLt, dGe, dGt, D.isNon, dSl, dLen, dInt, dOrd_one, dMax2, dMin2, dTuple, dList, dListC, dApp, dNeg, vw, seq, lstOf, fnD, List.map_cons, List.map_nil, List.length_cons, List.length_nil, List.cons_append, List.nil_append, List.append_nil, List.replicate_succ, List.replicate_zero, List.getElem?_cons_zero, List.getElem?_cons_succ, List.set_cons_zero, List.set_cons_succ, Int.cast_ofNat_Int, Nat.reduceBEq, Int.reduceBEq, Nat.reduceAdd, Nat.reduceSub, Nat.reduceLT, Nat.reduceLeDiff, Nat.zero_add, Nat.add_zero, Nat.sub_zero, Nat.sub_self, ↓reduceIte, if_true, if_false, Bool.not_true, Bool.not_false, Bool.false_eq_true, Bool.true_eq_false, decide_true, decide_false, decide_not, true_and, and_true, and_self, true_or, or_true, not_true_eq_false, not_false_eq_true, ne_eq, reduceCtorEq, Int.reduceLT, Int.reduceLE, Int.reduceNeg, Int.reduceSub, Int.reduceAdd, Int.reduceMul, Int.reducePow, Int.reduceToNat, sz, D.dat, D.datL, D.dep, D.depL, szl, inb, List.any_cons, List.any_nil, Bool.true_and, Bool.false_and, Bool.and_true, Bool.and_false, Bool.or_false, Bool.false_or, Bool.true_or, Bool.or_true, Nat.max_self, Nat.max_zero, Nat.zero_max, Nat.min_self, Nat.zero_le, Nat.min_zero, Nat.zero_min, iR1, iR2, rng1, rng2, iE, itOf, sFor, bYes, Option.isNone_some, Option.isSome_some, Option.isNone_none, Option.isSome_none, Option.some.injEq, dEq_int, dNe_int, dEq_II, dEq_OO, dEq_OI, dEq_IO, dEq_PP, dNe_PP, dIs_O, dIsnt_O, dIs_I, dIsnt_I, dIs_non, dIsnt_non, dIn_IT, dIn_IL, dIdx_tup, dIdx_lst, dIdx_scr, dAdd_int, atI0, atI1, atI2, atI3, atI4, atI5, vw_last, get_last, set_last, app_last, eNew_nil]) ?_)
    refine Good.seq (Good.nx (ρ := [some (scrD ns), some (.int n), some (.lst (cs.map .int)), some (.ref 0), some (.ref 1), none, none]) (h := [.lst [], .lst []]) (by simp only [sSeq, sIf, sB, sE, sAsg, sRet, sRetN, sNil, sExpr, sBrk, sCnt, gN, gT, gsC, gsN, FK.e1, FK.e2, eC, eVar, eCall, aNil, aCons, M.bind, M.pure, eTup, eLst, eSl, oNone, oSome, bT, bNot, bAnd, bOr, eAnd, eOr, eNot, eIf, eCh, truth, eMs, eMl, dSub, dMul, dFdiv, dMod, dLe, dLt, dGe, dGt, D.isNon, dSl, dLen, dInt, dOrd_one, dMax2, dMin2, dTuple, dList, dListC, dApp, dNeg, vw, seq, lstOf, fnD, List.map_cons, List.map_nil, List.length_cons, List.length_nil, List.cons_append, List.nil_append, List.append_nil, List.replicate_succ, List.replicate_zero, List.getElem?_cons_zero, List.getElem?_cons_succ, List.set_cons_zero, List.set_cons_succ, Int.cast_ofNat_Int, Nat.reduceBEq, Int.reduceBEq, Nat.reduceAdd, Nat.reduceSub, Nat.reduceLT, Nat.reduceLeDiff, Nat.zero_add, Nat.add_zero, Nat.sub_zero, Nat.sub_self, ↓reduceIte, if_true, if_false, Bool.not_true, Bool.not_false, Bool.false_eq_true, Bool.true_eq_false, decide_true, decide_false, decide_not, true_and, and_true, and_self, true_or, or_true, not_true_eq_false, not_false_eq_true, ne_eq, reduceCtorEq, Int.reduceLT, Int.reduceLE, Int.reduceNeg, Int.reduceSub, Int.reduceAdd, Int.reduceMul, Int.reducePow, Int.reduceToNat, sz, D.dat, D.datL, D.dep, D.depL, szl, inb, List.any_cons, List.any_nil, Bool.true_and, Bool.false_and, Bool.and_true, Bool.and_false, Bool.or_false, Bool.false_or, Bool.true_or, Bool.or_true, Nat.max_self, Nat.max_zero, Nat.zero_max, Nat.min_self, Nat.zero_le, Nat.min_zero, Nat.zero_min, iR1, iR2, rng1, rng2, iE, itOf, sFor, bYes, Option.isNone_some, Option.isSome_some, Option.isNone_none, Option.isSome_none, Option.some.injEq, dEq_int, dNe_int, dEq_II, dEq_OO, dEq_OI, dEq_IO, dEq_PP, dNe_PP, dIs_O, dIsnt_O, dIs_I, dIsnt_I, dIs_non, dIsnt_non, dIn_IT, dIn_IL, dIdx_tup, dIdx_lst, dIdx_scr, dAdd_int, atI0, atI1, atI2, atI3, atI4, atI5, vw_last, get_last, set_last, app_last, eNew_nil]) ?_)
    refine Good.seq (Good.sFor (ds := rangeD 0 n) (h1 := [.lst [], .lst []]) (by simp only [sSeq, sIf, sB, sE, sAsg, sRet, sRetN, sNil, sExpr, sBrk, sCnt, gN, gT, gsC, gsN, FK.e1, FK.e2, eC, eVar, eCall, aNil, aCons, M.bind, M.pure, eTup, eLst, eNew, eSl, oNone, oSome, bT, bNot, bAnd, bOr, eAnd, eOr, eNot, eIf, eCh, truth, eMs, eMl, dSub, dMul, dFdiv, dMod, dLe, dLt, dGe, dGt, D.isNon, dSl, dLen, dInt, dOrd_one, dMax2, dMin2, dTuple, dList, dListC, dApp, dNeg, vw, seq, lstOf, fnD, List.map_cons, List.map_nil, List.length_cons, List.length_nil, List.cons_append, List.nil_append, List.append_nil, List.replicate_succ, List.replicate_zero, List.getElem?_cons_zero, List.getElem?_cons_succ, List.set_cons_zero, List.set_cons_succ, Int.cast_ofNat_Int, Nat.reduceBEq, Int.reduceBEq, Nat.reduceAdd, Nat.reduceSub, Nat.reduceLT, Nat.reduceLeDiff, Nat.zero_add, Nat.add_zero, Nat.sub_zero, Nat.sub_self, ↓reduceIte, if_true, if_false, Bool.not_true, Bool.not_false, Bool.false_eq_true, Bool.true_eq_false, decide_true, decide_false, decide_not, true_and, and_true, and_self, true_or, or_true, not_true_eq_false, not_false_eq_true, ne_eq, reduceCtorEq, Int.reduceLT, Int.reduceLE, Int.reduceNeg, Int.reduceSub, Int.reduceAdd, Int.reduceMul, Int.reducePow, Int.reduceToNat, sz, D.dat, D.datL, D.dep, D.depL, szl, inb, List.any_cons, List.any_nil, Bool.true_and, Bool.false_and, Bool.and_true, Bool.and_false, Bool.or_false, Bool.false_or, Bool.true_or, Bool.or_true, Nat.max_self, Nat.max_zero, Nat.zero_max, Nat.min_self, Nat.zero_le, Nat.min_zero, Nat.zero_min, iR1, iR2, rng1, rng2, iE, itOf, sFor, bYes, Option.isNone_some, Option.isSome_some, Option.isNone_none, Option.isSome_none, Option.some.injEq, dEq_int, dNe_int, dEq_II, dEq_OO, dEq_OI, dEq_IO, dEq_PP, dNe_PP, dIs_O, dIsnt_O, dIs_I, dIsnt_I, dIs_non, dIsnt_non, dIn_IT, dIn_IL, dIdx_tup, dIdx_lst, dIdx_scr, dAdd_int, atI0, atI1, atI2, atI3, atI4, atI5, vw_last, get_last, set_last, app_last, if_pos hr]) (Good.forL (fun j ρ h => ∃ (y z : Option D) (es : List Ed), ρ = [some (scrD ns), some (.int n), some (.lst (cs.map .int)), some (.ref 0), some (.ref 1), y, z] ∧ h = [.lst (es.map encE), .lst (((List.range j).map idK).map encI)] ∧ es.length = j ∧ (∀ e ∈ es, okE e) ∧ es.map Ed.id = (List.range j).map idK ∧ ∀ k e, es[k]? = some e → okN ((List.range k).map idK) e) _ ⟨none, none, [], rfl, rfl, rfl, by simp, rfl, by simp⟩ ?_ ?_))
    · rintro j d ρ h e ⟨y, z, es, rfl, rfl, hj, hm, hi, hN⟩
      obtain ⟨rfl, hj2⟩ := getElem?_rangeD e
      rw [Int.zero_add]
      refine ⟨_, rfl, ?_⟩
      obtain ⟨r, er⟩ := atI_in (ns := cs) (k := (j : Int)) (by omega) (by omega)
      have hz1 : (es.map encE).length < 16777216 := by rw [List.length_map]; omega
      have hz2 : (((List.range j).map idK).map encI).length < 16777216 := by rw [List.length_map, List.length_map, List.length_range]; omega
      refine Good.seq (Good.nx (ρ := [some (scrD ns), some (.int n), some (.lst (cs.map .int)), some (.ref 0), some (.ref 1), some (.int j), some (encI (idK j))]) (h := [.lst (es.map encE), .lst (((List.range j).map idK).map encI)]) (by simp only [sSeq, sIf, sB, sE, sAsg, sRet, sRetN, sNil, sExpr, sBrk, sCnt, gN, gT, gsC, gsN, FK.e1, FK.e2, eC, eVar, eCall, aNil, aCons, M.bind, M.pure, eTup, eLst, eNew, eSl, oNone, oSome, bT, bNot, bAnd, bOr, eAnd, eOr, eNot, eIf, eCh, truth, eMs, eMl, dSub, dMul, dFdiv, dMod, dLe, dLt, dGe, dGt, D.isNon, dSl, dLen, dInt, dOrd_one, dMax2, dMin2, dTuple, dList, dListC, dApp, dNeg, vw, seq, lstOf, fnD, List.map_cons, List.map_nil, List.length_cons, List.length_nil, List.cons_append, List.nil_append, List.append_nil, List.replicate_succ, List.replicate_zero, List.getElem?_cons_zero, List.getElem?_cons_succ, List.set_cons_zero, List.set_cons_succ, Int.cast_ofNat_Int, Nat.reduceBEq, Int.reduceBEq, Nat.reduceAdd, Nat.reduceSub, Nat.reduceLT, Nat.reduceLeDiff, Nat.zero_add, Nat.add_zero, Nat.sub_zero, Nat.sub_self, ↓reduceIte, if_true, if_false, Bool.not_true, Bool.not_false, Bool.false_eq_true, Bool.true_eq_false, decide_true, decide_false, decide_not, true_and, and_true, and_self, true_or, or_true, not_true_eq_false, not_false_eq_true, ne_eq, reduceCtorEq, Int.reduceLT, Int.reduceLE, Int.reduceNeg, Int.reduceSub, Int.reduceAdd, Int.reduceMul, Int.reducePow, Int.reduceToNat, sz, D.dat, D.datL, D.dep, D.depL, szl, inb, List.any_cons, List.any_nil, Bool.true_and, Bool.false_and, Bool.and_true, Bool.and_false, Bool.or_false, Bool.false_or, Bool.true_or, Bool.or_true, Nat.max_self, Nat.max_zero, Nat.zero_max, Nat.min_self, Nat.zero_le, Nat.min_zero, Nat.zero_min, iR1, iR2, rng1, rng2, iE, itOf, sFor, bYes, Option.isNone_some, Option.isSome_some, Option.isNone_none, Option.isSome_none, Option.some.injEq, dEq_int, dNe_int, dEq_II, dEq_OO, dEq_OI, dEq_IO, dEq_PP, dNe_PP, dIs_O, dIsnt_O, dIs_I, dIsnt_I, dIs_non, dIsnt_non, dIn_IT, dIn_IL, dIdx_tup, dIdx_lst, dIdx_scr, dAdd_int, atI0, atI1, atI2, atI3, atI4, atI5, vw_last, get_last, set_last, app_last, encI_idK]) ?_)
      obtain ⟨ed, h1, h2, h5, hx, e2⟩ := edit_ok r (idK j) ((List.range j).map idK) (by rw [List.length_map, List.length_range]; omega)
      have e3 : callP 3 d_l_edit [.int r, encI (idK j), .ref 1] [.lst (es.map encE), .lst (((List.range j).map idK).map encI)] = .ok (encE ed) [.lst (es.map encE), .lst (((List.range j).map idK).map encI)] := by
        refine callP_fz (es := [.int r, encI (idK j), .lst (((List.range j).map idK).map encI)]) rfl ?_ e2 (flat_E ed)
        unfold mapO mapO mapO mapO
        rw [fz_nr rfl, fz_nr (nr_I _), fz_ref rfl (nrL_I _)]
      refine Good.seq (Good.nx (ρ := [some (scrD ns), some (.int n), some (.lst (cs.map .int)), some (.ref 0), some (.ref 1), some (.int j), some (encI (idK j))]) (h := [.lst ((es ++ [ed]).map encE), .lst (((List.range j).map idK).map encI)]) (by simp only [sSeq, sIf, sB, sE, sAsg, sRet, sRetN, sNil, sExpr, sBrk, sCnt, gN, gT, gsC, gsN, FK.e1, FK.e2, eC, eVar, eCall, aNil, aCons, M.bind, M.pure, eTup, eLst, eNew, eSl, oNone, oSome, bT, bNot, bAnd, bOr, eAnd, eOr, eNot, eIf, eCh, truth, eMs, eMl, dSub, dMul, dFdiv, dMod, dLe, dLt, dGe, dGt, D.isNon, dSl, dLen, dInt, dOrd_one, dMax2, dMin2, dTuple, dList, dListC, dApp, dNeg, vw, seq, lstOf, fnD, List.map_cons, List.map_nil, List.length_cons, List.length_nil, List.cons_append, List.nil_append, List.append_nil, List.replicate_succ, List.replicate_zero, List.getElem?_cons_zero, List.getElem?_cons_succ, List.set_cons_zero, List.set_cons_succ, Int.cast_ofNat_Int, Nat.reduceBEq, Int.reduceBEq, Nat.reduceAdd, Nat.reduceSub, Nat.reduceLT, Nat.reduceLeDiff, Nat.zero_add, Nat.add_zero, Nat.sub_zero, Nat.sub_self, ↓reduceIte, if_true, if_false, Bool.not_true, Bool.not_false, Bool.false_eq_true, Bool.true_eq_false, decide_true, decide_false, decide_not, true_and, and_true, and_self, true_or, or_true, not_true_eq_false, not_false_eq_true, ne_eq, reduceCtorEq, Int.reduceLT, Int.reduceLE, Int.reduceNeg, Int.reduceSub, Int.reduceAdd, Int.reduceMul, Int.reducePow, Int.reduceToNat, sz, D.dat, D.datL, D.dep, D.depL, szl, inb, List.any_cons, List.any_nil, Bool.true_and, Bool.false_and, Bool.and_true, Bool.and_false, Bool.or_false, Bool.false_or, Bool.true_or, Bool.or_true, Nat.max_self, Nat.max_zero, Nat.zero_max, Nat.min_self, Nat.zero_le, Nat.min_zero, Nat.zero_min, iR1, iR2, rng1, rng2, iE, itOf, sFor, bYes, Option.isNone_some, Option.isSome_some, Option.isNone_none, Option.isSome_none, Option.some.injEq, dEq_int, dNe_int, dEq_II, dEq_OO, dEq_OI, dEq_IO, dEq_PP, dNe_PP, dIs_O, dIsnt_O, dIs_I, dIsnt_I, dIs_non, dIsnt_non, dIn_IT, dIn_IL, dIdx_tup, dIdx_lst, dIdx_scr, dAdd_int, atI0, atI1, atI2, atI3, atI4, atI5, vw_last, get_last, set_last, app_last, er, e3, hz1, List.map_append]) ?_)
      refine Good.nx (ρ := [some (scrD ns), some (.int n), some (.lst (cs.map .int)), some (.ref 0), some (.ref 1), some (.int j), some (encI (idK j))]) (h := [.lst ((es ++ [ed]).map encE), .lst (((List.range (j + 1)).map idK).map encI)]) (by simp only [sSeq, sIf, sB, sE, sAsg, sRet, sRetN, sNil, sExpr, sBrk, sCnt, gN, gT, gsC, gsN, FK.e1, FK.e2, eC, eVar, eCall, aNil, aCons, M.bind, M.pure, eTup, eLst, eNew, eSl, oNone, oSome, bT, bNot, bAnd, bOr, eAnd, eOr, eNot, eIf, eCh, truth, eMs, eMl, dSub, dMul, dFdiv, dMod, dLe, dLt, dGe, dGt, D.isNon, dSl, dLen, dInt, dOrd_one, dMax2, dMin2, dTuple, dList, dListC, dApp, dNeg, vw, seq, lstOf, fnD, List.map_cons, List.map_nil, List.length_cons, List.length_nil, List.cons_append, List.nil_append, List.append_nil, List.replicate_succ, List.replicate_zero, List.getElem?_cons_zero, List.getElem?_cons_succ, List.set_cons_zero, List.set_cons_succ, Int.cast_ofNat_Int, Nat.reduceBEq, Int.reduceBEq, Nat.reduceAdd, Nat.reduceSub, Nat.reduceLT, Nat.reduceLeDiff, Nat.zero_add, Nat.add_zero, Nat.sub_zero, Nat.sub_self, ↓reduceIte, if_true, if_false, Bool.not_true, Bool.not_false, Bool.false_eq_true, Bool.true_eq_false, decide_true, decide_false, decide_not, true_and, and_true, and_self, true_or, or_true, not_true_eq_false, not_false_eq_true, ne_eq, reduceCtorEq, Int.reduceLT, Int.reduceLE, Int.reduceNeg, Int.reduceSub, Int.reduceAdd, Int.reduceMul, Int.reducePow, Int.reduceToNat, sz, D.dat, D.datL, D.dep, D.depL, szl, inb, List.any_cons, List.any_nil, Bool.true_and, Bool.false_and, Bool.and_true, Bool.and_false, Bool.or_false, Bool.false_or, Bool.true_or, Bool.or_true, Nat.max_self, Nat.max_zero, Nat.zero_max, Nat.min_self, Nat.zero_le, Nat.min_zero, Nat.zero_min, iR1, iR2, rng1, rng2, iE, itOf, sFor, bYes, Option.isNone_some, Option.isSome_some, Option.isNone_none, Option.isSome_none, Option.some.injEq, dEq_int, dNe_int, dEq_II, dEq_OO, dEq_OI, dEq_IO, dEq_PP, dNe_PP, dIs_O, dIsnt_O, dIs_I, dIsnt_I, dIs_non, dIsnt_non, dIn_IT, dIn_IL, dIdx_tup, dIdx_lst, dIdx_scr, dAdd_int, atI0, atI1, atI2, atI3, atI4, atI5, vw_last, get_last, set_last, app_last, hz2, range_succ_map, List.map_append]) ⟨_, _, es ++ [ed], rfl, rfl, by simp [hj], fun m hm2 => ?_, by rw [range_succ_map, List.map_append, hi, List.map_cons, h2]; rfl, fun k e hk => ?_⟩
      rotate_left
      · by_cases hkj : k < es.length
        · rw [List.getElem?_append_left hkj] at hk
          exact hN k e hk
        · have : k = es.length := by
            obtain ⟨q, _⟩ := List.getElem?_eq_some_iff.mp hk
            simp at q
            omega
          subst this
          rw [List.getElem?_append_right (Nat.le_refl _), Nat.sub_self] at hk
          cases hk
          rw [hj]
          exact h5
      rcases List.mem_append.mp hm2 with z | z
      · exact hm m z
      · rw [List.mem_singleton.mp z]; exact h1
    · rintro ρ h ⟨y, z, es, rfl, rfl, hj, hm, hi, hN⟩
      rw [length_rangeD] at hj hi
      have hn2 : ((n : Int) - 0).toNat = n := by omega
      rw [hn2] at hj hi
      exact Good.rt (by simp only [sSeq, sIf, sB, sE, sAsg, sRet, sRetN, sNil, sExpr, sBrk, sCnt, gN, gT, gsC, gsN, FK.e1, FK.e2, eC, eVar, eCall, aNil, aCons, M.bind, M.pure, eTup, eLst, eNew, eSl, oNone, oSome, bT, bNot, bAnd, bOr, eAnd, eOr, eNot, eIf, eCh, truth, eMs, eMl, dSub, dMul, dFdiv, dMod, dLe, dLt, dGe, dGt, D.isNon, dSl, dLen, dInt, dOrd_one, dMax2, dMin2, dTuple, dList, dListC, dApp, dNeg, vw, seq, lstOf, fnD, List.map_cons, List.map_nil, List.length_cons, List.length_nil, List.cons_append, List.nil_append, List.append_nil, List.replicate_succ, List.replicate_zero, List.getElem?_cons_zero, List.getElem?_cons_succ, List.set_cons_zero, List.set_cons_succ, Int.cast_ofNat_Int, Nat.reduceBEq, Int.reduceBEq, Nat.reduceAdd, Nat.reduceSub, Nat.reduceLT, Nat.reduceLeDiff, Nat.zero_add, Nat.add_zero, Nat.sub_zero, Nat.sub_self, ↓reduceIte, if_true, if_false, Bool.not_true, Bool.not_false, Bool.false_eq_true, Bool.true_eq_false, decide_true, decide_false, decide_not, true_and, and_true, and_self, true_or, or_true, not_true_eq_false, not_false_eq_true, ne_eq, reduceCtorEq, Int.reduceLT, Int.reduceLE, Int.reduceNeg, Int.reduceSub, Int.reduceAdd, Int.reduceMul, Int.reducePow, Int.reduceToNat, sz, D.dat, D.datL, D.dep, D.depL, szl, inb, List.any_cons, List.any_nil, Bool.true_and, Bool.false_and, Bool.and_true, Bool.and_false, Bool.or_false, Bool.false_or, Bool.true_or, Bool.or_true, Nat.max_self, Nat.max_zero, Nat.zero_max, Nat.min_self, Nat.zero_le, Nat.min_zero, Nat.zero_min, iR1, iR2, rng1, rng2, iE, itOf, sFor, bYes, Option.isNone_some, Option.isSome_some, Option.isNone_none, Option.isSome_none, Option.some.injEq, dEq_int, dNe_int, dEq_II, dEq_OO, dEq_OI, dEq_IO, dEq_PP, dNe_PP, dIs_O, dIsnt_O, dIs_I, dIsnt_I, dIs_non, dIsnt_non, dIn_IT, dIn_IL, dIdx_tup, dIdx_lst, dIdx_scr, dAdd_int, atI0, atI1, atI2, atI3, atI4, atI5, vw_last, get_last, set_last, app_last]; rfl) ⟨es, hj, hm, hi, hN, rfl, rfl⟩)
  refine ⟨es, h1, h2, h3, h4, callP_ok ?_ e (fz_ref hh (flatL_nrL (flatL_E es)))⟩
  show (D.nr (scrD ns) && true) = true
  rw [nr_scr]; rfl
theorem edits_ok (ns : List Int) (n : Nat) (hl : ns.length ≤ 63) (hn : n < 1000) (h : CH) : ∃ es : List Ed, es.length = n ∧ (∀ e ∈ es, okE e) ∧ es.map Ed.id = (List.range n).map idK ∧ callP 2 d_l_edits [scrD ns, .int n] h = .ok (.lst (es.map encE)) h := by
  obtain ⟨es, h1, h2, h3, _, e⟩ := edits_okN ns n hl hn h
  exact ⟨es, h1, h2, h3, e⟩
theorem nodup_ids (n : Nat) : ((List.range n).map idK).Nodup := by
  refine List.Pairwise.map _ (fun a b hab => ?_) List.nodup_range
  intro z
  have z1 := congrArg Prod.fst z
  have z2 := congrArg Prod.snd z
  unfold idK at z1 z2
  dsimp only at z1 z2
  omega
end FK

/-! part: M_k14 -/
set_option linter.all false
set_option maxRecDepth 100000
set_option maxHeartbeats 4000000
namespace FK
open PySem PySem.Spec L2
theorem encC_none' : encC none = .non := rfl
theorem nrLP (ls : List Ln) {d : D} (h : d.flat = true) : D.nrL [.lst (ls.map encL), d] = true := nrLs ls (nr1 h)
def ltI (a b : Id) : Bool := HT.lexLt [a.1, a.2] [b.1, b.2]
theorem dLt_II (a b : Id) (h : CH) : dLt (encI a) (encI b) h = .ok (.bl (ltI a b)) h := rfl
theorem ltI_iff (a b : Id) : ltI a b = true ↔ a.1 < b.1 ∨ (a.1 = b.1 ∧ a.2 < b.2) := by
  unfold ltI
  simp only [HT.lexLt]
  by_cases h : a.1 = b.1 <;> simp [h] <;> omega
theorem ltI_irr (a b : Id) (h : ltI a b = true) : ltI b a = false := by
  have := (ltI_iff a b).mp h
  cases q : ltI b a with
  | false => rfl
  | true =>
    have := (ltI_iff b a).mp q
    omega
def badAt (is : List Id) (k : Nat) : Bool := match is[k]?, is[k + 1]? with
  | some a, some b => !ltI a b
  | _, _ => false
def ascB (is : List Id) : Bool := ((List.range (is.length - 1)).find? (badAt is)).isNone
theorem asc_of {is : List Id} (h : is.Pairwise (fun a b => ltI a b = true)) : ascB is = true := by
  unfold ascB
  rw [Option.isNone_iff_eq_none, List.find?_eq_none]
  intro k hk
  have hk := List.mem_range.mp hk
  have h1 : k < is.length := by omega
  have h2 : k + 1 < is.length := by omega
  unfold badAt
  rw [List.getElem?_eq_getElem h1, List.getElem?_eq_getElem h2]
  dsimp only
  have := List.pairwise_iff_getElem.mp h k (k + 1) h1 h2 (by omega)
  rw [this]
  decide
theorem asc_not {is : List Id} {k : Nat} {a b : Id} (h1 : is[k]? = some a) (h2 : is[k + 1]? = some b) (h : ltI a b = false) : ascB is = false := by
  unfold ascB
  have hk : k + 1 < is.length := (List.getElem?_eq_some_iff.mp h2).1
  cases q : (List.range (is.length - 1)).find? (badAt is) with
  | some _ => rfl
  | none =>
    have := List.find?_eq_none.mp q k (List.mem_range.mpr (by omega))
    unfold badAt at this
    rw [h1, h2] at this
    dsimp only at this
    rw [h] at this
    exact absurd rfl this
theorem ascending_ok (is : List Id) (hl : is.length ≤ 1000000) (h : CH) : callP 1 d_ascending [.lst (is.map encI)] h = .ok (.bl (ascB is)) h := by
  refine callP_ok (d := .bl (ascB is)) (h' := []) (by show (D.nrL (is.map encI) && true) = true; rw [nrL_I]; rfl) (Good.fnE (ρ := [some (.lst (is.map encI)), none]) ?_) (fz_nr rfl)
  unfold b_ascending
  have hr : inR (1 : Int) ∧ inR (is.length : Int) := ⟨⟨by omega, by omega⟩, ⟨by omega, by omega⟩⟩
  have er : rangeD 1 (is.length : Int) = (List.range (is.length - 1)).map fun (k : Nat) => .int ((k : Int) + 1) := by
    unfold rangeD
    rw [show ((is.length : Int) - 1).toNat = is.length - 1 by omega]
    congr 1
    funext k
    rw [Int.add_comm]
  refine Good.seq (Good.find (en := fun k : Nat => D.int ((k : Int) + 1)) (xs := List.range (is.length - 1)) (p := badAt is) (val := fun _ => .bl false) (o := none) (h := []) ?_ trivial rfl (fun k hk => ?_) (fun k hk _ => by simp only [sSeq, sIf, sB, sE, sAsg, sRet, sRetN, sNil, sExpr, sBrk, sCnt, gN, gT, gsC, gsN, FK.e1, FK.e2, eC, eVar, eCall, aNil, aCons, M.bind, M.pure, eTup, eLst, eNew, eSl, oNone, oSome, bT, bNot, bAnd, bOr, eAnd, eOr, eNot, eIf, eCh, truth, eMs, eMl, dSub, dMul, dFdiv, dMod, dLe, dLt, dGe, dGt, D.isNon, dSl, dLen, dInt, dOrd_one, dMax2, dMin2, dTuple, dList, dListC, dApp, dNeg, vw, seq, lstOf, fnD, List.map_cons, List.map_nil, List.length_cons, List.length_nil, List.cons_append, List.nil_append, List.append_nil, List.replicate_succ, List.replicate_zero, List.getElem?_cons_zero, List.getElem?_cons_succ, List.set_cons_zero, List.set_cons_succ, Int.cast_ofNat_Int, Nat.reduceBEq, Int.reduceBEq, Nat.reduceAdd, Nat.reduceSub, Nat.reduceLT, Nat.reduceLeDiff, Nat.zero_add, Nat.add_zero, Nat.sub_zero, Nat.sub_self, ↓reduceIte, if_true, if_false, Bool.not_true, Bool.not_false, Bool.false_eq_true, Bool.true_eq_false, decide_true, decide_false, decide_not, true_and, and_true, and_self, true_or, or_true, not_true_eq_false, not_false_eq_true, ne_eq, reduceCtorEq, Int.reduceLT, Int.reduceLE, Int.reduceNeg, Int.reduceSub, Int.reduceAdd, Int.reduceMul, Int.reducePow, Int.reduceToNat, sz, D.dat, D.datL, D.dep, D.depL, szl, inb, List.any_cons, List.any_nil, Bool.true_and, Bool.false_and, Bool.and_true, Bool.and_false, Bool.or_false, Bool.false_or, Bool.true_or, Bool.or_true, Nat.max_self, Nat.max_zero, Nat.zero_max, Nat.min_self, Nat.zero_le, Nat.min_zero, Nat.zero_min, iR1, iR2, rng1, rng2, iE, itOf, sFor, bYes, Option.isNone_some, Option.isSome_some, Option.isNone_none, Option.isSome_none, Option.some.injEq, dEq_int, dNe_int, dEq_II, dEq_OO, dEq_OI, dEq_IO, dEq_PP, dNe_PP, dIs_O, dIsnt_O, dIs_I, dIsnt_I, dIs_non, dIsnt_non, dIn_IT, dIn_IL, dIdx_tup, dIdx_lst, dIdx_scr, dAdd_int, atI0, atI1, atI2, atI3, atI4, atI5, vw_last, get_last, set_last, app_last]) (fun k e => ?_) (fun e => ?_))
  · rw [← er]
    (simp only [sSeq, sIf, sB, sE, sAsg, sRet, sRetN, sNil, sExpr, sBrk, sCnt, gN, gT, gsC, gsN, FK.e1, FK.e2, eC, eVar, eCall, aNil, aCons, M.bind, M.pure, eTup, eLst, eNew, eSl, oNone, oSome, bT, bNot, bAnd, bOr, eAnd, eOr, eNot, eIf, eCh, truth, eMs, eMl, dSub, dMul, dFdiv, dMod, dLe, dLt, dGe, dGt, D.isNon, dSl, dLen, dInt, dOrd_one, dMax2, dMin2, dTuple, dList, dListC, dApp, dNeg, vw, seq, lstOf, fnD, List.map_cons, List.map_nil, List.length_cons, List.length_nil, List.cons_append, List.nil_append, List.append_nil, List.replicate_succ, List.replicate_zero, List.getElem?_cons_zero, List.getElem?_cons_succ, List.set_cons_zero, List.set_cons_succ, Int.cast_ofNat_Int, Nat.reduceBEq, Int.reduceBEq, Nat.reduceAdd, Nat.reduceSub, Nat.reduceLT, Nat.reduceLeDiff, Nat.zero_add, Nat.add_zero, Nat.sub_zero, Nat.sub_self, ↓reduceIte, if_true, if_false, Bool.not_true, Bool.not_false, Bool.false_eq_true, Bool.true_eq_false, decide_true, decide_false, decide_not, true_and, and_true, and_self, true_or, or_true, not_true_eq_false, not_false_eq_true, ne_eq, reduceCtorEq, Int.reduceLT, Int.reduceLE, Int.reduceNeg, Int.reduceSub, Int.reduceAdd, Int.reduceMul, Int.reducePow, Int.reduceToNat, sz, D.dat, D.datL, D.dep, D.depL, szl, inb, List.any_cons, List.any_nil, Bool.true_and, Bool.false_and, Bool.and_true, Bool.and_false, Bool.or_false, Bool.false_or, Bool.true_or, Bool.or_true, Nat.max_self, Nat.max_zero, Nat.zero_max, Nat.min_self, Nat.zero_le, Nat.min_zero, Nat.zero_min, iR1, iR2, rng1, rng2, iE, itOf, sFor, bYes, Option.isNone_some, Option.isSome_some, Option.isNone_none, Option.isSome_none, Option.some.injEq, dEq_int, dNe_int, dEq_II, dEq_OO, dEq_OI, dEq_IO, dEq_PP, dNe_PP, dIs_O, dIsnt_O, dIs_I, dIsnt_I, dIs_non, dIsnt_non, dIn_IT, dIn_IL, dIdx_tup, dIdx_lst, dIdx_scr, dAdd_int, atI0, atI1, atI2, atI3, atI4, atI5, vw_last, get_last, set_last, app_last, len_lst, List.length_map, if_pos hr, hr.1, hr.2] <;> rfl)
  · have hk := List.mem_range.mp hk
    have h1 : k < is.length := by omega
    have h2 : k + 1 < is.length := by omega
    have i1 : atI (is.map encI) ((k : Int) + 1 - 1) = some (encI is[k]) := by
      rw [show ((k : Int) + 1 - 1) = (k : Int) by omega]
      exact L2.atI_nat (by rw [List.getElem?_map, List.getElem?_eq_getElem h1]; rfl)
    have i2 : atI (is.map encI) ((k : Int) + 1) = some (encI is[k + 1]) := by
      rw [show ((k : Int) + 1) = ((k + 1 : Nat) : Int) by omega]
      exact L2.atI_nat (by rw [List.getElem?_map, List.getElem?_eq_getElem h2]; rfl)
    unfold badAt
    rw [List.getElem?_eq_getElem h1, List.getElem?_eq_getElem h2]
    (simp only [sSeq, sIf, sB, sE, sAsg, sRet, sRetN, sNil, sExpr, sBrk, sCnt, gN, gT, gsC, gsN, FK.e1, FK.e2, eC, eVar, eCall, aNil, aCons, M.bind, M.pure, eTup, eLst, eNew, eSl, oNone, oSome, bT, bNot, bAnd, bOr, eAnd, eOr, eNot, eIf, eCh, truth, eMs, eMl, dSub, dMul, dFdiv, dMod, dLe, dGe, dGt, D.isNon, dSl, dLen, dInt, dOrd_one, dMax2, dMin2, dTuple, dList, dListC, dApp, dNeg, vw, seq, lstOf, fnD, List.map_cons, List.map_nil, List.length_cons, List.length_nil, List.cons_append, List.nil_append, List.append_nil, List.replicate_succ, List.replicate_zero, List.getElem?_cons_zero, List.getElem?_cons_succ, List.set_cons_zero, List.set_cons_succ, Int.cast_ofNat_Int, Nat.reduceBEq, Int.reduceBEq, Nat.reduceAdd, Nat.reduceSub, Nat.reduceLT, Nat.reduceLeDiff, Nat.zero_add, Nat.add_zero, Nat.sub_zero, Nat.sub_self, ↓reduceIte, if_true, if_false, Bool.not_true, Bool.not_false, Bool.false_eq_true, Bool.true_eq_false, decide_true, decide_false, decide_not, true_and, and_true, and_self, true_or, or_true, not_true_eq_false, not_false_eq_true, ne_eq, reduceCtorEq, Int.reduceLT, Int.reduceLE, Int.reduceNeg, Int.reduceSub, Int.reduceAdd, Int.reduceMul, Int.reducePow, Int.reduceToNat, sz, D.dat, D.datL, D.dep, D.depL, szl, inb, List.any_cons, List.any_nil, Bool.true_and, Bool.false_and, Bool.and_true, Bool.and_false, Bool.or_false, Bool.false_or, Bool.true_or, Bool.or_true, Nat.max_self, Nat.max_zero, Nat.zero_max, Nat.min_self, Nat.zero_le, Nat.min_zero, Nat.zero_min, iR1, iR2, rng1, rng2, iE, itOf, sFor, bYes, Option.isNone_some, Option.isSome_some, Option.isNone_none, Option.isSome_none, Option.some.injEq, dEq_int, dNe_int, dEq_II, dEq_OO, dEq_OI, dEq_IO, dEq_PP, dNe_PP, dIs_O, dIsnt_O, dIs_I, dIsnt_I, dIs_non, dIsnt_non, dIn_IT, dIn_IL, dIdx_tup, dIdx_lst, dIdx_scr, dAdd_int, atI0, atI1, atI2, atI3, atI4, atI5, vw_last, get_last, set_last, app_last, i1, i2, dLt_II] <;> rfl)
  · unfold ascB; rw [e]; exact ⟨rfl, rfl⟩
  · exact Good.rt (by (simp only [sSeq, sIf, sB, sE, sAsg, sRet, sRetN, sNil, sExpr, sBrk, sCnt, gN, gT, gsC, gsN, FK.e1, FK.e2, eC, eVar, eCall, aNil, aCons, M.bind, M.pure, eTup, eLst, eNew, eSl, oNone, oSome, bT, bNot, bAnd, bOr, eAnd, eOr, eNot, eIf, eCh, truth, eMs, eMl, dSub, dMul, dFdiv, dMod, dLe, dLt, dGe, dGt, D.isNon, dSl, dLen, dInt, dOrd_one, dMax2, dMin2, dTuple, dList, dListC, dApp, dNeg, vw, seq, lstOf, fnD, List.map_cons, List.map_nil, List.length_cons, List.length_nil, List.cons_append, List.nil_append, List.append_nil, List.replicate_succ, List.replicate_zero, List.getElem?_cons_zero, List.getElem?_cons_succ, List.set_cons_zero, List.set_cons_succ, Int.cast_ofNat_Int, Nat.reduceBEq, Int.reduceBEq, Nat.reduceAdd, Nat.reduceSub, Nat.reduceLT, Nat.reduceLeDiff, Nat.zero_add, Nat.add_zero, Nat.sub_zero, Nat.sub_self, ↓reduceIte, if_true, if_false, Bool.not_true, Bool.not_false, Bool.false_eq_true, Bool.true_eq_false, decide_true, decide_false, decide_not, true_and, and_true, and_self, true_or, or_true, not_true_eq_false, not_false_eq_true, ne_eq, reduceCtorEq, Int.reduceLT, Int.reduceLE, Int.reduceNeg, Int.reduceSub, Int.reduceAdd, Int.reduceMul, Int.reducePow, Int.reduceToNat, sz, D.dat, D.datL, D.dep, D.depL, szl, inb, List.any_cons, List.any_nil, Bool.true_and, Bool.false_and, Bool.and_true, Bool.and_false, Bool.or_false, Bool.false_or, Bool.true_or, Bool.or_true, Nat.max_self, Nat.max_zero, Nat.zero_max, Nat.min_self, Nat.zero_le, Nat.min_zero, Nat.zero_min, iR1, iR2, rng1, rng2, iE, itOf, sFor, bYes, Option.isNone_some, Option.isSome_some, Option.isNone_none, Option.isSome_none, Option.some.injEq, dEq_int, dNe_int, dEq_II, dEq_OO, dEq_OI, dEq_IO, dEq_PP, dNe_PP, dIs_O, dIsnt_O, dIs_I, dIsnt_I, dIs_non, dIsnt_non, dIn_IT, dIn_IL, dIdx_tup, dIdx_lst, dIdx_scr, dAdd_int, atI0, atI1, atI2, atI3, atI4, atI5, vw_last, get_last, set_last, app_last] <;> rfl)) (by unfold ascB; rw [e]; exact ⟨rfl, rfl⟩)
def rtd (ls : List Ln) : Nat → Option Id → Bool
  | 0, _ => false
  | n + 1, none => true
  | n + 1, some i => match ffold ls (some i) with
    | none => false
    | some f => rtd ls n f.ins
def rtSt (ls : List Ln) (s : Option Id) (_ : Nat) : Stp (Option Id) := match s with
  | none => .ret (.bl true)
  | some i => match ffold ls (some i) with
    | none => .ret (.bl false)
    | some f => .go f.ins
theorem run_rt (ls : List Ln) : ∀ (ks : List Nat) (s : Option Id), (∀ d s', runX (rtSt ls) ks s = .inl (d, s') → d = .bl (rtd ls ks.length s)) ∧ (∀ s', runX (rtSt ls) ks s = .inr s' → rtd ls ks.length s = false)
  | [], s => ⟨fun d s' e => (nomatch e), fun s' _ => rfl⟩
  | k :: ks, none => ⟨fun d s' e => (by cases e; rfl), fun s' e => (nomatch e)⟩
  | k :: ks, some i => by
    unfold runX rtSt
    rw [List.length_cons]
    unfold rtd
    dsimp only
    cases ffold ls (some i) with
    | none => exact ⟨fun d s' e => (by cases e; rfl), fun s' e => (nomatch e)⟩
    | some f => exact run_rt ls ks f.ins
theorem rooted_ok (ls : List Ln) (o : Option Id) (hl : ls.length ≤ 1000000) (h : CH) : callP 2 d_is_rooted [.lst (ls.map encL), encO o] h = .ok (.bl (rtd ls (ls.length + 1) o)) h := by
  refine callP_ok (d := .bl (rtd ls (ls.length + 1) o)) (h' := []) (nrLP ls (flat_O o)) (Good.fnE (ρ := [some (.lst (ls.map encL)), some (encO o), none, none]) ?_) (fz_nr rfl)
  unfold b_is_rooted
  have hr : inR ((ls.length : Int) + 1) := ⟨by omega, by omega⟩
  obtain ⟨q1, q2⟩ := run_rt ls (List.range (ls.length + 1)) o
  rw [List.length_range] at q1 q2
  refine Good.seq (Good.run (en := fun k : Nat => D.int (k : Int)) (xs := List.range (ls.length + 1)) (rtSt ls) (hh := fun _ => []) (o := none) (fun s ρ => ∃ y z, ρ = [some (.lst (ls.map encL)), some (encO s), y, z]) o ?_ (fun _ => trivial) ⟨none, none, rfl⟩ ?_ (fun d s' e => ⟨q1 d s' e, rfl⟩) ?_)
  · rw [← rangeD_nat]
    (simp only [sSeq, sIf, sB, sE, sAsg, sRet, sRetN, sNil, sExpr, sBrk, sCnt, gN, gT, gsC, gsN, FK.e1, FK.e2, eC, eVar, eCall, aNil, aCons, M.bind, M.pure, eTup, eLst, eNew, eSl, oNone, oSome, bT, bNot, bAnd, bOr, eAnd, eOr, eNot, eIf, eCh, truth, eMs, eMl, dSub, dMul, dFdiv, dMod, dLe, dLt, dGe, dGt, D.isNon, dSl, dLen, dInt, dOrd_one, dMax2, dMin2, dTuple, dList, dListC, dApp, dNeg, vw, seq, lstOf, fnD, List.map_cons, List.map_nil, List.length_cons, List.length_nil, List.cons_append, List.nil_append, List.append_nil, List.replicate_succ, List.replicate_zero, List.getElem?_cons_zero, List.getElem?_cons_succ, List.set_cons_zero, List.set_cons_succ, Int.cast_ofNat_Int, Nat.reduceBEq, Int.reduceBEq, Nat.reduceAdd, Nat.reduceSub, Nat.reduceLT, Nat.reduceLeDiff, Nat.zero_add, Nat.add_zero, Nat.sub_zero, Nat.sub_self, ↓reduceIte, if_true, if_false, Bool.not_true, Bool.not_false, Bool.false_eq_true, Bool.true_eq_false, decide_true, decide_false, decide_not, true_and, and_true, and_self, true_or, or_true, not_true_eq_false, not_false_eq_true, ne_eq, reduceCtorEq, Int.reduceLT, Int.reduceLE, Int.reduceNeg, Int.reduceSub, Int.reduceAdd, Int.reduceMul, Int.reducePow, Int.reduceToNat, sz, D.dat, D.datL, D.dep, D.depL, szl, inb, List.any_cons, List.any_nil, Bool.true_and, Bool.false_and, Bool.and_true, Bool.and_false, Bool.or_false, Bool.false_or, Bool.true_or, Bool.or_true, Nat.max_self, Nat.max_zero, Nat.zero_max, Nat.min_self, Nat.zero_le, Nat.min_zero, Nat.zero_min, iR1, iR2, rng1, rng2, iE, itOf, sFor, bYes, Option.isNone_some, Option.isSome_some, Option.isNone_none, Option.isSome_none, Option.some.injEq, dEq_int, dNe_int, dEq_II, dEq_OO, dEq_OI, dEq_IO, dEq_PP, dNe_PP, dIs_O, dIsnt_O, dIs_I, dIsnt_I, dIs_non, dIsnt_non, dIn_IT, dIn_IL, dIdx_tup, dIdx_lst, dIdx_scr, dAdd_int, atI0, atI1, atI2, atI3, atI4, atI5, vw_last, get_last, set_last, app_last, List.length_map, if_pos hr] <;> rfl)
  · rintro k hk s ρ ⟨y, z, rfl⟩
    refine ⟨_, rfl, ?_⟩
    unfold rtSt
    cases s with
    | none => exact ⟨_, by (simp only [sSeq, sIf, sB, sE, sAsg, sRet, sRetN, sNil, sExpr, sBrk, sCnt, gN, gT, gsC, gsN, FK.e1, FK.e2, eC, eVar, eCall, aNil, aCons, M.bind, M.pure, eTup, eLst, eNew, eSl, oNone, oSome, bT, bNot, bAnd, bOr, eAnd, eOr, eNot, eIf, eCh, truth, eMs, eMl, dSub, dMul, dFdiv, dMod, dLe, dLt, dGe, dGt, D.isNon, dSl, dLen, dInt, dOrd_one, dMax2, dMin2, dTuple, dList, dListC, dApp, dNeg, vw, seq, lstOf, fnD, List.map_cons, List.map_nil, List.length_cons, List.length_nil, List.cons_append, List.nil_append, List.append_nil, List.replicate_succ, List.replicate_zero, List.getElem?_cons_zero, List.getElem?_cons_succ, List.set_cons_zero, List.set_cons_succ, Int.cast_ofNat_Int, Nat.reduceBEq, Int.reduceBEq, Nat.reduceAdd, Nat.reduceSub, Nat.reduceLT, Nat.reduceLeDiff, Nat.zero_add, Nat.add_zero, Nat.sub_zero, Nat.sub_self, ↓reduceIte, if_true, if_false, Bool.not_true, Bool.not_false, Bool.false_eq_true, Bool.true_eq_false, decide_true, decide_false, decide_not, true_and, and_true, and_self, true_or, or_true, not_true_eq_false, not_false_eq_true, ne_eq, reduceCtorEq, Int.reduceLT, Int.reduceLE, Int.reduceNeg, Int.reduceSub, Int.reduceAdd, Int.reduceMul, Int.reducePow, Int.reduceToNat, sz, D.dat, D.datL, D.dep, D.depL, szl, inb, List.any_cons, List.any_nil, Bool.true_and, Bool.false_and, Bool.and_true, Bool.and_false, Bool.or_false, Bool.false_or, Bool.true_or, Bool.or_true, Nat.max_self, Nat.max_zero, Nat.zero_max, Nat.min_self, Nat.zero_le, Nat.min_zero, Nat.zero_min, iR1, iR2, rng1, rng2, iE, itOf, sFor, bYes, Option.isNone_some, Option.isSome_some, Option.isNone_none, Option.isSome_none, Option.some.injEq, dEq_int, dNe_int, dEq_II, dEq_OO, dEq_OI, dEq_IO, dEq_PP, dNe_PP, dIs_O, dIsnt_O, dIs_I, dIsnt_I, dIs_non, dIsnt_non, dIn_IT, dIn_IL, dIdx_tup, dIdx_lst, dIdx_scr, dAdd_int, atI0, atI1, atI2, atI3, atI4, atI5, vw_last, get_last, set_last, app_last] <;> rfl)⟩
    | some i =>
      dsimp only
      have ff := find_folder_ok ls (some i) []
      cases e : ffold ls (some i) with
      | none => rw [e] at ff; exact ⟨_, by (simp only [sSeq, sIf, sB, sE, sAsg, sRet, sRetN, sNil, sExpr, sBrk, sCnt, gN, gT, gsC, gsN, FK.e1, FK.e2, eC, eVar, eCall, aNil, aCons, M.bind, M.pure, eTup, eLst, eNew, eSl, oNone, oSome, bT, bNot, bAnd, bOr, eAnd, eOr, eNot, eIf, eCh, truth, eMs, eMl, dSub, dMul, dFdiv, dMod, dLe, dLt, dGe, dGt, D.isNon, dSl, dLen, dInt, dOrd_one, dMax2, dMin2, dTuple, dList, dListC, dApp, dNeg, vw, seq, lstOf, fnD, List.map_cons, List.map_nil, List.length_cons, List.length_nil, List.cons_append, List.nil_append, List.append_nil, List.replicate_succ, List.replicate_zero, List.getElem?_cons_zero, List.getElem?_cons_succ, List.set_cons_zero, List.set_cons_succ, Int.cast_ofNat_Int, Nat.reduceBEq, Int.reduceBEq, Nat.reduceAdd, Nat.reduceSub, Nat.reduceLT, Nat.reduceLeDiff, Nat.zero_add, Nat.add_zero, Nat.sub_zero, Nat.sub_self, ↓reduceIte, if_true, if_false, Bool.not_true, Bool.not_false, Bool.false_eq_true, Bool.true_eq_false, decide_true, decide_false, decide_not, true_and, and_true, and_self, true_or, or_true, not_true_eq_false, not_false_eq_true, ne_eq, reduceCtorEq, Int.reduceLT, Int.reduceLE, Int.reduceNeg, Int.reduceSub, Int.reduceAdd, Int.reduceMul, Int.reducePow, Int.reduceToNat, sz, D.dat, D.datL, D.dep, D.depL, szl, inb, List.any_cons, List.any_nil, Bool.true_and, Bool.false_and, Bool.and_true, Bool.and_false, Bool.or_false, Bool.false_or, Bool.true_or, Bool.or_true, Nat.max_self, Nat.max_zero, Nat.zero_max, Nat.min_self, Nat.zero_le, Nat.min_zero, Nat.zero_min, iR1, iR2, rng1, rng2, iE, itOf, sFor, bYes, Option.isNone_some, Option.isSome_some, Option.isNone_none, Option.isSome_none, Option.some.injEq, dEq_int, dNe_int, dEq_II, dEq_OO, dEq_OI, dEq_IO, dEq_PP, dNe_PP, dIs_O, dIsnt_O, dIs_I, dIsnt_I, dIs_non, dIsnt_non, dIn_IT, dIn_IL, dIdx_tup, dIdx_lst, dIdx_scr, dAdd_int, atI0, atI1, atI2, atI3, atI4, atI5, vw_last, get_last, set_last, app_last, ff, encOL_none] <;> rfl)⟩
      | some f => rw [e] at ff; exact ⟨_, .inl (by (simp only [sSeq, sIf, sB, sE, sAsg, sRet, sRetN, sNil, sExpr, sBrk, sCnt, gN, gT, gsC, gsN, FK.e1, FK.e2, eC, eVar, eCall, aNil, aCons, M.bind, M.pure, eTup, eLst, eNew, eSl, oNone, oSome, bT, bNot, bAnd, bOr, eAnd, eOr, eNot, eIf, eCh, truth, eMs, eMl, dSub, dMul, dFdiv, dMod, dLe, dLt, dGe, dGt, D.isNon, dSl, dLen, dInt, dOrd_one, dMax2, dMin2, dTuple, dList, dListC, dApp, dNeg, vw, seq, lstOf, fnD, List.map_cons, List.map_nil, List.length_cons, List.length_nil, List.cons_append, List.nil_append, List.append_nil, List.replicate_succ, List.replicate_zero, List.getElem?_cons_zero, List.getElem?_cons_succ, List.set_cons_zero, List.set_cons_succ, Int.cast_ofNat_Int, Nat.reduceBEq, Int.reduceBEq, Nat.reduceAdd, Nat.reduceSub, Nat.reduceLT, Nat.reduceLeDiff, Nat.zero_add, Nat.add_zero, Nat.sub_zero, Nat.sub_self, ↓reduceIte, if_true, if_false, Bool.not_true, Bool.not_false, Bool.false_eq_true, Bool.true_eq_false, decide_true, decide_false, decide_not, true_and, and_true, and_self, true_or, or_true, not_true_eq_false, not_false_eq_true, ne_eq, reduceCtorEq, Int.reduceLT, Int.reduceLE, Int.reduceNeg, Int.reduceSub, Int.reduceAdd, Int.reduceMul, Int.reducePow, Int.reduceToNat, sz, D.dat, D.datL, D.dep, D.depL, szl, inb, List.any_cons, List.any_nil, Bool.true_and, Bool.false_and, Bool.and_true, Bool.and_false, Bool.or_false, Bool.false_or, Bool.true_or, Bool.or_true, Nat.max_self, Nat.max_zero, Nat.zero_max, Nat.min_self, Nat.zero_le, Nat.min_zero, Nat.zero_min, iR1, iR2, rng1, rng2, iE, itOf, sFor, bYes, Option.isNone_some, Option.isSome_some, Option.isNone_none, Option.isSome_none, Option.some.injEq, dEq_int, dNe_int, dEq_II, dEq_OO, dEq_OI, dEq_IO, dEq_PP, dNe_PP, dIs_O, dIsnt_O, dIs_I, dIsnt_I, dIs_non, dIsnt_non, dIn_IT, dIn_IL, dIdx_tup, dIdx_lst, dIdx_scr, dAdd_int, atI0, atI1, atI2, atI3, atI4, atI5, vw_last, get_last, set_last, app_last, ff, encOL_some, dIs_L, ix2] <;> rfl)), _, _, rfl⟩
  · rintro s' ρ' e ⟨y, z, rfl⟩
    exact Good.rt (by (simp only [sSeq, sIf, sB, sE, sAsg, sRet, sRetN, sNil, sExpr, sBrk, sCnt, gN, gT, gsC, gsN, FK.e1, FK.e2, eC, eVar, eCall, aNil, aCons, M.bind, M.pure, eTup, eLst, eNew, eSl, oNone, oSome, bT, bNot, bAnd, bOr, eAnd, eOr, eNot, eIf, eCh, truth, eMs, eMl, dSub, dMul, dFdiv, dMod, dLe, dLt, dGe, dGt, D.isNon, dSl, dLen, dInt, dOrd_one, dMax2, dMin2, dTuple, dList, dListC, dApp, dNeg, vw, seq, lstOf, fnD, List.map_cons, List.map_nil, List.length_cons, List.length_nil, List.cons_append, List.nil_append, List.append_nil, List.replicate_succ, List.replicate_zero, List.getElem?_cons_zero, List.getElem?_cons_succ, List.set_cons_zero, List.set_cons_succ, Int.cast_ofNat_Int, Nat.reduceBEq, Int.reduceBEq, Nat.reduceAdd, Nat.reduceSub, Nat.reduceLT, Nat.reduceLeDiff, Nat.zero_add, Nat.add_zero, Nat.sub_zero, Nat.sub_self, ↓reduceIte, if_true, if_false, Bool.not_true, Bool.not_false, Bool.false_eq_true, Bool.true_eq_false, decide_true, decide_false, decide_not, true_and, and_true, and_self, true_or, or_true, not_true_eq_false, not_false_eq_true, ne_eq, reduceCtorEq, Int.reduceLT, Int.reduceLE, Int.reduceNeg, Int.reduceSub, Int.reduceAdd, Int.reduceMul, Int.reducePow, Int.reduceToNat, sz, D.dat, D.datL, D.dep, D.depL, szl, inb, List.any_cons, List.any_nil, Bool.true_and, Bool.false_and, Bool.and_true, Bool.and_false, Bool.or_false, Bool.false_or, Bool.true_or, Bool.or_true, Nat.max_self, Nat.max_zero, Nat.zero_max, Nat.min_self, Nat.zero_le, Nat.min_zero, Nat.zero_min, iR1, iR2, rng1, rng2, iE, itOf, sFor, bYes, Option.isNone_some, Option.isSome_some, Option.isNone_none, Option.isSome_none, Option.some.injEq, dEq_int, dNe_int, dEq_II, dEq_OO, dEq_OI, dEq_IO, dEq_PP, dNe_PP, dIs_O, dIsnt_O, dIs_I, dIsnt_I, dIs_non, dIsnt_non, dIn_IT, dIn_IL, dIdx_tup, dIdx_lst, dIdx_scr, dAdd_int, atI0, atI1, atI2, atI3, atI4, atI5, vw_last, get_last, set_last, app_last] <;> rfl)) ⟨by rw [q2 s' e], rfl⟩
def okLn (ls : List Ln) (l : Ln) : Bool := (!decide (l.below.length = 0) && rtd ls (ls.length + 1) l.ins) && !(l.ct.isNone && !decide (l.head = l.id))
def soundB (ls : List Ln) : Bool := ascB (ls.map Ln.id) && (decide (ls.map Ln.head).Nodup && ls.all (okLn ls))
theorem keys_I : ∀ is : List Id, keysD (is.map encI) = some (is.map fun i => [i.1, i.2])
  | [] => rfl
  | i :: is => by
    show (match some [i.1, i.2], keysD (is.map encI) with | some k, some ks => some (k :: ks) | _, _ => none) = _
    rw [keys_I is]
    rfl
theorem lenSet_ok (is : List Id) (hl : is.length < 64) (h : CH) : ∃ n : Nat, dLenSet (.lst (is.map encI)) h = .ok (.int n) h ∧ (n = is.length ↔ is.Nodup) := by
  refine ⟨cardL (is.map fun i => [i.1, i.2]), ?_, ?_⟩
  · show (match keysD (is.map encI) with | some ks => if ks.length < 64 then R.ok (D.int (cardL ks)) h else .bad | none => .bad) = _
    rw [keys_I]
    dsimp only
    rw [if_pos (by rw [List.length_map]; exact hl)]
  · rw [show is.length = (is.map fun i : Id => [i.1, i.2]).length by rw [List.length_map], card_nodup]
    constructor
    · exact fun z => List.Pairwise.of_map _ (fun a b h e => h (by rw [e])) z
    · intro z
      refine List.Pairwise.map _ (fun a b hab e => hab ?_) z
      have e1 := List.cons.inj e
      have e2 := List.cons.inj e1.2
      exact Prod.ext e1.1 e2.1
theorem dNe_II (a b : Id) (h : CH) : dNe (encI a) (encI b) h = .ok (.bl (!decide (a = b))) h := by
  unfold dNe
  rw [vw_I, vw_I, if_pos ⟨rfl, rfl, by rw [dep_I, dep_I]; decide⟩, eqb_II]
theorem lines_sound_ok (ls : List Ln) (hl : ls.length < 64) (h : CH) : callP 1 d_lines_sound [.lst (ls.map encL)] h = .ok (.bl (soundB ls)) h := by
  refine callP_ok (d := .bl (soundB ls)) (h' := []) (by show (D.nrL (ls.map encL) && true) = true; rw [nrL_L]; rfl) (Good.fnE (ρ := [some (.lst (ls.map encL)), none, none, none, none, none, none, none]) ?_) (fz_nr rfl)
  unfold b_lines_sound
  have li := eLc_fm (en := encL) (fun _ => true) (fun l => encI l.id) (it := iE (eVar 0)) (g := gN 7) (b := bYes) (f := (FK.e2 dIdx (eVar 7) (eC (.int 0)))) (vs := [7]) (ρ := [some (.lst (ls.map encL)), none, none, none, none, none, none, none]) (h := []) (o := none) (xs := ls) rfl trivial (by omega) (fun l hm => ⟨_, wipe_gN, rfl, fun _ => by (simp only [sSeq, sIf, sB, sE, sAsg, sRet, sRetN, sNil, sExpr, sBrk, sCnt, gN, gT, gsC, gsN, FK.e1, FK.e2, eC, eVar, eCall, aNil, aCons, M.bind, M.pure, eTup, eLst, eNew, eSl, oNone, oSome, bT, bNot, bAnd, bOr, eAnd, eOr, eNot, eIf, eCh, truth, eMs, eMl, dSub, dMul, dFdiv, dMod, dLe, dLt, dGe, dGt, D.isNon, dSl, dLen, dInt, dOrd_one, dMax2, dMin2, dTuple, dList, dListC, dApp, dNeg, vw, seq, lstOf, fnD, List.map_cons, List.map_nil, List.length_cons, List.length_nil, List.cons_append, List.nil_append, List.append_nil, List.replicate_succ, List.replicate_zero, List.getElem?_cons_zero, List.getElem?_cons_succ, List.set_cons_zero, List.set_cons_succ, Int.cast_ofNat_Int, Nat.reduceBEq, Int.reduceBEq, Nat.reduceAdd, Nat.reduceSub, Nat.reduceLT, Nat.reduceLeDiff, Nat.zero_add, Nat.add_zero, Nat.sub_zero, Nat.sub_self, ↓reduceIte, if_true, if_false, Bool.not_true, Bool.not_false, Bool.false_eq_true, Bool.true_eq_false, decide_true, decide_false, decide_not, true_and, and_true, and_self, true_or, or_true, not_true_eq_false, not_false_eq_true, ne_eq, reduceCtorEq, Int.reduceLT, Int.reduceLE, Int.reduceNeg, Int.reduceSub, Int.reduceAdd, Int.reduceMul, Int.reducePow, Int.reduceToNat, sz, D.dat, D.datL, D.dep, D.depL, szl, inb, List.any_cons, List.any_nil, Bool.true_and, Bool.false_and, Bool.and_true, Bool.and_false, Bool.or_false, Bool.false_or, Bool.true_or, Bool.or_true, Nat.max_self, Nat.max_zero, Nat.zero_max, Nat.min_self, Nat.zero_le, Nat.min_zero, Nat.zero_min, iR1, iR2, rng1, rng2, iE, itOf, sFor, bYes, Option.isNone_some, Option.isSome_some, Option.isNone_none, Option.isSome_none, Option.some.injEq, dEq_int, dNe_int, dEq_II, dEq_OO, dEq_OI, dEq_IO, dEq_PP, dNe_PP, dIs_O, dIsnt_O, dIs_I, dIsnt_I, dIs_non, dIsnt_non, dIn_IT, dIn_IL, dIdx_tup, dIdx_lst, dIdx_scr, dAdd_int, atI0, atI1, atI2, atI3, atI4, atI5, vw_last, get_last, set_last, app_last, ix0] <;> rfl)⟩)
  rw [List.filter_eq_self.mpr (by simp), show (fun l : Ln => encI l.id) = encI ∘ Ln.id from rfl, ← List.map_map] at li
  have lh := eLc_fm (en := encL) (fun _ => true) (fun l => encI l.head) (it := iE (eVar 0)) (g := gN 7) (b := bYes) (f := (FK.e2 dIdx (eVar 7) (eC (.int 1)))) (vs := [7]) (ρ := [some (.lst (ls.map encL)), none, none, none, none, none, none, none]) (h := []) (o := none) (xs := ls) rfl trivial (by omega) (fun l hm => ⟨_, wipe_gN, rfl, fun _ => by (simp only [sSeq, sIf, sB, sE, sAsg, sRet, sRetN, sNil, sExpr, sBrk, sCnt, gN, gT, gsC, gsN, FK.e1, FK.e2, eC, eVar, eCall, aNil, aCons, M.bind, M.pure, eTup, eLst, eNew, eSl, oNone, oSome, bT, bNot, bAnd, bOr, eAnd, eOr, eNot, eIf, eCh, truth, eMs, eMl, dSub, dMul, dFdiv, dMod, dLe, dLt, dGe, dGt, D.isNon, dSl, dLen, dInt, dOrd_one, dMax2, dMin2, dTuple, dList, dListC, dApp, dNeg, vw, seq, lstOf, fnD, List.map_cons, List.map_nil, List.length_cons, List.length_nil, List.cons_append, List.nil_append, List.append_nil, List.replicate_succ, List.replicate_zero, List.getElem?_cons_zero, List.getElem?_cons_succ, List.set_cons_zero, List.set_cons_succ, Int.cast_ofNat_Int, Nat.reduceBEq, Int.reduceBEq, Nat.reduceAdd, Nat.reduceSub, Nat.reduceLT, Nat.reduceLeDiff, Nat.zero_add, Nat.add_zero, Nat.sub_zero, Nat.sub_self, ↓reduceIte, if_true, if_false, Bool.not_true, Bool.not_false, Bool.false_eq_true, Bool.true_eq_false, decide_true, decide_false, decide_not, true_and, and_true, and_self, true_or, or_true, not_true_eq_false, not_false_eq_true, ne_eq, reduceCtorEq, Int.reduceLT, Int.reduceLE, Int.reduceNeg, Int.reduceSub, Int.reduceAdd, Int.reduceMul, Int.reducePow, Int.reduceToNat, sz, D.dat, D.datL, D.dep, D.depL, szl, inb, List.any_cons, List.any_nil, Bool.true_and, Bool.false_and, Bool.and_true, Bool.and_false, Bool.or_false, Bool.false_or, Bool.true_or, Bool.or_true, Nat.max_self, Nat.max_zero, Nat.zero_max, Nat.min_self, Nat.zero_le, Nat.min_zero, Nat.zero_min, iR1, iR2, rng1, rng2, iE, itOf, sFor, bYes, Option.isNone_some, Option.isSome_some, Option.isNone_none, Option.isSome_none, Option.some.injEq, dEq_int, dNe_int, dEq_II, dEq_OO, dEq_OI, dEq_IO, dEq_PP, dNe_PP, dIs_O, dIsnt_O, dIs_I, dIsnt_I, dIs_non, dIsnt_non, dIn_IT, dIn_IL, dIdx_tup, dIdx_lst, dIdx_scr, dAdd_int, atI0, atI1, atI2, atI3, atI4, atI5, vw_last, get_last, set_last, app_last, ix1] <;> rfl)⟩)
  rw [List.filter_eq_self.mpr (by simp), show (fun l : Ln => encI l.head) = encI ∘ Ln.head from rfl, ← List.map_map] at lh
  have as := ascending_ok (ls.map Ln.id) (by rw [List.length_map]; omega) []
  obtain ⟨n, ns, hn⟩ := lenSet_ok (ls.map Ln.head) (by rw [List.length_map]; omega) []
  unfold soundB
  cases hA : ascB (ls.map Ln.id) with
  | false => rw [hA] at as; exact Good.seq (Good.rt (by (simp only [sSeq, sIf, sB, sE, sAsg, sRet, sRetN, sNil, sExpr, sBrk, sCnt, gN, gT, gsC, gsN, FK.e1, FK.e2, eC, eVar, eCall, aNil, aCons, M.bind, M.pure, eTup, eLst, eNew, eSl, oNone, oSome, bT, bNot, bAnd, bOr, eAnd, eOr, eNot, eIf, eCh, truth, eMs, eMl, dSub, dMul, dFdiv, dMod, dLe, dLt, dGe, dGt, D.isNon, dSl, dLen, dInt, dOrd_one, dMax2, dMin2, dTuple, dList, dListC, dApp, dNeg, vw, seq, lstOf, fnD, List.map_cons, List.map_nil, List.length_cons, List.length_nil, List.cons_append, List.nil_append, List.append_nil, List.replicate_succ, List.replicate_zero, List.getElem?_cons_zero, List.getElem?_cons_succ, List.set_cons_zero, List.set_cons_succ, Int.cast_ofNat_Int, Nat.reduceBEq, Int.reduceBEq, Nat.reduceAdd, Nat.reduceSub, Nat.reduceLT, Nat.reduceLeDiff, Nat.zero_add, Nat.add_zero, Nat.sub_zero, Nat.sub_self, ↓reduceIte, if_true, if_false, Bool.not_true, Bool.not_false, Bool.false_eq_true, Bool.true_eq_false, decide_true, decide_false, decide_not, true_and, and_true, and_self, true_or, or_true, not_true_eq_false, not_false_eq_true, ne_eq, reduceCtorEq, Int.reduceLT, Int.reduceLE, Int.reduceNeg, Int.reduceSub, Int.reduceAdd, Int.reduceMul, Int.reducePow, Int.reduceToNat, sz, D.dat, D.datL, D.dep, D.depL, szl, inb, List.any_cons, List.any_nil, Bool.true_and, Bool.false_and, Bool.and_true, Bool.and_false, Bool.or_false, Bool.false_or, Bool.true_or, Bool.or_true, Nat.max_self, Nat.max_zero, Nat.zero_max, Nat.min_self, Nat.zero_le, Nat.min_zero, Nat.zero_min, iR1, iR2, rng1, rng2, iE, itOf, sFor, bYes, Option.isNone_some, Option.isSome_some, Option.isNone_none, Option.isSome_none, Option.some.injEq, dEq_int, dNe_int, dEq_II, dEq_OO, dEq_OI, dEq_IO, dEq_PP, dNe_PP, dIs_O, dIsnt_O, dIs_I, dIsnt_I, dIs_non, dIsnt_non, dIn_IT, dIn_IL, dIdx_tup, dIdx_lst, dIdx_scr, dAdd_int, atI0, atI1, atI2, atI3, atI4, atI5, vw_last, get_last, set_last, app_last, li, as] <;> rfl)) ⟨rfl, rfl⟩)
  | true =>
    rw [hA] at as
    refine Good.seq (Good.nx (ρ := [some (.lst (ls.map encL)), none, none, none, none, none, none, none]) (h := []) (by (simp only [sSeq, sIf, sB, sE, sAsg, sRet, sRetN, sNil, sExpr, sBrk, sCnt, gN, gT, gsC, gsN, FK.e1, FK.e2, eC, eVar, eCall, aNil, aCons, M.bind, M.pure, eTup, eLst, eNew, eSl, oNone, oSome, bT, bNot, bAnd, bOr, eAnd, eOr, eNot, eIf, eCh, truth, eMs, eMl, dSub, dMul, dFdiv, dMod, dLe, dLt, dGe, dGt, D.isNon, dSl, dLen, dInt, dOrd_one, dMax2, dMin2, dTuple, dList, dListC, dApp, dNeg, vw, seq, lstOf, fnD, List.map_cons, List.map_nil, List.length_cons, List.length_nil, List.cons_append, List.nil_append, List.append_nil, List.replicate_succ, List.replicate_zero, List.getElem?_cons_zero, List.getElem?_cons_succ, List.set_cons_zero, List.set_cons_succ, Int.cast_ofNat_Int, Nat.reduceBEq, Int.reduceBEq, Nat.reduceAdd, Nat.reduceSub, Nat.reduceLT, Nat.reduceLeDiff, Nat.zero_add, Nat.add_zero, Nat.sub_zero, Nat.sub_self, ↓reduceIte, if_true, if_false, Bool.not_true, Bool.not_false, Bool.false_eq_true, Bool.true_eq_false, decide_true, decide_false, decide_not, true_and, and_true, and_self, true_or, or_true, not_true_eq_false, not_false_eq_true, ne_eq, reduceCtorEq, Int.reduceLT, Int.reduceLE, Int.reduceNeg, Int.reduceSub, Int.reduceAdd, Int.reduceMul, Int.reducePow, Int.reduceToNat, sz, D.dat, D.datL, D.dep, D.depL, szl, inb, List.any_cons, List.any_nil, Bool.true_and, Bool.false_and, Bool.and_true, Bool.and_false, Bool.or_false, Bool.false_or, Bool.true_or, Bool.or_true, Nat.max_self, Nat.max_zero, Nat.zero_max, Nat.min_self, Nat.zero_le, Nat.min_zero, Nat.zero_min, iR1, iR2, rng1, rng2, iE, itOf, sFor, bYes, Option.isNone_some, Option.isSome_some, Option.isNone_none, Option.isSome_none, Option.some.injEq, dEq_int, dNe_int, dEq_II, dEq_OO, dEq_OI, dEq_IO, dEq_PP, dNe_PP, dIs_O, dIsnt_O, dIs_I, dIsnt_I, dIs_non, dIsnt_non, dIn_IT, dIn_IL, dIdx_tup, dIdx_lst, dIdx_scr, dAdd_int, atI0, atI1, atI2, atI3, atI4, atI5, vw_last, get_last, set_last, app_last, li, as] <;> rfl)) ?_)
    refine Good.seq (Good.nx (ρ := [some (.lst (ls.map encL)), some (.lst ((ls.map Ln.head).map encI)), none, none, none, none, none, none]) (h := []) (by (simp only [sSeq, sIf, sB, sE, sAsg, sRet, sRetN, sNil, sExpr, sBrk, sCnt, gN, gT, gsC, gsN, FK.e1, FK.e2, eC, eVar, eCall, aNil, aCons, M.bind, M.pure, eTup, eLst, eNew, eSl, oNone, oSome, bT, bNot, bAnd, bOr, eAnd, eOr, eNot, eIf, eCh, truth, eMs, eMl, dSub, dMul, dFdiv, dMod, dLe, dLt, dGe, dGt, D.isNon, dSl, dLen, dInt, dOrd_one, dMax2, dMin2, dTuple, dList, dListC, dApp, dNeg, vw, seq, lstOf, fnD, List.map_cons, List.map_nil, List.length_cons, List.length_nil, List.cons_append, List.nil_append, List.append_nil, List.replicate_succ, List.replicate_zero, List.getElem?_cons_zero, List.getElem?_cons_succ, List.set_cons_zero, List.set_cons_succ, Int.cast_ofNat_Int, Nat.reduceBEq, Int.reduceBEq, Nat.reduceAdd, Nat.reduceSub, Nat.reduceLT, Nat.reduceLeDiff, Nat.zero_add, Nat.add_zero, Nat.sub_zero, Nat.sub_self, ↓reduceIte, if_true, if_false, Bool.not_true, Bool.not_false, Bool.false_eq_true, Bool.true_eq_false, decide_true, decide_false, decide_not, true_and, and_true, and_self, true_or, or_true, not_true_eq_false, not_false_eq_true, ne_eq, reduceCtorEq, Int.reduceLT, Int.reduceLE, Int.reduceNeg, Int.reduceSub, Int.reduceAdd, Int.reduceMul, Int.reducePow, Int.reduceToNat, sz, D.dat, D.datL, D.dep, D.depL, szl, inb, List.any_cons, List.any_nil, Bool.true_and, Bool.false_and, Bool.and_true, Bool.and_false, Bool.or_false, Bool.false_or, Bool.true_or, Bool.or_true, Nat.max_self, Nat.max_zero, Nat.zero_max, Nat.min_self, Nat.zero_le, Nat.min_zero, Nat.zero_min, iR1, iR2, rng1, rng2, iE, itOf, sFor, bYes, Option.isNone_some, Option.isSome_some, Option.isNone_none, Option.isSome_none, Option.some.injEq, dEq_int, dNe_int, dEq_II, dEq_OO, dEq_OI, dEq_IO, dEq_PP, dNe_PP, dIs_O, dIsnt_O, dIs_I, dIsnt_I, dIs_non, dIsnt_non, dIn_IT, dIn_IL, dIdx_tup, dIdx_lst, dIdx_scr, dAdd_int, atI0, atI1, atI2, atI3, atI4, atI5, vw_last, get_last, set_last, app_last, lh] <;> rfl)) ?_)
    by_cases hH : (ls.map Ln.head).Nodup
    · have hn1 : (n : Int) = ((ls.map Ln.head).length : Int) := by rw [hn.mpr hH]
      rw [decide_eq_true hH]
      refine Good.seq (Good.nx (ρ := [some (.lst (ls.map encL)), some (.lst ((ls.map Ln.head).map encI)), none, none, none, none, none, none]) (h := []) (by (simp only [sSeq, sIf, sB, sE, sAsg, sRet, sRetN, sNil, sExpr, sBrk, sCnt, gN, gT, gsC, gsN, FK.e1, FK.e2, eC, eVar, eCall, aNil, aCons, M.bind, M.pure, eTup, eLst, eNew, eSl, oNone, oSome, bT, bNot, bAnd, bOr, eAnd, eOr, eNot, eIf, eCh, truth, eMs, eMl, dSub, dMul, dFdiv, dMod, dLe, dLt, dGe, dGt, D.isNon, dSl, dLen, dInt, dOrd_one, dMax2, dMin2, dTuple, dList, dListC, dApp, dNeg, vw, seq, lstOf, fnD, List.map_cons, List.map_nil, List.length_cons, List.length_nil, List.cons_append, List.nil_append, List.append_nil, List.replicate_succ, List.replicate_zero, List.getElem?_cons_zero, List.getElem?_cons_succ, List.set_cons_zero, List.set_cons_succ, Int.cast_ofNat_Int, Nat.reduceBEq, Int.reduceBEq, Nat.reduceAdd, Nat.reduceSub, Nat.reduceLT, Nat.reduceLeDiff, Nat.zero_add, Nat.add_zero, Nat.sub_zero, Nat.sub_self, ↓reduceIte, if_true, if_false, Bool.not_true, Bool.not_false, Bool.false_eq_true, Bool.true_eq_false, decide_true, decide_false, decide_not, true_and, and_true, and_self, true_or, or_true, not_true_eq_false, not_false_eq_true, ne_eq, reduceCtorEq, Int.reduceLT, Int.reduceLE, Int.reduceNeg, Int.reduceSub, Int.reduceAdd, Int.reduceMul, Int.reducePow, Int.reduceToNat, sz, D.dat, D.datL, D.dep, D.depL, szl, inb, List.any_cons, List.any_nil, Bool.true_and, Bool.false_and, Bool.and_true, Bool.and_false, Bool.or_false, Bool.false_or, Bool.true_or, Bool.or_true, Nat.max_self, Nat.max_zero, Nat.zero_max, Nat.min_self, Nat.zero_le, Nat.min_zero, Nat.zero_min, iR1, iR2, rng1, rng2, iE, itOf, sFor, bYes, Option.isNone_some, Option.isSome_some, Option.isNone_none, Option.isSome_none, Option.some.injEq, dEq_int, dNe_int, dEq_II, dEq_OO, dEq_OI, dEq_IO, dEq_PP, dNe_PP, dIs_O, dIsnt_O, dIs_I, dIsnt_I, dIs_non, dIsnt_non, dIn_IT, dIn_IL, dIdx_tup, dIdx_lst, dIdx_scr, dAdd_int, atI0, atI1, atI2, atI3, atI4, atI5, vw_last, get_last, set_last, app_last, ns, dNe_int, len_lst, List.length_map, List.length_map (f := encI) (as := ls.map Ln.head), hn1] <;> rfl)) ?_)
      refine Good.seq (Good.pre (en := encL) (xs := ls) (o := none) (h := []) (I := fun pre ρ h => h = [] ∧ pre.all (okLn ls) = true ∧ ∃ a b c d e, ρ = [some (.lst (ls.map encL)), some (.lst ((ls.map Ln.head).map encI)), a, b, c, d, e, none]) rfl ⟨rfl, rfl, none, none, none, none, none, rfl⟩ (fun _ _ _ _ => trivial) ?_ ?_)
      · rintro pre x post hx ρ h ⟨rfl, hall, a, b, c, d, e, rfl⟩
        refine ⟨[some (.lst (ls.map encL)), some (.lst ((ls.map Ln.head).map encI)), some (encI x.id), some (encI x.head), some (encO x.ins), some (encP x.below), some (encC x.ct), none], rfl, ?_⟩
        have ro := rooted_ok ls x.ins (by omega) []
        have bad : okLn ls x = false → ls.all (okLn ls) = false := fun z => List.all_eq_false.mpr ⟨x, by rw [hx]; simp, by rw [z]; decide⟩
        by_cases b1 : (x.below.length : Int) = 0
        · have b1' : x.below.length = 0 := by omega
          refine Good.seq (Good.rt (d := .bl false) (by (simp only [sSeq, sIf, sB, sE, sAsg, sRet, sRetN, sNil, sExpr, sBrk, sCnt, gN, gT, gsC, gsN, FK.e1, FK.e2, eC, eVar, eCall, aNil, aCons, M.bind, M.pure, eTup, eLst, eNew, eSl, oNone, oSome, bT, bNot, bAnd, bOr, eAnd, eOr, eNot, eIf, eCh, truth, eMs, eMl, dSub, dMul, dFdiv, dMod, dLe, dLt, dGe, dGt, D.isNon, dSl, dInt, dOrd_one, dMax2, dMin2, dTuple, dList, dListC, dApp, dNeg, vw, seq, lstOf, fnD, List.map_cons, List.map_nil, List.length_cons, List.length_nil, List.cons_append, List.nil_append, List.append_nil, List.replicate_succ, List.replicate_zero, List.getElem?_cons_zero, List.getElem?_cons_succ, List.set_cons_zero, List.set_cons_succ, Int.cast_ofNat_Int, Nat.reduceBEq, Int.reduceBEq, Nat.reduceAdd, Nat.reduceSub, Nat.reduceLT, Nat.reduceLeDiff, Nat.zero_add, Nat.add_zero, Nat.sub_zero, Nat.sub_self, ↓reduceIte, if_true, if_false, Bool.not_true, Bool.not_false, Bool.false_eq_true, Bool.true_eq_false, decide_true, decide_false, decide_not, true_and, and_true, and_self, true_or, or_true, not_true_eq_false, not_false_eq_true, ne_eq, reduceCtorEq, Int.reduceLT, Int.reduceLE, Int.reduceNeg, Int.reduceSub, Int.reduceAdd, Int.reduceMul, Int.reducePow, Int.reduceToNat, sz, D.dat, D.datL, D.dep, D.depL, szl, inb, List.any_cons, List.any_nil, Bool.true_and, Bool.false_and, Bool.and_true, Bool.and_false, Bool.or_false, Bool.false_or, Bool.true_or, Bool.or_true, Nat.max_self, Nat.max_zero, Nat.zero_max, Nat.min_self, Nat.zero_le, Nat.min_zero, Nat.zero_min, iR1, iR2, rng1, rng2, iE, itOf, sFor, bYes, Option.isNone_some, Option.isSome_some, Option.isNone_none, Option.isSome_none, Option.some.injEq, dEq_int, dNe_int, dEq_II, dEq_OO, dEq_OI, dEq_IO, dEq_PP, dNe_PP, dIs_O, dIsnt_O, dIs_I, dIsnt_I, dIs_non, dIsnt_non, dIn_IT, dIn_IL, dIdx_tup, dIdx_lst, dIdx_scr, dAdd_int, atI0, atI1, atI2, atI3, atI4, atI5, vw_last, get_last, set_last, app_last, len_P, b1] <;> rfl)) ⟨?_, rfl⟩)
          rw [bad (by unfold okLn; rw [decide_eq_true b1']; rfl)]; rfl
        · have b1' : ¬ x.below.length = 0 := by omega
          cases b2 : rtd ls (ls.length + 1) x.ins with
          | false =>
            rw [b2] at ro
            refine Good.seq (Good.rt (d := .bl false) (by (simp only [sSeq, sIf, sB, sE, sAsg, sRet, sRetN, sNil, sExpr, sBrk, sCnt, gN, gT, gsC, gsN, FK.e1, FK.e2, eC, eVar, eCall, aNil, aCons, M.bind, M.pure, eTup, eLst, eNew, eSl, oNone, oSome, bT, bNot, bAnd, bOr, eAnd, eOr, eNot, eIf, eCh, truth, eMs, eMl, dSub, dMul, dFdiv, dMod, dLe, dLt, dGe, dGt, D.isNon, dSl, dInt, dOrd_one, dMax2, dMin2, dTuple, dList, dListC, dApp, dNeg, vw, seq, lstOf, fnD, List.map_cons, List.map_nil, List.length_cons, List.length_nil, List.cons_append, List.nil_append, List.append_nil, List.replicate_succ, List.replicate_zero, List.getElem?_cons_zero, List.getElem?_cons_succ, List.set_cons_zero, List.set_cons_succ, Int.cast_ofNat_Int, Nat.reduceBEq, Int.reduceBEq, Nat.reduceAdd, Nat.reduceSub, Nat.reduceLT, Nat.reduceLeDiff, Nat.zero_add, Nat.add_zero, Nat.sub_zero, Nat.sub_self, ↓reduceIte, if_true, if_false, Bool.not_true, Bool.not_false, Bool.false_eq_true, Bool.true_eq_false, decide_true, decide_false, decide_not, true_and, and_true, and_self, true_or, or_true, not_true_eq_false, not_false_eq_true, ne_eq, reduceCtorEq, Int.reduceLT, Int.reduceLE, Int.reduceNeg, Int.reduceSub, Int.reduceAdd, Int.reduceMul, Int.reducePow, Int.reduceToNat, sz, D.dat, D.datL, D.dep, D.depL, szl, inb, List.any_cons, List.any_nil, Bool.true_and, Bool.false_and, Bool.and_true, Bool.and_false, Bool.or_false, Bool.false_or, Bool.true_or, Bool.or_true, Nat.max_self, Nat.max_zero, Nat.zero_max, Nat.min_self, Nat.zero_le, Nat.min_zero, Nat.zero_min, iR1, iR2, rng1, rng2, iE, itOf, sFor, bYes, Option.isNone_some, Option.isSome_some, Option.isNone_none, Option.isSome_none, Option.some.injEq, dEq_int, dNe_int, dEq_II, dEq_OO, dEq_OI, dEq_IO, dEq_PP, dNe_PP, dIs_O, dIsnt_O, dIs_I, dIsnt_I, dIs_non, dIsnt_non, dIn_IT, dIn_IL, dIdx_tup, dIdx_lst, dIdx_scr, dAdd_int, atI0, atI1, atI2, atI3, atI4, atI5, vw_last, get_last, set_last, app_last, len_P, b1, ro] <;> rfl)) ⟨?_, rfl⟩)
            rw [bad (by unfold okLn; rw [b2, Bool.and_false]; rfl)]; rfl
          | true =>
            rw [b2] at ro
            refine Good.seq (Good.nx (ρ := [some (.lst (ls.map encL)), some (.lst ((ls.map Ln.head).map encI)), some (encI x.id), some (encI x.head), some (encO x.ins), some (encP x.below), some (encC x.ct), none]) (h := []) (by (simp only [sSeq, sIf, sB, sE, sAsg, sRet, sRetN, sNil, sExpr, sBrk, sCnt, gN, gT, gsC, gsN, FK.e1, FK.e2, eC, eVar, eCall, aNil, aCons, M.bind, M.pure, eTup, eLst, eNew, eSl, oNone, oSome, bT, bNot, bAnd, bOr, eAnd, eOr, eNot, eIf, eCh, truth, eMs, eMl, dSub, dMul, dFdiv, dMod, dLe, dLt, dGe, dGt, D.isNon, dSl, dInt, dOrd_one, dMax2, dMin2, dTuple, dList, dListC, dApp, dNeg, vw, seq, lstOf, fnD, List.map_cons, List.map_nil, List.length_cons, List.length_nil, List.cons_append, List.nil_append, List.append_nil, List.replicate_succ, List.replicate_zero, List.getElem?_cons_zero, List.getElem?_cons_succ, List.set_cons_zero, List.set_cons_succ, Int.cast_ofNat_Int, Nat.reduceBEq, Int.reduceBEq, Nat.reduceAdd, Nat.reduceSub, Nat.reduceLT, Nat.reduceLeDiff, Nat.zero_add, Nat.add_zero, Nat.sub_zero, Nat.sub_self, ↓reduceIte, if_true, if_false, Bool.not_true, Bool.not_false, Bool.false_eq_true, Bool.true_eq_false, decide_true, decide_false, decide_not, true_and, and_true, and_self, true_or, or_true, not_true_eq_false, not_false_eq_true, ne_eq, reduceCtorEq, Int.reduceLT, Int.reduceLE, Int.reduceNeg, Int.reduceSub, Int.reduceAdd, Int.reduceMul, Int.reducePow, Int.reduceToNat, sz, D.dat, D.datL, D.dep, D.depL, szl, inb, List.any_cons, List.any_nil, Bool.true_and, Bool.false_and, Bool.and_true, Bool.and_false, Bool.or_false, Bool.false_or, Bool.true_or, Bool.or_true, Nat.max_self, Nat.max_zero, Nat.zero_max, Nat.min_self, Nat.zero_le, Nat.min_zero, Nat.zero_min, iR1, iR2, rng1, rng2, iE, itOf, sFor, bYes, Option.isNone_some, Option.isSome_some, Option.isNone_none, Option.isSome_none, Option.some.injEq, dEq_int, dNe_int, dEq_II, dEq_OO, dEq_OI, dEq_IO, dEq_PP, dNe_PP, dIs_O, dIsnt_O, dIs_I, dIsnt_I, dIs_non, dIsnt_non, dIn_IT, dIn_IL, dIdx_tup, dIdx_lst, dIdx_scr, dAdd_int, atI0, atI1, atI2, atI3, atI4, atI5, vw_last, get_last, set_last, app_last, len_P, b1, ro] <;> rfl)) ?_)
            have ok1 : okLn ls x = !(x.ct.isNone && !decide (x.head = x.id)) := by unfold okLn; rw [b2, decide_eq_false b1']; rfl
            cases hc : x.ct with
            | none =>
              rw [hc] at ok1
              by_cases e1 : x.head = x.id
              · exact Good.nx (by (simp only [sSeq, sIf, sB, sE, sAsg, sRet, sRetN, sNil, sExpr, sBrk, sCnt, gN, gT, gsC, gsN, FK.e1, FK.e2, eC, eVar, eCall, aNil, aCons, M.bind, M.pure, eTup, eLst, eNew, eSl, oNone, oSome, bT, bNot, bAnd, bOr, eAnd, eOr, eNot, eIf, eCh, truth, eMs, eMl, dSub, dMul, dFdiv, dMod, dLe, dLt, dGe, dGt, D.isNon, dSl, dLen, dInt, dOrd_one, dMax2, dMin2, dTuple, dList, dListC, dApp, dNeg, vw, seq, lstOf, fnD, List.map_cons, List.map_nil, List.length_cons, List.length_nil, List.cons_append, List.nil_append, List.append_nil, List.replicate_succ, List.replicate_zero, List.getElem?_cons_zero, List.getElem?_cons_succ, List.set_cons_zero, List.set_cons_succ, Int.cast_ofNat_Int, Nat.reduceBEq, Int.reduceBEq, Nat.reduceAdd, Nat.reduceSub, Nat.reduceLT, Nat.reduceLeDiff, Nat.zero_add, Nat.add_zero, Nat.sub_zero, Nat.sub_self, ↓reduceIte, if_true, if_false, Bool.not_true, Bool.not_false, Bool.false_eq_true, Bool.true_eq_false, decide_true, decide_false, decide_not, true_and, and_true, and_self, true_or, or_true, not_true_eq_false, not_false_eq_true, ne_eq, reduceCtorEq, Int.reduceLT, Int.reduceLE, Int.reduceNeg, Int.reduceSub, Int.reduceAdd, Int.reduceMul, Int.reducePow, Int.reduceToNat, sz, D.dat, D.datL, D.dep, D.depL, szl, inb, List.any_cons, List.any_nil, Bool.true_and, Bool.false_and, Bool.and_true, Bool.and_false, Bool.or_false, Bool.false_or, Bool.true_or, Bool.or_true, Nat.max_self, Nat.max_zero, Nat.zero_max, Nat.min_self, Nat.zero_le, Nat.min_zero, Nat.zero_min, iR1, iR2, rng1, rng2, iE, itOf, sFor, bYes, Option.isNone_some, Option.isSome_some, Option.isNone_none, Option.isSome_none, Option.some.injEq, dEq_int, dNe_int, dEq_II, dEq_OO, dEq_OI, dEq_IO, dEq_PP, dNe_PP, dIs_O, dIsnt_O, dIs_I, dIsnt_I, dIs_non, dIsnt_non, dIn_IT, dIn_IL, dIdx_tup, dIdx_lst, dIdx_scr, dAdd_int, atI0, atI1, atI2, atI3, atI4, atI5, vw_last, get_last, set_last, app_last, encC_none', dNe_II, e1, dIs_C, hc] <;> rfl)) ⟨rfl, by rw [List.all_append, hall, List.all_cons, ok1, decide_eq_true e1]; rfl, _, _, _, _, _, rfl⟩
              · refine Good.rt (d := .bl false) (by (simp only [sSeq, sIf, sB, sE, sAsg, sRet, sRetN, sNil, sExpr, sBrk, sCnt, gN, gT, gsC, gsN, FK.e1, FK.e2, eC, eVar, eCall, aNil, aCons, M.bind, M.pure, eTup, eLst, eNew, eSl, oNone, oSome, bT, bNot, bAnd, bOr, eAnd, eOr, eNot, eIf, eCh, truth, eMs, eMl, dSub, dMul, dFdiv, dMod, dLe, dLt, dGe, dGt, D.isNon, dSl, dLen, dInt, dOrd_one, dMax2, dMin2, dTuple, dList, dListC, dApp, dNeg, vw, seq, lstOf, fnD, List.map_cons, List.map_nil, List.length_cons, List.length_nil, List.cons_append, List.nil_append, List.append_nil, List.replicate_succ, List.replicate_zero, List.getElem?_cons_zero, List.getElem?_cons_succ, List.set_cons_zero, List.set_cons_succ, Int.cast_ofNat_Int, Nat.reduceBEq, Int.reduceBEq, Nat.reduceAdd, Nat.reduceSub, Nat.reduceLT, Nat.reduceLeDiff, Nat.zero_add, Nat.add_zero, Nat.sub_zero, Nat.sub_self, ↓reduceIte, if_true, if_false, Bool.not_true, Bool.not_false, Bool.false_eq_true, Bool.true_eq_false, decide_true, decide_false, decide_not, true_and, and_true, and_self, true_or, or_true, not_true_eq_false, not_false_eq_true, ne_eq, reduceCtorEq, Int.reduceLT, Int.reduceLE, Int.reduceNeg, Int.reduceSub, Int.reduceAdd, Int.reduceMul, Int.reducePow, Int.reduceToNat, sz, D.dat, D.datL, D.dep, D.depL, szl, inb, List.any_cons, List.any_nil, Bool.true_and, Bool.false_and, Bool.and_true, Bool.and_false, Bool.or_false, Bool.false_or, Bool.true_or, Bool.or_true, Nat.max_self, Nat.max_zero, Nat.zero_max, Nat.min_self, Nat.zero_le, Nat.min_zero, Nat.zero_min, iR1, iR2, rng1, rng2, iE, itOf, sFor, bYes, Option.isNone_some, Option.isSome_some, Option.isNone_none, Option.isSome_none, Option.some.injEq, dEq_int, dNe_int, dEq_II, dEq_OO, dEq_OI, dEq_IO, dEq_PP, dNe_PP, dIs_O, dIsnt_O, dIs_I, dIsnt_I, dIs_non, dIsnt_non, dIn_IT, dIn_IL, dIdx_tup, dIdx_lst, dIdx_scr, dAdd_int, atI0, atI1, atI2, atI3, atI4, atI5, vw_last, get_last, set_last, app_last, encC_none', dNe_II, e1, dIs_C, hc] <;> rfl)) ⟨?_, rfl⟩
                rw [bad (by rw [ok1, decide_eq_false e1]; rfl)]; rfl
            | some m =>
              rw [hc] at ok1
              exact Good.nx (by (simp only [sSeq, sIf, sB, sE, sAsg, sRet, sRetN, sNil, sExpr, sBrk, sCnt, gN, gT, gsC, gsN, FK.e1, FK.e2, eC, eVar, eCall, aNil, aCons, M.bind, M.pure, eTup, eLst, eNew, eSl, oNone, oSome, bT, bNot, bAnd, bOr, eAnd, eOr, eNot, eIf, eCh, truth, eMs, eMl, dSub, dMul, dFdiv, dMod, dLe, dLt, dGe, dGt, D.isNon, dSl, dLen, dInt, dOrd_one, dMax2, dMin2, dTuple, dList, dListC, dApp, dNeg, vw, seq, lstOf, fnD, List.map_cons, List.map_nil, List.length_cons, List.length_nil, List.cons_append, List.nil_append, List.append_nil, List.replicate_succ, List.replicate_zero, List.getElem?_cons_zero, List.getElem?_cons_succ, List.set_cons_zero, List.set_cons_succ, Int.cast_ofNat_Int, Nat.reduceBEq, Int.reduceBEq, Nat.reduceAdd, Nat.reduceSub, Nat.reduceLT, Nat.reduceLeDiff, Nat.zero_add, Nat.add_zero, Nat.sub_zero, Nat.sub_self, ↓reduceIte, if_true, if_false, Bool.not_true, Bool.not_false, Bool.false_eq_true, Bool.true_eq_false, decide_true, decide_false, decide_not, true_and, and_true, and_self, true_or, or_true, not_true_eq_false, not_false_eq_true, ne_eq, reduceCtorEq, Int.reduceLT, Int.reduceLE, Int.reduceNeg, Int.reduceSub, Int.reduceAdd, Int.reduceMul, Int.reducePow, Int.reduceToNat, sz, D.dat, D.datL, D.dep, D.depL, szl, inb, List.any_cons, List.any_nil, Bool.true_and, Bool.false_and, Bool.and_true, Bool.and_false, Bool.or_false, Bool.false_or, Bool.true_or, Bool.or_true, Nat.max_self, Nat.max_zero, Nat.zero_max, Nat.min_self, Nat.zero_le, Nat.min_zero, Nat.zero_min, iR1, iR2, rng1, rng2, iE, itOf, sFor, bYes, Option.isNone_some, Option.isSome_some, Option.isNone_none, Option.isSome_none, Option.some.injEq, dEq_int, dNe_int, dEq_II, dEq_OO, dEq_OI, dEq_IO, dEq_PP, dNe_PP, dIs_O, dIsnt_O, dIs_I, dIsnt_I, dIs_non, dIsnt_non, dIn_IT, dIn_IL, dIdx_tup, dIdx_lst, dIdx_scr, dAdd_int, atI0, atI1, atI2, atI3, atI4, atI5, vw_last, get_last, set_last, app_last, dIs_C, hc] <;> rfl)) ⟨rfl, by rw [List.all_append, hall, List.all_cons, ok1]; rfl, _, _, _, _, _, rfl⟩
      · rintro ρ h ⟨rfl, hall, a, b, c, d, e, rfl⟩
        exact Good.rt (by (simp only [sSeq, sIf, sB, sE, sAsg, sRet, sRetN, sNil, sExpr, sBrk, sCnt, gN, gT, gsC, gsN, FK.e1, FK.e2, eC, eVar, eCall, aNil, aCons, M.bind, M.pure, eTup, eLst, eNew, eSl, oNone, oSome, bT, bNot, bAnd, bOr, eAnd, eOr, eNot, eIf, eCh, truth, eMs, eMl, dSub, dMul, dFdiv, dMod, dLe, dLt, dGe, dGt, D.isNon, dSl, dLen, dInt, dOrd_one, dMax2, dMin2, dTuple, dList, dListC, dApp, dNeg, vw, seq, lstOf, fnD, List.map_cons, List.map_nil, List.length_cons, List.length_nil, List.cons_append, List.nil_append, List.append_nil, List.replicate_succ, List.replicate_zero, List.getElem?_cons_zero, List.getElem?_cons_succ, List.set_cons_zero, List.set_cons_succ, Int.cast_ofNat_Int, Nat.reduceBEq, Int.reduceBEq, Nat.reduceAdd, Nat.reduceSub, Nat.reduceLT, Nat.reduceLeDiff, Nat.zero_add, Nat.add_zero, Nat.sub_zero, Nat.sub_self, ↓reduceIte, if_true, if_false, Bool.not_true, Bool.not_false, Bool.false_eq_true, Bool.true_eq_false, decide_true, decide_false, decide_not, true_and, and_true, and_self, true_or, or_true, not_true_eq_false, not_false_eq_true, ne_eq, reduceCtorEq, Int.reduceLT, Int.reduceLE, Int.reduceNeg, Int.reduceSub, Int.reduceAdd, Int.reduceMul, Int.reducePow, Int.reduceToNat, sz, D.dat, D.datL, D.dep, D.depL, szl, inb, List.any_cons, List.any_nil, Bool.true_and, Bool.false_and, Bool.and_true, Bool.and_false, Bool.or_false, Bool.false_or, Bool.true_or, Bool.or_true, Nat.max_self, Nat.max_zero, Nat.zero_max, Nat.min_self, Nat.zero_le, Nat.min_zero, Nat.zero_min, iR1, iR2, rng1, rng2, iE, itOf, sFor, bYes, Option.isNone_some, Option.isSome_some, Option.isNone_none, Option.isSome_none, Option.some.injEq, dEq_int, dNe_int, dEq_II, dEq_OO, dEq_OI, dEq_IO, dEq_PP, dNe_PP, dIs_O, dIsnt_O, dIs_I, dIsnt_I, dIs_non, dIsnt_non, dIn_IT, dIn_IL, dIdx_tup, dIdx_lst, dIdx_scr, dAdd_int, atI0, atI1, atI2, atI3, atI4, atI5, vw_last, get_last, set_last, app_last] <;> rfl)) ⟨by rw [hall]; rfl, rfl⟩
    · have hn1 : ¬ (n : Int) = ((ls.map Ln.head).length : Int) := fun z => hH (hn.mp (by omega))
      rw [decide_eq_false hH]
      rw [List.length_map] at hn1
      exact Good.seq (Good.rt (by (simp only [sSeq, sIf, sB, sE, sAsg, sRet, sRetN, sNil, sExpr, sBrk, sCnt, gN, gT, gsC, gsN, FK.e1, FK.e2, eC, eVar, eCall, aNil, aCons, M.bind, M.pure, eTup, eLst, eNew, eSl, oNone, oSome, bT, bNot, bAnd, bOr, eAnd, eOr, eNot, eIf, eCh, truth, eMs, eMl, dSub, dMul, dFdiv, dMod, dLe, dLt, dGe, dGt, D.isNon, dSl, dLen, dInt, dOrd_one, dMax2, dMin2, dTuple, dList, dListC, dApp, dNeg, vw, seq, lstOf, fnD, List.map_cons, List.map_nil, List.length_cons, List.length_nil, List.cons_append, List.nil_append, List.append_nil, List.replicate_succ, List.replicate_zero, List.getElem?_cons_zero, List.getElem?_cons_succ, List.set_cons_zero, List.set_cons_succ, Int.cast_ofNat_Int, Nat.reduceBEq, Int.reduceBEq, Nat.reduceAdd, Nat.reduceSub, Nat.reduceLT, Nat.reduceLeDiff, Nat.zero_add, Nat.add_zero, Nat.sub_zero, Nat.sub_self, ↓reduceIte, if_true, if_false, Bool.not_true, Bool.not_false, Bool.false_eq_true, Bool.true_eq_false, decide_true, decide_false, decide_not, true_and, and_true, and_self, true_or, or_true, not_true_eq_false, not_false_eq_true, ne_eq, reduceCtorEq, Int.reduceLT, Int.reduceLE, Int.reduceNeg, Int.reduceSub, Int.reduceAdd, Int.reduceMul, Int.reducePow, Int.reduceToNat, sz, D.dat, D.datL, D.dep, D.depL, szl, inb, List.any_cons, List.any_nil, Bool.true_and, Bool.false_and, Bool.and_true, Bool.and_false, Bool.or_false, Bool.false_or, Bool.true_or, Bool.or_true, Nat.max_self, Nat.max_zero, Nat.zero_max, Nat.min_self, Nat.zero_le, Nat.min_zero, Nat.zero_min, iR1, iR2, rng1, rng2, iE, itOf, sFor, bYes, Option.isNone_some, Option.isSome_some, Option.isNone_none, Option.isSome_none, Option.some.injEq, dEq_int, dNe_int, dEq_II, dEq_OO, dEq_OI, dEq_IO, dEq_PP, dNe_PP, dIs_O, dIsnt_O, dIs_I, dIsnt_I, dIs_non, dIsnt_non, dIn_IT, dIn_IL, dIdx_tup, dIdx_lst, dIdx_scr, dAdd_int, atI0, atI1, atI2, atI3, atI4, atI5, vw_last, get_last, set_last, app_last, ns, dNe_int, len_lst, List.length_map, hn1] <;> rfl)) ⟨rfl, rfl⟩)
/-! the law's own -/
def withL (ls : List Ln) (k : Nat) (y : Ln) : List Ln := ls.take k ++ [y] ++ ls.drop (k + 1)
def encLs (ws : List Ln) : D := .lst (ws.map encL)
def wr1 (ls : List Ln) (k : Nat) (x : Ln) : List (List Ln) := [withL ls k { x with below := [] }, withL ls k { x with ins := some (77, 7) }, withL ls k { x with ins := some x.id }]
def wr2 (ls : List Ln) (k : Nat) (x : Ln) : List (List Ln) := if x.ct = none then [withL ls k { x with head := (78, 0) }] else []
def wr3 (ls : List Ln) (k : Nat) (x b : Ln) : List (List Ln) := [ls.take (k - 1) ++ [x, b] ++ ls.drop (k + 1), withL ls k { x with head := b.head }]
def wr4 (ls : List Ln) (k : Nat) (x b : Ln) : List (List Ln) := if b.ct = none then [] else [withL ls k { x with ins := some b.id }]
def wrongs (ls : List Ln) (k : Nat) : List (List Ln) := match ls[k]? with
  | none => []
  | some x => wr1 ls k x ++ wr2 ls k x ++ (if 0 < k then (match ls[k - 1]? with | none => [] | some b => wr3 ls k x b ++ wr4 ls k x b) else [])
theorem cut_toL {ls : List Ln} {k : Nat} (hk : k ≤ ls.length) : cut (ls.map encL) none (some (k : Int)) = (ls.take k).map encL := by rw [cut_to (by rw [List.length_map]; omega), List.map_take]
theorem cut_fromL {ls : List Ln} {k : Nat} (hk : k < ls.length) : cut (ls.map encL) (some ((k : Int) + 1)) none = (ls.drop (k + 1)).map encL := by
  rw [show ((k : Int) + 1) = ((k + 1 : Nat) : Int) by omega, cut_from (by rw [List.length_map]; omega), List.map_drop]
theorem parts {ls : List Ln} {k : Nat} (hk : k < ls.length) (hl : ls.length ≤ 1000) (j : Nat) (hj : j ≤ k) (ys : List D) (hy : ys.length ≤ 2) (h : CH) :
    dSl (.lst (ls.map encL)) none (some (j : Int)) h = .ok (.lst ((ls.take j).map encL)) h ∧ dSl (.lst (ls.map encL)) (some ((k : Int) + 1)) none h = .ok (.lst ((ls.drop (k + 1)).map encL)) h ∧
    dAdd (.lst ((ls.take j).map encL)) (.lst ys) h = .ok (.lst ((ls.take j).map encL ++ ys)) h ∧ dAdd (.lst ((ls.take j).map encL ++ ys)) (.lst ((ls.drop (k + 1)).map encL)) h = .ok (.lst ((ls.take j).map encL ++ ys ++ (ls.drop (k + 1)).map encL)) h := by
  have hlen1 : ((ls.take j).map encL).length = j := by rw [List.length_map, List.length_take]; omega
  have hlen2 : ((ls.drop (k + 1)).map encL).length = ls.length - (k + 1) := by rw [List.length_map, List.length_drop]
  refine ⟨by rw [dSl_L rfl, cut_toL (by omega)], by rw [dSl_L rfl, cut_fromL hk], dAdd_lst _ _ _ (by rw [hlen1]; omega), dAdd_lst _ _ _ (by rw [List.length_append, hlen1, hlen2]; omega)⟩
theorem withL_ok {ls : List Ln} {k : Nat} (hk : k < ls.length) (hl : ls.length ≤ 1000) (y : Ln) (h : CH) : callP 3 d_l_with [.lst (ls.map encL), .int k, encL y] h = .ok (encLs (withL ls k y)) h := by
  refine callP_ok (d := encLs (withL ls k y)) (h' := []) (nrLs ls (nr2 rfl (flat_L y))) ?_ (fz_nr (nrL_L _))
  obtain ⟨p1, p2, p3, p4⟩ := parts hk hl k (Nat.le_refl _) [encL y] (Nat.le_succ 1) []
  unfold d_l_with b_l_with encLs withL
  rw [List.map_append, List.map_append]
  (simp only [sSeq, sIf, sB, sE, sAsg, sRet, sRetN, sNil, sExpr, sBrk, sCnt, gN, gT, gsC, gsN, FK.e1, FK.e2, eC, eVar, eCall, aNil, aCons, M.bind, M.pure, eTup, eLst, eNew, eSl, oNone, oSome, bT, bNot, bAnd, bOr, eAnd, eOr, eNot, eIf, eCh, truth, eMs, eMl, dSub, dMul, dFdiv, dMod, dLe, dLt, dGe, dGt, D.isNon, dLen, dInt, dOrd_one, dMax2, dMin2, dTuple, dList, dListC, dApp, dNeg, vw, seq, lstOf, fnD, List.map_cons, List.map_nil, List.length_cons, List.length_nil, List.cons_append, List.nil_append, List.append_nil, List.replicate_succ, List.replicate_zero, List.getElem?_cons_zero, List.getElem?_cons_succ, List.set_cons_zero, List.set_cons_succ, Int.cast_ofNat_Int, Nat.reduceBEq, Int.reduceBEq, Nat.reduceAdd, Nat.reduceSub, Nat.reduceLT, Nat.reduceLeDiff, Nat.zero_add, Nat.add_zero, Nat.sub_zero, Nat.sub_self, ↓reduceIte, if_true, if_false, Bool.not_true, Bool.not_false, Bool.false_eq_true, Bool.true_eq_false, decide_true, decide_false, decide_not, true_and, and_true, and_self, true_or, or_true, not_true_eq_false, not_false_eq_true, ne_eq, reduceCtorEq, Int.reduceLT, Int.reduceLE, Int.reduceNeg, Int.reduceSub, Int.reduceAdd, Int.reduceMul, Int.reducePow, Int.reduceToNat, sz, D.dat, D.datL, D.dep, D.depL, szl, inb, List.any_cons, List.any_nil, Bool.true_and, Bool.false_and, Bool.and_true, Bool.and_false, Bool.or_false, Bool.false_or, Bool.true_or, Bool.or_true, Nat.max_self, Nat.max_zero, Nat.zero_max, Nat.min_self, Nat.zero_le, Nat.min_zero, Nat.zero_min, iR1, iR2, rng1, rng2, iE, itOf, sFor, bYes, Option.isNone_some, Option.isSome_some, Option.isNone_none, Option.isSome_none, Option.some.injEq, dEq_int, dNe_int, dEq_II, dEq_OO, dEq_OI, dEq_IO, dEq_PP, dNe_PP, dIs_O, dIsnt_O, dIs_I, dIsnt_I, dIs_non, dIsnt_non, dIn_IT, dIn_IL, dIdx_tup, dIdx_lst, dIdx_scr, dAdd_int, atI0, atI1, atI2, atI3, atI4, atI5, vw_last, get_last, set_last, app_last, p1, p2, p3, p4] <;> rfl)
theorem wrong_ok {ls : List Ln} {k : Nat} (hk : k < ls.length) (hl : ls.length ≤ 1000) (h : CH) : callP 2 d_l_wrong [.lst (ls.map encL), .int k] h = .ok (.lst ((wrongs ls k).map encLs)) h := by
  have g1 := List.getElem?_eq_getElem hk
  generalize hx : ls[k] = x at g1
  have nrW : ∀ ws : List (List Ln), D.nrL (ws.map encLs) = true := by
    intro ws
    induction ws with
    | nil => rfl
    | cons w ws ih =>
      show (D.nrL (w.map encL) && D.nrL (ws.map encLs)) = true
      rw [nrL_L, ih]; rfl
  have i1 : atI (ls.map encL) (k : Int) = some (encL x) := L2.atI_nat (by rw [List.getElem?_map, g1]; rfl)
  have W := fun (y : Ln) (h : CH) => withL_ok hk hl y h
  have app : ∀ (acc : List (List Ln)) (w : List Ln), acc.length < 1000 → dApp (.ref 0) [encLs w] [.lst (acc.map encLs)] = .ok .non [.lst ((acc ++ [w]).map encLs)] := fun acc w ha => by
    rw [List.map_append]
    exact app_last [] (acc.map encLs) (encLs w) (by rw [List.length_map]; omega)
  have v0 : ∀ xs : List D, vw [.lst xs] (.ref 0) = .lst xs := fun xs => rfl
  refine callP_ok (d := .ref 0) (h' := [.lst ((wrongs ls k).map encLs)]) (nrLs ls rfl) (Good.fnE (ρ := [some (.lst (ls.map encL)), some (.int k), none, none, none]) ?_) (fz_ref rfl (nrW _))
  unfold b_l_wrong
  refine Good.seq (Good.nx (ρ := [some (.lst (ls.map encL)), some (.int k), some (encL x), none, none]) (h := []) (by (simp only [sSeq, sIf, sB, sE, sAsg, sRet, sRetN, sNil, sExpr, sBrk, sCnt, gN, gT, gsC, gsN, FK.e1, FK.e2, eC, eVar, eCall, aNil, aCons, M.bind, M.pure, eTup, eLst, eNew, eSl, oNone, oSome, bT, bNot, bAnd, bOr, eAnd, eOr, eNot, eIf, eCh, truth, eMs, eMl, dSub, dMul, dFdiv, dMod, dLe, dLt, dGe, dGt, D.isNon, dSl, dLen, dInt, dOrd_one, dMax2, dMin2, dTuple, dList, dListC, dApp, dNeg, vw, seq, lstOf, fnD, List.map_cons, List.map_nil, List.length_cons, List.length_nil, List.cons_append, List.nil_append, List.append_nil, List.replicate_succ, List.replicate_zero, List.getElem?_cons_zero, List.getElem?_cons_succ, List.set_cons_zero, List.set_cons_succ, Int.cast_ofNat_Int, Nat.reduceBEq, Int.reduceBEq, Nat.reduceAdd, Nat.reduceSub, Nat.reduceLT, Nat.reduceLeDiff, Nat.zero_add, Nat.add_zero, Nat.sub_zero, Nat.sub_self, ↓reduceIte, if_true, if_false, Bool.not_true, Bool.not_false, Bool.false_eq_true, Bool.true_eq_false, decide_true, decide_false, decide_not, true_and, and_true, and_self, true_or, or_true, not_true_eq_false, not_false_eq_true, ne_eq, reduceCtorEq, Int.reduceLT, Int.reduceLE, Int.reduceNeg, Int.reduceSub, Int.reduceAdd, Int.reduceMul, Int.reducePow, Int.reduceToNat, sz, D.dat, D.datL, D.dep, D.depL, szl, inb, List.any_cons, List.any_nil, Bool.true_and, Bool.false_and, Bool.and_true, Bool.and_false, Bool.or_false, Bool.false_or, Bool.true_or, Bool.or_true, Nat.max_self, Nat.max_zero, Nat.zero_max, Nat.min_self, Nat.zero_le, Nat.min_zero, Nat.zero_min, iR1, iR2, rng1, rng2, iE, itOf, sFor, bYes, Option.isNone_some, Option.isSome_some, Option.isNone_none, Option.isSome_none, Option.some.injEq, dEq_int, dNe_int, dEq_II, dEq_OO, dEq_OI, dEq_IO, dEq_PP, dNe_PP, dIs_O, dIsnt_O, dIs_I, dIsnt_I, dIs_non, dIsnt_non, dIn_IT, dIn_IL, dIdx_tup, dIdx_lst, dIdx_scr, dAdd_int, atI0, atI1, atI2, atI3, atI4, atI5, vw_last, get_last, set_last, app_last, i1] <;> rfl)) ?_)
  have w1 : ∀ h, callP 3 d_l_with [.lst (ls.map encL), .int k, .tup [encI x.id, encI x.head, encO x.ins, .tup [], encC x.ct]] h = .ok (encLs (withL ls k { x with below := [] })) h := fun h => W { x with below := [] } h
  have w2 : ∀ h, callP 3 d_l_with [.lst (ls.map encL), .int k, .tup [encI x.id, encI x.head, .tup [.int 77, .int 7], encP x.below, encC x.ct]] h = .ok (encLs (withL ls k { x with ins := some (77, 7) })) h := fun h => W { x with ins := some (77, 7) } h
  have w3 : ∀ h, callP 3 d_l_with [.lst (ls.map encL), .int k, .tup [encI x.id, encI x.head, encI x.id, encP x.below, encC x.ct]] h = .ok (encLs (withL ls k { x with ins := some x.id })) h := fun h => W { x with ins := some x.id } h
  refine Good.seq (Good.nx (ρ := [some (.lst (ls.map encL)), some (.int k), some (encL x), some (.ref 0), none]) (h := [.lst ([withL ls k { x with below := [] }].map encLs)]) (by (simp only [sSeq, sIf, sB, sE, sAsg, sRet, sRetN, sNil, sExpr, sBrk, sCnt, gN, gT, gsC, gsN, FK.e1, FK.e2, eC, eVar, eCall, aNil, aCons, M.bind, M.pure, eTup, eLst, eNew, eSl, oNone, oSome, bT, bNot, bAnd, bOr, eAnd, eOr, eNot, eIf, eCh, truth, eMs, eMl, dSub, dMul, dFdiv, dMod, dLe, dLt, dGe, dGt, D.isNon, dSl, dLen, dInt, dOrd_one, dMax2, dMin2, dTuple, dList, dListC, dApp, dNeg, vw, seq, lstOf, fnD, List.map_cons, List.map_nil, List.length_cons, List.length_nil, List.cons_append, List.nil_append, List.append_nil, List.replicate_succ, List.replicate_zero, List.getElem?_cons_zero, List.getElem?_cons_succ, List.set_cons_zero, List.set_cons_succ, Int.cast_ofNat_Int, Nat.reduceBEq, Int.reduceBEq, Nat.reduceAdd, Nat.reduceSub, Nat.reduceLT, Nat.reduceLeDiff, Nat.zero_add, Nat.add_zero, Nat.sub_zero, Nat.sub_self, ↓reduceIte, if_true, if_false, Bool.not_true, Bool.not_false, Bool.false_eq_true, Bool.true_eq_false, decide_true, decide_false, decide_not, true_and, and_true, and_self, true_or, or_true, not_true_eq_false, not_false_eq_true, ne_eq, reduceCtorEq, Int.reduceLT, Int.reduceLE, Int.reduceNeg, Int.reduceSub, Int.reduceAdd, Int.reduceMul, Int.reducePow, Int.reduceToNat, sz, D.dat, D.datL, D.dep, D.depL, szl, inb, List.any_cons, List.any_nil, Bool.true_and, Bool.false_and, Bool.and_true, Bool.and_false, Bool.or_false, Bool.false_or, Bool.true_or, Bool.or_true, Nat.max_self, Nat.max_zero, Nat.zero_max, Nat.min_self, Nat.zero_le, Nat.min_zero, Nat.zero_min, iR1, iR2, rng1, rng2, iE, itOf, sFor, bYes, Option.isNone_some, Option.isSome_some, Option.isNone_none, Option.isSome_none, Option.some.injEq, dEq_int, dNe_int, dEq_II, dEq_OO, dEq_OI, dEq_IO, dEq_PP, dNe_PP, dIs_O, dIsnt_O, dIs_I, dIsnt_I, dIs_non, dIsnt_non, dIn_IT, dIn_IL, dIdx_tup, dIdx_lst, dIdx_scr, dAdd_int, atI0, atI1, atI2, atI3, atI4, atI5, vw_last, get_last, set_last, app_last, ix0, ix1, ix2, ix4, w1] <;> rfl)) ?_)
  have a1 := app [withL ls k { x with below := [] }] (withL ls k { x with ins := some (77, 7) }) (by show 1 < 1000; decide)
  refine Good.seq (Good.nx (ρ := [some (.lst (ls.map encL)), some (.int k), some (encL x), some (.ref 0), none]) (h := [.lst ([withL ls k { x with below := [] }, withL ls k { x with ins := some (77, 7) }].map encLs)]) (by (simp only [sSeq, sIf, sB, sE, sAsg, sRet, sRetN, sNil, sExpr, sBrk, sCnt, gN, gT, gsC, gsN, FK.e1, FK.e2, eC, eVar, eCall, aNil, aCons, M.bind, M.pure, eTup, eLst, eNew, eSl, oNone, oSome, bT, bNot, bAnd, bOr, eAnd, eOr, eNot, eIf, eCh, truth, eMs, eMl, dSub, dMul, dFdiv, dMod, dLe, dLt, dGe, dGt, D.isNon, dSl, dLen, dInt, dOrd_one, dMax2, dMin2, dTuple, dList, dListC, dNeg, seq, lstOf, fnD, List.length_cons, List.length_nil, List.cons_append, List.nil_append, List.append_nil, List.replicate_succ, List.replicate_zero, List.getElem?_cons_zero, List.getElem?_cons_succ, List.set_cons_zero, List.set_cons_succ, Int.cast_ofNat_Int, Nat.reduceBEq, Int.reduceBEq, Nat.reduceAdd, Nat.reduceSub, Nat.reduceLT, Nat.reduceLeDiff, Nat.zero_add, Nat.add_zero, Nat.sub_zero, Nat.sub_self, ↓reduceIte, if_true, if_false, Bool.not_true, Bool.not_false, Bool.false_eq_true, Bool.true_eq_false, decide_true, decide_false, decide_not, true_and, and_true, and_self, true_or, or_true, not_true_eq_false, not_false_eq_true, ne_eq, reduceCtorEq, Int.reduceLT, Int.reduceLE, Int.reduceNeg, Int.reduceSub, Int.reduceAdd, Int.reduceMul, Int.reducePow, Int.reduceToNat, sz, D.dat, D.datL, D.dep, D.depL, szl, inb, List.any_cons, List.any_nil, Bool.true_and, Bool.false_and, Bool.and_true, Bool.and_false, Bool.or_false, Bool.false_or, Bool.true_or, Bool.or_true, Nat.max_self, Nat.max_zero, Nat.zero_max, Nat.min_self, Nat.zero_le, Nat.min_zero, Nat.zero_min, iR1, iR2, rng1, rng2, iE, itOf, sFor, bYes, Option.isNone_some, Option.isSome_some, Option.isNone_none, Option.isSome_none, Option.some.injEq, dEq_int, dNe_int, dEq_II, dEq_OO, dEq_OI, dEq_IO, dEq_PP, dNe_PP, dIs_O, dIsnt_O, dIs_I, dIsnt_I, dIs_non, dIsnt_non, dIn_IT, dIn_IL, dIdx_tup, dIdx_lst, dIdx_scr, dAdd_int, atI0, atI1, atI2, atI3, atI4, atI5, vw_last, get_last, set_last, app_last, ix0, ix1, ix3, ix4, w2, v0, a1] <;> rfl)) ?_)
  have a2 := app [withL ls k { x with below := [] }, withL ls k { x with ins := some (77, 7) }] (withL ls k { x with ins := some x.id }) (by show 2 < 1000; decide)
  refine Good.seq (Good.nx (ρ := [some (.lst (ls.map encL)), some (.int k), some (encL x), some (.ref 0), none]) (h := [.lst ((wr1 ls k x).map encLs)]) (by (simp only [sSeq, sIf, sB, sE, sAsg, sRet, sRetN, sNil, sExpr, sBrk, sCnt, gN, gT, gsC, gsN, FK.e1, FK.e2, eC, eVar, eCall, aNil, aCons, M.bind, M.pure, eTup, eLst, eNew, eSl, oNone, oSome, bT, bNot, bAnd, bOr, eAnd, eOr, eNot, eIf, eCh, truth, eMs, eMl, dSub, dMul, dFdiv, dMod, dLe, dLt, dGe, dGt, D.isNon, dSl, dLen, dInt, dOrd_one, dMax2, dMin2, dTuple, dList, dListC, dNeg, seq, lstOf, fnD, List.length_cons, List.length_nil, List.cons_append, List.nil_append, List.append_nil, List.replicate_succ, List.replicate_zero, List.getElem?_cons_zero, List.getElem?_cons_succ, List.set_cons_zero, List.set_cons_succ, Int.cast_ofNat_Int, Nat.reduceBEq, Int.reduceBEq, Nat.reduceAdd, Nat.reduceSub, Nat.reduceLT, Nat.reduceLeDiff, Nat.zero_add, Nat.add_zero, Nat.sub_zero, Nat.sub_self, ↓reduceIte, if_true, if_false, Bool.not_true, Bool.not_false, Bool.false_eq_true, Bool.true_eq_false, decide_true, decide_false, decide_not, true_and, and_true, and_self, true_or, or_true, not_true_eq_false, not_false_eq_true, ne_eq, reduceCtorEq, Int.reduceLT, Int.reduceLE, Int.reduceNeg, Int.reduceSub, Int.reduceAdd, Int.reduceMul, Int.reducePow, Int.reduceToNat, sz, D.dat, D.datL, D.dep, D.depL, szl, inb, List.any_cons, List.any_nil, Bool.true_and, Bool.false_and, Bool.and_true, Bool.and_false, Bool.or_false, Bool.false_or, Bool.true_or, Bool.or_true, Nat.max_self, Nat.max_zero, Nat.zero_max, Nat.min_self, Nat.zero_le, Nat.min_zero, Nat.zero_min, iR1, iR2, rng1, rng2, iE, itOf, sFor, bYes, Option.isNone_some, Option.isSome_some, Option.isNone_none, Option.isSome_none, Option.some.injEq, dEq_int, dNe_int, dEq_II, dEq_OO, dEq_OI, dEq_IO, dEq_PP, dNe_PP, dIs_O, dIsnt_O, dIs_I, dIsnt_I, dIs_non, dIsnt_non, dIn_IT, dIn_IL, dIdx_tup, dIdx_lst, dIdx_scr, dAdd_int, atI0, atI1, atI2, atI3, atI4, atI5, vw_last, get_last, set_last, app_last, ix0, ix1, ix3, ix4, w3, v0, a2] <;> rfl)) ?_)
  refine Good.seq (Good.nx (ρ := [some (.lst (ls.map encL)), some (.int k), some (encL x), some (.ref 0), none]) (h := [.lst ((wr1 ls k x ++ wr2 ls k x).map encLs)]) ?_ ?_)
  · have a3 := app (wr1 ls k x) (withL ls k { x with head := (78, 0) }) (by show 3 < 1000; decide)
    unfold wr2
    cases hc : x.ct with
    | none =>
      have w4 : ∀ h, callP 3 d_l_with [.lst (ls.map encL), .int k, .tup [encI x.id, .tup [.int 78, .int 0], encO x.ins, encP x.below, .non]] h = .ok (encLs (withL ls k { x with head := (78, 0) })) h := fun h => by
        have := W { x with head := (78, 0) } h
        unfold encL at this
        rw [hc] at this
        rw [hc]
        exact this
      rw [if_pos rfl]
      (simp only [sSeq, sIf, sB, sE, sAsg, sRet, sRetN, sNil, sExpr, sBrk, sCnt, gN, gT, gsC, gsN, FK.e1, FK.e2, eC, eVar, eCall, aNil, aCons, M.bind, M.pure, eTup, eLst, eNew, eSl, oNone, oSome, bT, bNot, bAnd, bOr, eAnd, eOr, eNot, eIf, eCh, truth, eMs, eMl, dSub, dMul, dFdiv, dMod, dLe, dLt, dGe, dGt, D.isNon, dSl, dLen, dInt, dOrd_one, dMax2, dMin2, dTuple, dList, dListC, dNeg, seq, lstOf, fnD, List.length_cons, List.length_nil, List.cons_append, List.nil_append, List.append_nil, List.replicate_succ, List.replicate_zero, List.getElem?_cons_zero, List.getElem?_cons_succ, List.set_cons_zero, List.set_cons_succ, Int.cast_ofNat_Int, Nat.reduceBEq, Int.reduceBEq, Nat.reduceAdd, Nat.reduceSub, Nat.reduceLT, Nat.reduceLeDiff, Nat.zero_add, Nat.add_zero, Nat.sub_zero, Nat.sub_self, ↓reduceIte, if_true, if_false, Bool.not_true, Bool.not_false, Bool.false_eq_true, Bool.true_eq_false, decide_true, decide_false, decide_not, true_and, and_true, and_self, true_or, or_true, not_true_eq_false, not_false_eq_true, ne_eq, reduceCtorEq, Int.reduceLT, Int.reduceLE, Int.reduceNeg, Int.reduceSub, Int.reduceAdd, Int.reduceMul, Int.reducePow, Int.reduceToNat, sz, D.dat, D.datL, D.dep, D.depL, szl, inb, List.any_cons, List.any_nil, Bool.true_and, Bool.false_and, Bool.and_true, Bool.and_false, Bool.or_false, Bool.false_or, Bool.true_or, Bool.or_true, Nat.max_self, Nat.max_zero, Nat.zero_max, Nat.min_self, Nat.zero_le, Nat.min_zero, Nat.zero_min, iR1, iR2, rng1, rng2, iE, itOf, sFor, bYes, Option.isNone_some, Option.isSome_some, Option.isNone_none, Option.isSome_none, Option.some.injEq, dEq_int, dNe_int, dEq_II, dEq_OO, dEq_OI, dEq_IO, dEq_PP, dNe_PP, dIs_O, dIsnt_O, dIs_I, dIsnt_I, dIs_non, dIsnt_non, dIn_IT, dIn_IL, dIdx_tup, dIdx_lst, dIdx_scr, dAdd_int, atI0, atI1, atI2, atI3, atI4, atI5, vw_last, get_last, set_last, app_last, ix0, ix2, ix3, ix4, hc, encC_none', w4, v0, a3] <;> rfl)
    | some m =>
      rw [if_neg (by simp), List.append_nil]
      (simp only [sSeq, sIf, sB, sE, sAsg, sRet, sRetN, sNil, sExpr, sBrk, sCnt, gN, gT, gsC, gsN, FK.e1, FK.e2, eC, eVar, eCall, aNil, aCons, M.bind, M.pure, eTup, eLst, eNew, eSl, oNone, oSome, bT, bNot, bAnd, bOr, eAnd, eOr, eNot, eIf, eCh, truth, eMs, eMl, dSub, dMul, dFdiv, dMod, dLe, dLt, dGe, dGt, D.isNon, dSl, dLen, dInt, dOrd_one, dMax2, dMin2, dTuple, dList, dListC, dApp, dNeg, vw, seq, lstOf, fnD, List.map_cons, List.map_nil, List.length_cons, List.length_nil, List.cons_append, List.nil_append, List.append_nil, List.replicate_succ, List.replicate_zero, List.getElem?_cons_zero, List.getElem?_cons_succ, List.set_cons_zero, List.set_cons_succ, Int.cast_ofNat_Int, Nat.reduceBEq, Int.reduceBEq, Nat.reduceAdd, Nat.reduceSub, Nat.reduceLT, Nat.reduceLeDiff, Nat.zero_add, Nat.add_zero, Nat.sub_zero, Nat.sub_self, ↓reduceIte, if_true, if_false, Bool.not_true, Bool.not_false, Bool.false_eq_true, Bool.true_eq_false, decide_true, decide_false, decide_not, true_and, and_true, and_self, true_or, or_true, not_true_eq_false, not_false_eq_true, ne_eq, reduceCtorEq, Int.reduceLT, Int.reduceLE, Int.reduceNeg, Int.reduceSub, Int.reduceAdd, Int.reduceMul, Int.reducePow, Int.reduceToNat, sz, D.dat, D.datL, D.dep, D.depL, szl, inb, List.any_cons, List.any_nil, Bool.true_and, Bool.false_and, Bool.and_true, Bool.and_false, Bool.or_false, Bool.false_or, Bool.true_or, Bool.or_true, Nat.max_self, Nat.max_zero, Nat.zero_max, Nat.min_self, Nat.zero_le, Nat.min_zero, Nat.zero_min, iR1, iR2, rng1, rng2, iE, itOf, sFor, bYes, Option.isNone_some, Option.isSome_some, Option.isNone_none, Option.isSome_none, Option.some.injEq, dEq_int, dNe_int, dEq_II, dEq_OO, dEq_OI, dEq_IO, dEq_PP, dNe_PP, dIs_O, dIsnt_O, dIs_I, dIsnt_I, dIs_non, dIsnt_non, dIn_IT, dIn_IL, dIdx_tup, dIdx_lst, dIdx_scr, dAdd_int, atI0, atI1, atI2, atI3, atI4, atI5, vw_last, get_last, set_last, app_last, ix4, dIs_C, hc] <;> rfl)
  have hw12 : (wr1 ls k x ++ wr2 ls k x).length ≤ 4 := by
    unfold wr1 wr2
    split <;> simp
  have hW : wrongs ls k = wr1 ls k x ++ wr2 ls k x ++ (if 0 < k then (match ls[k - 1]? with | none => [] | some b => wr3 ls k x b ++ wr4 ls k x b) else []) := by
    unfold wrongs
    rw [g1]
  rw [hW]
  generalize wr1 ls k x ++ wr2 ls k x = A at *
  by_cases hk0 : 0 < k
  · have hk1 : k - 1 < ls.length := by omega
    have g2 := List.getElem?_eq_getElem hk1
    generalize ls[k - 1] = b at g2
    rw [if_pos hk0, g2]
    dsimp only
    have e1 : ((k : Int) - 1) = ((k - 1 : Nat) : Int) := by omega
    have i2 : atI (ls.map encL) ((k : Int) - 1) = some (encL b) := by
      rw [e1]
      exact L2.atI_nat (by rw [List.getElem?_map, g2]; rfl)
    have kz : (0 : Int) < k := by omega
    obtain ⟨p1, p2, p3, p4⟩ := parts hk hl (k - 1) (by omega) [encL x, encL b] (Nat.le_refl 2) [.lst (A.map encLs)]
    rw [← e1] at p1
    have p5 : (.lst ((ls.take (k - 1)).map encL ++ [encL x, encL b] ++ (ls.drop (k + 1)).map encL) : D) = encLs (ls.take (k - 1) ++ [x, b] ++ ls.drop (k + 1)) := by
      unfold encLs
      rw [List.map_append, List.map_append]
      rfl
    rw [p5] at p4
    have a4 := app A (ls.take (k - 1) ++ [x, b] ++ ls.drop (k + 1)) (by omega)
    have w5 : ∀ h, callP 3 d_l_with [.lst (ls.map encL), .int k, .tup [encI x.id, encI b.head, encO x.ins, encP x.below, encC x.ct]] h = .ok (encLs (withL ls k { x with head := b.head })) h := fun h => W { x with head := b.head } h
    have a5 := app (A ++ [ls.take (k - 1) ++ [x, b] ++ ls.drop (k + 1)]) (withL ls k { x with head := b.head }) (by rw [List.length_append]; show A.length + 1 < _; omega)
    refine Good.seq (Good.ifT [.lst (A.map encLs)] (by (simp only [sSeq, sIf, sB, sE, sAsg, sRet, sRetN, sNil, sExpr, sBrk, sCnt, gN, gT, gsC, gsN, FK.e1, FK.e2, eC, eVar, eCall, aNil, aCons, M.bind, M.pure, eTup, eLst, eNew, eSl, oNone, oSome, bT, bNot, bAnd, bOr, eAnd, eOr, eNot, eIf, eCh, truth, eMs, eMl, dSub, dMul, dFdiv, dMod, dLe, dLt, dGe, dGt, D.isNon, dSl, dLen, dInt, dOrd_one, dMax2, dMin2, dTuple, dList, dListC, dApp, dNeg, vw, seq, lstOf, fnD, List.map_cons, List.map_nil, List.length_cons, List.length_nil, List.cons_append, List.nil_append, List.append_nil, List.replicate_succ, List.replicate_zero, List.getElem?_cons_zero, List.getElem?_cons_succ, List.set_cons_zero, List.set_cons_succ, Int.cast_ofNat_Int, Nat.reduceBEq, Int.reduceBEq, Nat.reduceAdd, Nat.reduceSub, Nat.reduceLT, Nat.reduceLeDiff, Nat.zero_add, Nat.add_zero, Nat.sub_zero, Nat.sub_self, ↓reduceIte, if_true, if_false, Bool.not_true, Bool.not_false, Bool.false_eq_true, Bool.true_eq_false, decide_true, decide_false, decide_not, true_and, and_true, and_self, true_or, or_true, not_true_eq_false, not_false_eq_true, ne_eq, reduceCtorEq, Int.reduceLT, Int.reduceLE, Int.reduceNeg, Int.reduceSub, Int.reduceAdd, Int.reduceMul, Int.reducePow, Int.reduceToNat, sz, D.dat, D.datL, D.dep, D.depL, szl, inb, List.any_cons, List.any_nil, Bool.true_and, Bool.false_and, Bool.and_true, Bool.and_false, Bool.or_false, Bool.false_or, Bool.true_or, Bool.or_true, Nat.max_self, Nat.max_zero, Nat.zero_max, Nat.min_self, Nat.zero_le, Nat.min_zero, Nat.zero_min, iR1, iR2, rng1, rng2, iE, itOf, sFor, bYes, Option.isNone_some, Option.isSome_some, Option.isNone_none, Option.isSome_none, Option.some.injEq, dEq_int, dNe_int, dEq_II, dEq_OO, dEq_OI, dEq_IO, dEq_PP, dNe_PP, dIs_O, dIsnt_O, dIs_I, dIsnt_I, dIs_non, dIsnt_non, dIn_IT, dIn_IL, dIdx_tup, dIdx_lst, dIdx_scr, dAdd_int, atI0, atI1, atI2, atI3, atI4, atI5, vw_last, get_last, set_last, app_last, kz] <;> rfl)) ?_)
    refine Good.seq (Good.nx (ρ := [some (.lst (ls.map encL)), some (.int k), some (encL x), some (.ref 0), some (encL b)]) (h := [.lst (A.map encLs)]) (by (simp only [sSeq, sIf, sB, sE, sAsg, sRet, sRetN, sNil, sExpr, sBrk, sCnt, gN, gT, gsC, gsN, FK.e1, FK.e2, eC, eVar, eCall, aNil, aCons, M.bind, M.pure, eTup, eLst, eNew, eSl, oNone, oSome, bT, bNot, bAnd, bOr, eAnd, eOr, eNot, eIf, eCh, truth, eMs, eMl, dSub, dMul, dFdiv, dMod, dLe, dLt, dGe, dGt, D.isNon, dSl, dLen, dInt, dOrd_one, dMax2, dMin2, dTuple, dList, dListC, dApp, dNeg, vw, seq, lstOf, fnD, List.map_cons, List.map_nil, List.length_cons, List.length_nil, List.cons_append, List.nil_append, List.append_nil, List.replicate_succ, List.replicate_zero, List.getElem?_cons_zero, List.getElem?_cons_succ, List.set_cons_zero, List.set_cons_succ, Int.cast_ofNat_Int, Nat.reduceBEq, Int.reduceBEq, Nat.reduceAdd, Nat.reduceSub, Nat.reduceLT, Nat.reduceLeDiff, Nat.zero_add, Nat.add_zero, Nat.sub_zero, Nat.sub_self, ↓reduceIte, if_true, if_false, Bool.not_true, Bool.not_false, Bool.false_eq_true, Bool.true_eq_false, decide_true, decide_false, decide_not, true_and, and_true, and_self, true_or, or_true, not_true_eq_false, not_false_eq_true, ne_eq, reduceCtorEq, Int.reduceLT, Int.reduceLE, Int.reduceNeg, Int.reduceSub, Int.reduceAdd, Int.reduceMul, Int.reducePow, Int.reduceToNat, sz, D.dat, D.datL, D.dep, D.depL, szl, inb, List.any_cons, List.any_nil, Bool.true_and, Bool.false_and, Bool.and_true, Bool.and_false, Bool.or_false, Bool.false_or, Bool.true_or, Bool.or_true, Nat.max_self, Nat.max_zero, Nat.zero_max, Nat.min_self, Nat.zero_le, Nat.min_zero, Nat.zero_min, iR1, iR2, rng1, rng2, iE, itOf, sFor, bYes, Option.isNone_some, Option.isSome_some, Option.isNone_none, Option.isSome_none, Option.some.injEq, dEq_int, dNe_int, dEq_II, dEq_OO, dEq_OI, dEq_IO, dEq_PP, dNe_PP, dIs_O, dIsnt_O, dIs_I, dIsnt_I, dIs_non, dIsnt_non, dIn_IT, dIn_IL, dIdx_tup, dIdx_lst, dIdx_scr, dAdd_int, atI0, atI1, atI2, atI3, atI4, atI5, vw_last, get_last, set_last, app_last, i2] <;> rfl)) ?_)
    refine Good.seq (Good.nx (ρ := [some (.lst (ls.map encL)), some (.int k), some (encL x), some (.ref 0), some (encL b)]) (h := [.lst ((A ++ [ls.take (k - 1) ++ [x, b] ++ ls.drop (k + 1)]).map encLs)]) (by (simp only [sSeq, sIf, sB, sE, sAsg, sRet, sRetN, sNil, sExpr, sBrk, sCnt, gN, gT, gsC, gsN, FK.e1, FK.e2, eC, eVar, eCall, aNil, aCons, M.bind, M.pure, eTup, eLst, eNew, eSl, oNone, oSome, bT, bNot, bAnd, bOr, eAnd, eOr, eNot, eIf, eCh, truth, eMs, eMl, dSub, dMul, dFdiv, dMod, dLe, dLt, dGe, dGt, D.isNon, dLen, dInt, dOrd_one, dMax2, dMin2, dTuple, dList, dListC, dNeg, seq, lstOf, fnD, List.map_cons, List.map_nil, List.length_cons, List.length_nil, List.cons_append, List.nil_append, List.append_nil, List.replicate_succ, List.replicate_zero, List.getElem?_cons_zero, List.getElem?_cons_succ, List.set_cons_zero, List.set_cons_succ, Int.cast_ofNat_Int, Nat.reduceBEq, Int.reduceBEq, Nat.reduceAdd, Nat.reduceSub, Nat.reduceLT, Nat.reduceLeDiff, Nat.zero_add, Nat.add_zero, Nat.sub_zero, Nat.sub_self, ↓reduceIte, if_true, if_false, Bool.not_true, Bool.not_false, Bool.false_eq_true, Bool.true_eq_false, decide_true, decide_false, decide_not, true_and, and_true, and_self, true_or, or_true, not_true_eq_false, not_false_eq_true, ne_eq, reduceCtorEq, Int.reduceLT, Int.reduceLE, Int.reduceNeg, Int.reduceSub, Int.reduceAdd, Int.reduceMul, Int.reducePow, Int.reduceToNat, sz, D.dat, D.datL, D.dep, D.depL, szl, inb, List.any_cons, List.any_nil, Bool.true_and, Bool.false_and, Bool.and_true, Bool.and_false, Bool.or_false, Bool.false_or, Bool.true_or, Bool.or_true, Nat.max_self, Nat.max_zero, Nat.zero_max, Nat.min_self, Nat.zero_le, Nat.min_zero, Nat.zero_min, iR1, iR2, rng1, rng2, iE, itOf, sFor, bYes, Option.isNone_some, Option.isSome_some, Option.isNone_none, Option.isSome_none, Option.some.injEq, dEq_int, dNe_int, dEq_II, dEq_OO, dEq_OI, dEq_IO, dEq_PP, dNe_PP, dIs_O, dIsnt_O, dIs_I, dIsnt_I, dIs_non, dIsnt_non, dIn_IT, dIn_IL, dIdx_tup, dIdx_lst, dIdx_scr, dAdd_int, atI0, atI1, atI2, atI3, atI4, atI5, vw_last, get_last, set_last, app_last, p1, p2, p3, p4, v0, a4] <;> rfl)) ?_)
    refine Good.seq (Good.nx (ρ := [some (.lst (ls.map encL)), some (.int k), some (encL x), some (.ref 0), some (encL b)]) (h := [.lst ((A ++ [ls.take (k - 1) ++ [x, b] ++ ls.drop (k + 1)] ++ [withL ls k { x with head := b.head }]).map encLs)]) (by (simp only [sSeq, sIf, sB, sE, sAsg, sRet, sRetN, sNil, sExpr, sBrk, sCnt, gN, gT, gsC, gsN, FK.e1, FK.e2, eC, eVar, eCall, aNil, aCons, M.bind, M.pure, eTup, eLst, eNew, eSl, oNone, oSome, bT, bNot, bAnd, bOr, eAnd, eOr, eNot, eIf, eCh, truth, eMs, eMl, dSub, dMul, dFdiv, dMod, dLe, dLt, dGe, dGt, D.isNon, dSl, dLen, dInt, dOrd_one, dMax2, dMin2, dTuple, dList, dListC, dNeg, seq, lstOf, fnD, List.map_cons, List.map_nil, List.length_cons, List.length_nil, List.cons_append, List.nil_append, List.append_nil, List.replicate_succ, List.replicate_zero, List.getElem?_cons_zero, List.getElem?_cons_succ, List.set_cons_zero, List.set_cons_succ, Int.cast_ofNat_Int, Nat.reduceBEq, Int.reduceBEq, Nat.reduceAdd, Nat.reduceSub, Nat.reduceLT, Nat.reduceLeDiff, Nat.zero_add, Nat.add_zero, Nat.sub_zero, Nat.sub_self, ↓reduceIte, if_true, if_false, Bool.not_true, Bool.not_false, Bool.false_eq_true, Bool.true_eq_false, decide_true, decide_false, decide_not, true_and, and_true, and_self, true_or, or_true, not_true_eq_false, not_false_eq_true, ne_eq, reduceCtorEq, Int.reduceLT, Int.reduceLE, Int.reduceNeg, Int.reduceSub, Int.reduceAdd, Int.reduceMul, Int.reducePow, Int.reduceToNat, sz, D.dat, D.datL, D.dep, D.depL, szl, inb, List.any_cons, List.any_nil, Bool.true_and, Bool.false_and, Bool.and_true, Bool.and_false, Bool.or_false, Bool.false_or, Bool.true_or, Bool.or_true, Nat.max_self, Nat.max_zero, Nat.zero_max, Nat.min_self, Nat.zero_le, Nat.min_zero, Nat.zero_min, iR1, iR2, rng1, rng2, iE, itOf, sFor, bYes, Option.isNone_some, Option.isSome_some, Option.isNone_none, Option.isSome_none, Option.some.injEq, dEq_int, dNe_int, dEq_II, dEq_OO, dEq_OI, dEq_IO, dEq_PP, dNe_PP, dIs_O, dIsnt_O, dIs_I, dIsnt_I, dIs_non, dIsnt_non, dIn_IT, dIn_IL, dIdx_tup, dIdx_lst, dIdx_scr, dAdd_int, atI0, atI1, atI2, atI3, atI4, atI5, vw_last, get_last, set_last, app_last, ix0, ix1, ix2, ix3, ix4, w5, v0, a5] <;> rfl)) ?_)
    have eqA : A ++ [ls.take (k - 1) ++ [x, b] ++ ls.drop (k + 1)] ++ [withL ls k { x with head := b.head }] = A ++ wr3 ls k x b := by
      rw [List.append_assoc]; rfl
    rw [eqA]
    have hA3 : (A ++ wr3 ls k x b).length ≤ 6 := by
      rw [List.length_append]
      show A.length + 2 ≤ 6
      omega
    rw [← List.append_assoc]
    generalize A ++ wr3 ls k x b = B at *
    unfold wr4
    cases hc : b.ct with
    | none =>
      rw [if_pos rfl, List.append_nil]
      exact Good.nx (h := [.lst (B.map encLs)]) (by (simp only [sSeq, sIf, sB, sE, sAsg, sRet, sRetN, sNil, sExpr, sBrk, sCnt, gN, gT, gsC, gsN, FK.e1, FK.e2, eC, eVar, eCall, aNil, aCons, M.bind, M.pure, eTup, eLst, eNew, eSl, oNone, oSome, bT, bNot, bAnd, bOr, eAnd, eOr, eNot, eIf, eCh, truth, eMs, eMl, dSub, dMul, dFdiv, dMod, dLe, dLt, dGe, dGt, D.isNon, dSl, dLen, dInt, dOrd_one, dMax2, dMin2, dTuple, dList, dListC, dApp, dNeg, vw, seq, lstOf, fnD, List.map_cons, List.map_nil, List.length_cons, List.length_nil, List.cons_append, List.nil_append, List.append_nil, List.replicate_succ, List.replicate_zero, List.getElem?_cons_zero, List.getElem?_cons_succ, List.set_cons_zero, List.set_cons_succ, Int.cast_ofNat_Int, Nat.reduceBEq, Int.reduceBEq, Nat.reduceAdd, Nat.reduceSub, Nat.reduceLT, Nat.reduceLeDiff, Nat.zero_add, Nat.add_zero, Nat.sub_zero, Nat.sub_self, ↓reduceIte, if_true, if_false, Bool.not_true, Bool.not_false, Bool.false_eq_true, Bool.true_eq_false, decide_true, decide_false, decide_not, true_and, and_true, and_self, true_or, or_true, not_true_eq_false, not_false_eq_true, ne_eq, reduceCtorEq, Int.reduceLT, Int.reduceLE, Int.reduceNeg, Int.reduceSub, Int.reduceAdd, Int.reduceMul, Int.reducePow, Int.reduceToNat, sz, D.dat, D.datL, D.dep, D.depL, szl, inb, List.any_cons, List.any_nil, Bool.true_and, Bool.false_and, Bool.and_true, Bool.and_false, Bool.or_false, Bool.false_or, Bool.true_or, Bool.or_true, Nat.max_self, Nat.max_zero, Nat.zero_max, Nat.min_self, Nat.zero_le, Nat.min_zero, Nat.zero_min, iR1, iR2, rng1, rng2, iE, itOf, sFor, bYes, Option.isNone_some, Option.isSome_some, Option.isNone_none, Option.isSome_none, Option.some.injEq, dEq_int, dNe_int, dEq_II, dEq_OO, dEq_OI, dEq_IO, dEq_PP, dNe_PP, dIs_O, dIsnt_O, dIs_I, dIsnt_I, dIs_non, dIsnt_non, dIn_IT, dIn_IL, dIdx_tup, dIdx_lst, dIdx_scr, dAdd_int, atI0, atI1, atI2, atI3, atI4, atI5, vw_last, get_last, set_last, app_last, ix4, hc, encC_none'] <;> rfl)) (Good.rt (by (simp only [sSeq, sIf, sB, sE, sAsg, sRet, sRetN, sNil, sExpr, sBrk, sCnt, gN, gT, gsC, gsN, FK.e1, FK.e2, eC, eVar, eCall, aNil, aCons, M.bind, M.pure, eTup, eLst, eNew, eSl, oNone, oSome, bT, bNot, bAnd, bOr, eAnd, eOr, eNot, eIf, eCh, truth, eMs, eMl, dSub, dMul, dFdiv, dMod, dLe, dLt, dGe, dGt, D.isNon, dSl, dLen, dInt, dOrd_one, dMax2, dMin2, dTuple, dList, dListC, dApp, dNeg, vw, seq, lstOf, fnD, List.map_cons, List.map_nil, List.length_cons, List.length_nil, List.cons_append, List.nil_append, List.append_nil, List.replicate_succ, List.replicate_zero, List.getElem?_cons_zero, List.getElem?_cons_succ, List.set_cons_zero, List.set_cons_succ, Int.cast_ofNat_Int, Nat.reduceBEq, Int.reduceBEq, Nat.reduceAdd, Nat.reduceSub, Nat.reduceLT, Nat.reduceLeDiff, Nat.zero_add, Nat.add_zero, Nat.sub_zero, Nat.sub_self, ↓reduceIte, if_true, if_false, Bool.not_true, Bool.not_false, Bool.false_eq_true, Bool.true_eq_false, decide_true, decide_false, decide_not, true_and, and_true, and_self, true_or, or_true, not_true_eq_false, not_false_eq_true, ne_eq, reduceCtorEq, Int.reduceLT, Int.reduceLE, Int.reduceNeg, Int.reduceSub, Int.reduceAdd, Int.reduceMul, Int.reducePow, Int.reduceToNat, sz, D.dat, D.datL, D.dep, D.depL, szl, inb, List.any_cons, List.any_nil, Bool.true_and, Bool.false_and, Bool.and_true, Bool.and_false, Bool.or_false, Bool.false_or, Bool.true_or, Bool.or_true, Nat.max_self, Nat.max_zero, Nat.zero_max, Nat.min_self, Nat.zero_le, Nat.min_zero, Nat.zero_min, iR1, iR2, rng1, rng2, iE, itOf, sFor, bYes, Option.isNone_some, Option.isSome_some, Option.isNone_none, Option.isSome_none, Option.some.injEq, dEq_int, dNe_int, dEq_II, dEq_OO, dEq_OI, dEq_IO, dEq_PP, dNe_PP, dIs_O, dIsnt_O, dIs_I, dIsnt_I, dIs_non, dIsnt_non, dIn_IT, dIn_IL, dIdx_tup, dIdx_lst, dIdx_scr, dAdd_int, atI0, atI1, atI2, atI3, atI4, atI5, vw_last, get_last, set_last, app_last] <;> rfl)) ⟨rfl, rfl⟩)
    | some m =>
      have w6 : ∀ h, callP 3 d_l_with [.lst (ls.map encL), .int k, .tup [encI x.id, encI x.head, encI b.id, encP x.below, encC x.ct]] h = .ok (encLs (withL ls k { x with ins := some b.id })) h := fun h => W { x with ins := some b.id } h
      have a6 := app B (withL ls k { x with ins := some b.id }) (by omega)
      rw [if_neg (by simp)]
      exact Good.nx (h := [.lst ((B ++ [withL ls k { x with ins := some b.id }]).map encLs)]) (by (simp only [sSeq, sIf, sB, sE, sAsg, sRet, sRetN, sNil, sExpr, sBrk, sCnt, gN, gT, gsC, gsN, FK.e1, FK.e2, eC, eVar, eCall, aNil, aCons, M.bind, M.pure, eTup, eLst, eNew, eSl, oNone, oSome, bT, bNot, bAnd, bOr, eAnd, eOr, eNot, eIf, eCh, truth, eMs, eMl, dSub, dMul, dFdiv, dMod, dLe, dLt, dGe, dGt, D.isNon, dSl, dLen, dInt, dOrd_one, dMax2, dMin2, dTuple, dList, dListC, dNeg, seq, lstOf, fnD, List.map_cons, List.map_nil, List.length_cons, List.length_nil, List.cons_append, List.nil_append, List.append_nil, List.replicate_succ, List.replicate_zero, List.getElem?_cons_zero, List.getElem?_cons_succ, List.set_cons_zero, List.set_cons_succ, Int.cast_ofNat_Int, Nat.reduceBEq, Int.reduceBEq, Nat.reduceAdd, Nat.reduceSub, Nat.reduceLT, Nat.reduceLeDiff, Nat.zero_add, Nat.add_zero, Nat.sub_zero, Nat.sub_self, ↓reduceIte, if_true, if_false, Bool.not_true, Bool.not_false, Bool.false_eq_true, Bool.true_eq_false, decide_true, decide_false, decide_not, true_and, and_true, and_self, true_or, or_true, not_true_eq_false, not_false_eq_true, ne_eq, reduceCtorEq, Int.reduceLT, Int.reduceLE, Int.reduceNeg, Int.reduceSub, Int.reduceAdd, Int.reduceMul, Int.reducePow, Int.reduceToNat, sz, D.dat, D.datL, D.dep, D.depL, szl, inb, List.any_cons, List.any_nil, Bool.true_and, Bool.false_and, Bool.and_true, Bool.and_false, Bool.or_false, Bool.false_or, Bool.true_or, Bool.or_true, Nat.max_self, Nat.max_zero, Nat.zero_max, Nat.min_self, Nat.zero_le, Nat.min_zero, Nat.zero_min, iR1, iR2, rng1, rng2, iE, itOf, sFor, bYes, Option.isNone_some, Option.isSome_some, Option.isNone_none, Option.isSome_none, Option.some.injEq, dEq_int, dNe_int, dEq_II, dEq_OO, dEq_OI, dEq_IO, dEq_PP, dNe_PP, dIs_O, dIsnt_O, dIs_I, dIsnt_I, dIs_non, dIsnt_non, dIn_IT, dIn_IL, dIdx_tup, dIdx_lst, dIdx_scr, dAdd_int, atI0, atI1, atI2, atI3, atI4, atI5, vw_last, get_last, set_last, app_last, ix0, ix1, ix3, ix4, hc, dIsnt_C, w6, v0, a6] <;> rfl)) (Good.rt (by (simp only [sSeq, sIf, sB, sE, sAsg, sRet, sRetN, sNil, sExpr, sBrk, sCnt, gN, gT, gsC, gsN, FK.e1, FK.e2, eC, eVar, eCall, aNil, aCons, M.bind, M.pure, eTup, eLst, eNew, eSl, oNone, oSome, bT, bNot, bAnd, bOr, eAnd, eOr, eNot, eIf, eCh, truth, eMs, eMl, dSub, dMul, dFdiv, dMod, dLe, dLt, dGe, dGt, D.isNon, dSl, dLen, dInt, dOrd_one, dMax2, dMin2, dTuple, dList, dListC, dApp, dNeg, vw, seq, lstOf, fnD, List.map_cons, List.map_nil, List.length_cons, List.length_nil, List.cons_append, List.nil_append, List.append_nil, List.replicate_succ, List.replicate_zero, List.getElem?_cons_zero, List.getElem?_cons_succ, List.set_cons_zero, List.set_cons_succ, Int.cast_ofNat_Int, Nat.reduceBEq, Int.reduceBEq, Nat.reduceAdd, Nat.reduceSub, Nat.reduceLT, Nat.reduceLeDiff, Nat.zero_add, Nat.add_zero, Nat.sub_zero, Nat.sub_self, ↓reduceIte, if_true, if_false, Bool.not_true, Bool.not_false, Bool.false_eq_true, Bool.true_eq_false, decide_true, decide_false, decide_not, true_and, and_true, and_self, true_or, or_true, not_true_eq_false, not_false_eq_true, ne_eq, reduceCtorEq, Int.reduceLT, Int.reduceLE, Int.reduceNeg, Int.reduceSub, Int.reduceAdd, Int.reduceMul, Int.reducePow, Int.reduceToNat, sz, D.dat, D.datL, D.dep, D.depL, szl, inb, List.any_cons, List.any_nil, Bool.true_and, Bool.false_and, Bool.and_true, Bool.and_false, Bool.or_false, Bool.false_or, Bool.true_or, Bool.or_true, Nat.max_self, Nat.max_zero, Nat.zero_max, Nat.min_self, Nat.zero_le, Nat.min_zero, Nat.zero_min, iR1, iR2, rng1, rng2, iE, itOf, sFor, bYes, Option.isNone_some, Option.isSome_some, Option.isNone_none, Option.isSome_none, Option.some.injEq, dEq_int, dNe_int, dEq_II, dEq_OO, dEq_OI, dEq_IO, dEq_PP, dNe_PP, dIs_O, dIsnt_O, dIs_I, dIsnt_I, dIs_non, dIsnt_non, dIn_IT, dIn_IL, dIdx_tup, dIdx_lst, dIdx_scr, dAdd_int, atI0, atI1, atI2, atI3, atI4, atI5, vw_last, get_last, set_last, app_last] <;> rfl)) ⟨rfl, rfl⟩)
  · have kz : ¬ (0 : Int) < k := by omega
    rw [if_neg hk0, List.append_nil]
    exact Good.seq (Good.nx (h := [.lst (A.map encLs)]) (by (simp only [sSeq, sIf, sB, sE, sAsg, sRet, sRetN, sNil, sExpr, sBrk, sCnt, gN, gT, gsC, gsN, FK.e1, FK.e2, eC, eVar, eCall, aNil, aCons, M.bind, M.pure, eTup, eLst, eNew, eSl, oNone, oSome, bT, bNot, bAnd, bOr, eAnd, eOr, eNot, eIf, eCh, truth, eMs, eMl, dSub, dMul, dFdiv, dMod, dLe, dLt, dGe, dGt, D.isNon, dSl, dLen, dInt, dOrd_one, dMax2, dMin2, dTuple, dList, dListC, dApp, dNeg, vw, seq, lstOf, fnD, List.map_cons, List.map_nil, List.length_cons, List.length_nil, List.cons_append, List.nil_append, List.append_nil, List.replicate_succ, List.replicate_zero, List.getElem?_cons_zero, List.getElem?_cons_succ, List.set_cons_zero, List.set_cons_succ, Int.cast_ofNat_Int, Nat.reduceBEq, Int.reduceBEq, Nat.reduceAdd, Nat.reduceSub, Nat.reduceLT, Nat.reduceLeDiff, Nat.zero_add, Nat.add_zero, Nat.sub_zero, Nat.sub_self, ↓reduceIte, if_true, if_false, Bool.not_true, Bool.not_false, Bool.false_eq_true, Bool.true_eq_false, decide_true, decide_false, decide_not, true_and, and_true, and_self, true_or, or_true, not_true_eq_false, not_false_eq_true, ne_eq, reduceCtorEq, Int.reduceLT, Int.reduceLE, Int.reduceNeg, Int.reduceSub, Int.reduceAdd, Int.reduceMul, Int.reducePow, Int.reduceToNat, sz, D.dat, D.datL, D.dep, D.depL, szl, inb, List.any_cons, List.any_nil, Bool.true_and, Bool.false_and, Bool.and_true, Bool.and_false, Bool.or_false, Bool.false_or, Bool.true_or, Bool.or_true, Nat.max_self, Nat.max_zero, Nat.zero_max, Nat.min_self, Nat.zero_le, Nat.min_zero, Nat.zero_min, iR1, iR2, rng1, rng2, iE, itOf, sFor, bYes, Option.isNone_some, Option.isSome_some, Option.isNone_none, Option.isSome_none, Option.some.injEq, dEq_int, dNe_int, dEq_II, dEq_OO, dEq_OI, dEq_IO, dEq_PP, dNe_PP, dIs_O, dIsnt_O, dIs_I, dIsnt_I, dIs_non, dIsnt_non, dIn_IT, dIn_IL, dIdx_tup, dIdx_lst, dIdx_scr, dAdd_int, atI0, atI1, atI2, atI3, atI4, atI5, vw_last, get_last, set_last, app_last, kz] <;> rfl)) (Good.rt (by (simp only [sSeq, sIf, sB, sE, sAsg, sRet, sRetN, sNil, sExpr, sBrk, sCnt, gN, gT, gsC, gsN, FK.e1, FK.e2, eC, eVar, eCall, aNil, aCons, M.bind, M.pure, eTup, eLst, eNew, eSl, oNone, oSome, bT, bNot, bAnd, bOr, eAnd, eOr, eNot, eIf, eCh, truth, eMs, eMl, dSub, dMul, dFdiv, dMod, dLe, dLt, dGe, dGt, D.isNon, dSl, dLen, dInt, dOrd_one, dMax2, dMin2, dTuple, dList, dListC, dApp, dNeg, vw, seq, lstOf, fnD, List.map_cons, List.map_nil, List.length_cons, List.length_nil, List.cons_append, List.nil_append, List.append_nil, List.replicate_succ, List.replicate_zero, List.getElem?_cons_zero, List.getElem?_cons_succ, List.set_cons_zero, List.set_cons_succ, Int.cast_ofNat_Int, Nat.reduceBEq, Int.reduceBEq, Nat.reduceAdd, Nat.reduceSub, Nat.reduceLT, Nat.reduceLeDiff, Nat.zero_add, Nat.add_zero, Nat.sub_zero, Nat.sub_self, ↓reduceIte, if_true, if_false, Bool.not_true, Bool.not_false, Bool.false_eq_true, Bool.true_eq_false, decide_true, decide_false, decide_not, true_and, and_true, and_self, true_or, or_true, not_true_eq_false, not_false_eq_true, ne_eq, reduceCtorEq, Int.reduceLT, Int.reduceLE, Int.reduceNeg, Int.reduceSub, Int.reduceAdd, Int.reduceMul, Int.reducePow, Int.reduceToNat, sz, D.dat, D.datL, D.dep, D.depL, szl, inb, List.any_cons, List.any_nil, Bool.true_and, Bool.false_and, Bool.and_true, Bool.and_false, Bool.or_false, Bool.false_or, Bool.true_or, Bool.or_true, Nat.max_self, Nat.max_zero, Nat.zero_max, Nat.min_self, Nat.zero_le, Nat.min_zero, Nat.zero_min, iR1, iR2, rng1, rng2, iE, itOf, sFor, bYes, Option.isNone_some, Option.isSome_some, Option.isNone_none, Option.isSome_none, Option.some.injEq, dEq_int, dNe_int, dEq_II, dEq_OO, dEq_OI, dEq_IO, dEq_PP, dNe_PP, dIs_O, dIsnt_O, dIs_I, dIsnt_I, dIs_non, dIsnt_non, dIn_IT, dIn_IL, dIdx_tup, dIdx_lst, dIdx_scr, dAdd_int, atI0, atI1, atI2, atI3, atI4, atI5, vw_last, get_last, set_last, app_last] <;> rfl)) ⟨rfl, rfl⟩))
/-! what holds of lines behind each edit -/
structure I14 (ls : List Ln) : Prop where
  asc : (ls.map Ln.id).Pairwise (fun a b => ltI a b = true)
  hd : (ls.map Ln.head).Nodup
  bl : ∀ l ∈ ls, l.below ≠ []
  fh : ∀ l ∈ ls, l.ct = none → l.head = l.id
theorem I14.endL {ls : List Ln} (i : I14 ls) {g : Ln} (hg : g ∈ ls) : I14 (endL ls g) := by
  refine ⟨by rw [ids_endL]; exact List.Pairwise.filter _ i.asc, List.Sublist.nodup (heads_endL ls g) i.hd, fun x hx => ?_, fun x hx hc => ?_⟩
  · obtain ⟨l, hl, h1, ⟨h2, rfl⟩ | ⟨h2, rfl⟩⟩ := mem_endL.mp hx
    · intro z
      exact i.bl g hg (List.append_eq_nil_iff.mp z).1
    · exact i.bl _ hl
  · obtain ⟨l, hl, h1, ⟨h2, rfl⟩ | ⟨h2, rfl⟩⟩ := mem_endL.mp hx
    · exact i.fh l hl hc
    · exact i.fh _ hl hc
theorem I14.endHs : ∀ (hs : List Id) {ls : List Ln}, I14 ls → I14 (endHs ls hs)
  | [], ls, i => i
  | h :: hs, ls, i => by
    refine I14.endHs hs (ls := endH ls h) ?_
    unfold endH
    split
    · rename_i g e
      exact i.endL (fhead_mem e).1
    · exact i
theorem settle_ne {ls : List Ln} {p : Pc} (h : okPn p) : (settleF ls p).2 ≠ [] := by
  unfold settleF
  split
  · exact h.1
  · exact h.2
theorem I14.wr0 {n : Nat} {ls : List Ln} (w : Snd n ls) (i : I14 ls) {id : Id} {pl : Pc} {ct : Option Mk4} {meant : Option Id} {reps : List Id} (hp : okPn pl) (gt : ∀ l ∈ ls, ltI l.id id = true) (hf : ((FK.wr0 ls id pl ct meant reps).map Ln.head).Nodup) : I14 (FK.wr0 ls id pl ct meant reps) := by
  refine ⟨?_, hf, ?_, ?_⟩ <;> unfold FK.wr0 <;> split
  · rw [ids_map fun l => by split <;> rfl]
    exact i.asc
  · rw [List.map_append, List.map_cons, List.map_nil, newL_id]
    refine List.pairwise_append.mpr ⟨i.asc, by simp, fun a ha b hb => ?_⟩
    obtain ⟨l, hl, rfl⟩ := List.mem_map.mp ha
    rw [List.mem_singleton.mp hb]
    exact gt l hl
  · intro x hx
    obtain ⟨l, hl, rfl⟩ := List.mem_map.mp hx
    split <;> exact i.bl l hl
  · intro x hx
    rcases List.mem_append.mp hx with h | h
    · exact i.bl x h
    · rw [List.mem_singleton.mp h]
      unfold newL
      split
      · rename_i l q
        exact i.bl l (fline_mem q).1
      · exact settle_ne hp
  · rename_i g q
    obtain ⟨hg, hgc, hc⟩ := goOn_some q
    intro x hx
    obtain ⟨l, hl, rfl⟩ := List.mem_map.mp hx
    split
    · exact fun z => absurd z hc
    · exact i.fh l hl
  · intro x hx
    rcases List.mem_append.mp hx with h | h
    · exact i.fh x h
    · rw [List.mem_singleton.mp h]
      intro _
      unfold newL
      split <;> rfl
theorem I14.moveL {ls : List Ln} (i : I14 ls) (m : Option Id × Option Id × Pc) (hp : okPn m.2.2) : I14 (moveL ls m) := by
  unfold FK.moveL
  split
  · exact i
  · split
    · exact i
    · refine ⟨by rw [ids_map fun l => by split <;> rfl]; exact i.asc, ?_, ?_, ?_⟩
      · rw [List.map_map]
        have : ∀ (o : Option Id) (b : List Str) (g : Id), (Ln.head ∘ fun x : Ln => if x.id = g then { x with ins := o, below := b } else x) = Ln.head := by
          intro o b g
          funext l
          show Ln.head (if _ then _ else _) = _
          split <;> rfl
        rw [this]
        exact i.hd
      · intro x hx
        obtain ⟨l, hl, rfl⟩ := List.mem_map.mp hx
        split
        · exact settle_ne hp
        · exact i.bl l hl
      · intro x hx
        obtain ⟨l, hl, rfl⟩ := List.mem_map.mp hx
        split
        · exact i.fh l hl
        · exact i.fh l hl
theorem I14.moves : ∀ (ms : List (Option Id × Option Id × Pc)) {ls : List Ln}, I14 ls → (∀ m ∈ ms, okPn m.2.2) → I14 (ms.foldl FK.moveL ls)
  | [], ls, i, _ => i
  | m :: ms, ls, i, h => I14.moves ms (i.moveL m (h m List.mem_cons_self)) fun x hx => h x (List.mem_cons_of_mem _ hx)
theorem heads_wr0 {n : Nat} {ls : List Ln} (w : Snd n ls) {id : Id} {pl : Pc} {ct : Option Mk4} {meant : Option Id} (nd : (ls.map Ln.head).Nodup) (fr : ∀ l ∈ ls, l.head ≠ id) (reps : List Id) : ((FK.wr0 ls id pl ct meant reps).map Ln.head).Nodup ∧ id ∈ (FK.wr0 ls id pl ct meant reps).map Ln.head := by
  unfold FK.wr0
  split
  · rename_i g q
    obtain ⟨hg, _, _⟩ := goOn_some q
    refine ⟨?_, List.mem_map.mpr ⟨_, List.mem_map.mpr ⟨g, hg, rfl⟩, by rw [if_pos rfl]⟩⟩
    rw [List.map_map]
    have aux : ∀ xs : List Ln, (∀ x ∈ xs, x ∈ ls) → (xs.map Ln.id).Nodup → (xs.map Ln.head).Nodup → (xs.map (Ln.head ∘ fun l => if l.id = g.id then { l with head := id, ct := ct } else l)).Nodup := by
      intro xs
      induction xs with
      | nil => intro _ _ _; exact List.nodup_nil
      | cons x xs ih =>
        intro hx h1 h2
        rw [List.map_cons, List.nodup_cons] at h1 h2 ⊢
        refine ⟨fun z => ?_, ih (fun y hy => hx y (List.mem_cons_of_mem _ hy)) h1.2 h2.2⟩
        obtain ⟨y, hy, e⟩ := List.mem_map.mp z
        have hyl := hx y (List.mem_cons_of_mem _ hy)
        have hxl := hx x List.mem_cons_self
        have e : (if y.id = g.id then ({ y with head := id, ct := ct } : Ln) else y).head = (if x.id = g.id then ({ x with head := id, ct := ct } : Ln) else x).head := e
        by_cases a : y.id = g.id <;> by_cases b : x.id = g.id
        · exact h1.1 (List.mem_map.mpr ⟨y, hy, a.trans b.symm⟩)
        · rw [if_pos a, if_neg b] at e
          exact fr x hxl e.symm
        · rw [if_neg a, if_pos b] at e
          exact fr y hyl e
        · rw [if_neg a, if_neg b] at e
          exact h2.1 (List.mem_map.mpr ⟨y, hy, e⟩)
    exact aux ls (fun _ h => h) w.nd nd
  · have hN : (newL ls id pl ct meant).head = id := by unfold newL; split <;> rfl
    refine ⟨?_, by rw [List.map_append, List.map_cons, hN]; simp⟩
    rw [List.map_append, List.map_cons, List.map_nil, hN]
    refine List.nodup_append.mpr ⟨nd, by simp, fun a ha b hb e => ?_⟩
    obtain ⟨l, hl, rfl⟩ := List.mem_map.mp ha
    rw [List.mem_singleton.mp hb] at e
    exact fr l hl e
def repl : Ed → List Id
  | .write _ _ _ _ rs => rs
  | .drop _ hs => hs
  | .move _ _ => []
theorem heads_of_rows {n : Nat} {ls : List Ln} (w : Snd n ls) (nd : (ls.map Ln.head).Nodup) (hs : List Id) : (endHs ls hs).map Ln.head = (ls.filter fun l => decide (l.head ∉ hs)).map Ln.head := by
  have := congrArg (List.map fun t : Id × Id × Option Mk4 × List Str => t.2.1) (rows_endHs hs w nd)
  rw [List.map_map, List.map_map] at this
  exact this
theorem out_heads {n : Nat} {ls : List Ln} (w : Snd n ls) (nd : (ls.map Ln.head).Nodup) (hs : List Id) : ∀ h ∈ hs, h ∉ (endHs ls hs).map Ln.head := by
  intro h hh z
  rw [heads_of_rows w nd hs] at z
  obtain ⟨l, hl, rfl⟩ := List.mem_map.mp z
  exact of_decide_eq_true (List.mem_filter.mp hl).2 hh
theorem I14.after {n : Nat} {ls : List Ln} (w : Snd n ls) (i : I14 ls) {e : Ed} (he : okE e) {is : List Id} (hN : okN is e) (hn : e.id ∉ is) (gt : ∀ l ∈ ls, ltI l.id e.id = true) (fh : ∀ l ∈ ls, l.head ≠ e.id) :
    I14 (afterL ls e) ∧ (∀ h ∈ repl e, h ∉ (afterL ls e).map Ln.head) ∧ ((∃ a b c d f, e = .write a b c d f) → e.id ∈ (afterL ls e).map Ln.head) := by
  have fresh : ∀ l ∈ ls, l.id ≠ e.id := fun l hl z => by
    have := gt l hl
    rw [z] at this
    have h2 := ltI_irr _ _ this
    rw [this] at h2
    cases h2
  cases e with
  | write id pl ct meant reps =>
    have w0 : Snd (n + 3) (FK.wr0 ls id pl ct meant reps) := w.wr0 (ct := ct) (meant := meant) (reps := reps) fresh he.1
    have fh : ∀ l ∈ ls, l.head ≠ id := fh
    have hn : id ∉ is := hn
    obtain ⟨h1, h2⟩ := heads_wr0 w (pl := pl) (ct := ct) (meant := meant) i.hd fh reps
    have i0 := i.wr0 w (ct := ct) (meant := meant) (reps := reps) hN.1 gt h1
    refine ⟨I14.endHs reps i0, out_heads w0 h1 reps, fun _ => ?_⟩
    show id ∈ (FK.endHs _ reps).map Ln.head
    rw [heads_of_rows w0 h1]
    obtain ⟨l, hl, e⟩ := List.mem_map.mp h2
    exact List.mem_map.mpr ⟨l, List.mem_filter.mpr ⟨hl, decide_eq_true fun z => hn (by rw [e] at z; exact hN.2 _ z)⟩, e⟩
  | drop id hs => exact ⟨I14.endHs hs i, out_heads w i.hd hs, fun ⟨_, _, _, _, _, z⟩ => nomatch z⟩
  | move id ms => exact ⟨I14.moves ms i hN, fun h z => (by cases z), fun ⟨_, _, _, _, _, z⟩ => nomatch z⟩
theorem rtd_of {ls : List Ln} {r : Id → Nat} (nd : (ls.map Ln.id).Nodup) (hi : ∀ l ∈ ls, ∀ i, l.ins = some i → ∃ f ∈ ls, f.id = i ∧ f.ct = none) (hr : ∀ l ∈ ls, ∀ i, l.ins = some i → r i < r l.id) : ∀ (n : Nat) (i : Id), (∃ f ∈ ls, f.id = i ∧ f.ct = none) →
    (ls.filter fun x => decide (r x.id ≤ r i)).length < n → rtd ls n (some i) = true
  | 0, i, _, h => absurd h (Nat.not_lt_zero _)
  | n + 1, i, ⟨f, hf, e, hc⟩, h => by
    subst e
    unfold rtd
    rw [ffold_of nd hf hc]
    dsimp only
    cases e : f.ins with
    | none =>
      have pos : 0 < (ls.filter fun x => decide (r x.id ≤ r f.id)).length := List.length_pos_of_mem (List.mem_filter.mpr ⟨hf, by simp⟩)
      cases n with
      | zero => omega
      | succ n => rfl
    | some p =>
      have := cnt_lt hf (hr f hf p e)
      exact rtd_of nd hi hr n p (hi f hf p e) (by omega)
theorem sound_of {n : Nat} {ls : List Ln} (w : Snd n ls) (i : I14 ls) : soundB ls = true := by
  unfold soundB
  rw [asc_of i.asc, decide_eq_true i.hd, Bool.true_and, Bool.true_and, List.all_eq_true]
  intro l hl
  unfold okLn
  have h1 : ¬ l.below.length = 0 := fun z => i.bl l hl (List.length_eq_zero_iff.mp z)
  have h2 : rtd ls (ls.length + 1) l.ins = true := by
    obtain ⟨r, hr⟩ := w.rk
    cases e : l.ins with
    | none => rfl
    | some p => exact rtd_of w.nd w.ins hr _ p (w.ins l hl p e) (Nat.lt_succ_of_le (List.length_filter_le _ _))
  rw [decide_eq_false h1, h2]
  cases hc : l.ct with
  | none => rw [decide_eq_true (i.fh l hl hc)]; rfl
  | some m => rfl
/-! the single changes -/
theorem bad_line {ws : List Ln} {y : Ln} (hy : y ∈ ws) (h : okLn ws y = false) : soundB ws = false := by
  have : ws.all (okLn ws) = false := List.all_eq_false.mpr ⟨y, hy, by rw [h]; decide⟩
  unfold soundB
  rw [this, Bool.and_false, Bool.and_false]
theorem bad_root {ws : List Ln} {y : Ln} (h : rtd ws (ws.length + 1) y.ins = false) : okLn ws y = false := by
  unfold okLn
  rw [h, Bool.and_false]
  rfl
theorem in_with {ls : List Ln} {k : Nat} {y : Ln} : y ∈ withL ls k y := by unfold withL; simp
theorem ids_with {ls : List Ln} {k : Nat} {x y : Ln} (hx : ls[k]? = some x) (hy : y.id = x.id) : (withL ls k y).map Ln.id = ls.map Ln.id := by
  obtain ⟨hk, hg⟩ := List.getElem?_eq_some_iff.mp hx
  have h1 : ls = ls.take k ++ x :: ls.drop (k + 1) := by rw [← hg, List.getElem_cons_drop, List.take_append_drop]
  unfold withL
  rw [List.map_append, List.map_append, List.map_cons, List.map_nil, hy]
  conv => rhs; rw [h1]
  rw [List.map_append, List.map_cons, List.append_assoc]
  rfl
theorem wrongs_bad {n : Nat} {ls : List Ln} (w : Snd n ls) (i : I14 ls) (hid : ∀ l ∈ ls, l.id.1 < 77 ∧ l.id.2 < 7) {k : Nat} (hk : k < ls.length) : ∀ ws ∈ wrongs ls k, soundB ws = false ∧ ws.length ≤ ls.length := by
  have g1 := List.getElem?_eq_getElem hk
  have hxm : ls[k] ∈ ls := List.getElem_mem hk
  generalize hx : ls[k] = x at g1 hxm
  have lw : ∀ y, (withL ls k y).length = ls.length := fun y => by
    unfold withL
    rw [List.length_append, List.length_append, List.length_take, List.length_drop]
    show min k ls.length + 1 + _ = _
    omega
  have ndw : ∀ y : Ln, y.id = x.id → ((withL ls k y).map Ln.id).Nodup := fun y hy => by rw [ids_with g1 hy]; exact w.nd
  have noff : ∀ (y : Ln) (j : Id), y.id = x.id → (∀ f ∈ withL ls k y, f.id = j → f.ct ≠ none) → ffold (withL ls k y) (some j) = none := fun y j hy h => by
    cases e : ffold (withL ls k y) (some j) with
    | none => rfl
    | some f =>
      obtain ⟨a, b, c⟩ := ffold_some e
      exact absurd c (h f a (Option.some.inj b))
  have rt0 : ∀ (ws : List Ln) (j : Id), ffold ws (some j) = none → rtd ws (ws.length + 1) (some j) = false := fun ws j h => by
    unfold rtd
    rw [h]
  unfold wrongs
  rw [g1]
  dsimp only
  intro ws hws
  rcases List.mem_append.mp hws with hws | hws
  · rcases List.mem_append.mp hws with hws | hws
    · unfold wr1 at hws
      simp only [List.mem_cons, List.not_mem_nil, or_false] at hws
      rcases hws with rfl | rfl | rfl
      · exact ⟨bad_line in_with rfl, by rw [lw]; exact Nat.le_refl _⟩
      · refine ⟨bad_line in_with (bad_root (rt0 _ _ (noff _ _ rfl fun f hf e => ?_))), by rw [lw]; exact Nat.le_refl _⟩
        have : f.id ∈ ls.map Ln.id := by rw [← ids_with (y := { x with ins := some (77, 7) }) g1 rfl]; exact List.mem_map.mpr ⟨f, hf, rfl⟩
        obtain ⟨l, hl, e2⟩ := List.mem_map.mp this
        have h3 := (hid l hl).1
        have e3 : l.id = (77, 7) := e2.trans e
        rw [e3] at h3
        exact absurd h3 (by decide)
      · refine ⟨bad_line in_with (bad_root ?_), by rw [lw]; exact Nat.le_refl _⟩
        by_cases hc : x.ct = none
        · have loop : ∀ m, rtd (withL ls k { x with ins := some x.id }) m (some x.id) = false := by
            intro m
            induction m with
            | zero => rfl
            | succ m ih =>
              unfold rtd
              have := ffold_of (ndw { x with ins := some x.id } rfl) (l := { x with ins := some x.id }) in_with hc
              have this : ffold (withL ls k { x with ins := some x.id }) (some x.id) = some { x with ins := some x.id } := this
              rw [this]
              exact ih
          exact loop _
        · refine rt0 _ _ (noff { x with ins := some x.id } _ rfl fun f hf e => ?_)
          have : f = { x with ins := some x.id } := uniq (ndw { x with ins := some x.id } rfl) hf in_with e
          rw [this]
          exact hc
    · unfold wr2 at hws
      split at hws
      · rename_i hc
        rw [List.mem_singleton.mp hws]
        refine ⟨bad_line in_with ?_, by rw [lw]; exact Nat.le_refl _⟩
        have hne : ¬ ((78, 0) : Id) = x.id := fun z => by
          have := (hid x hxm).1
          rw [← z] at this
          exact absurd this (by decide)
        show ((!decide (x.below.length = 0) && rtd _ _ _) && !(x.ct.isNone && !decide (((78, 0) : Id) = x.id))) = false
        rw [hc, decide_eq_false hne]
        exact Bool.and_false _
      · cases hws
  · by_cases hk0 : 0 < k
    · have hk1 : k - 1 < ls.length := by omega
      have g2 := List.getElem?_eq_getElem hk1
      have hbm : ls[k - 1] ∈ ls := List.getElem_mem hk1
      have hlt : ltI ls[k - 1].id x.id = true := by
        have := List.pairwise_iff_getElem.mp i.asc (k - 1) k (by rw [List.length_map]; omega) (by rw [List.length_map]; omega) (by omega)
        rw [List.getElem_map, List.getElem_map, hx] at this
        exact this
      generalize hb : ls[k - 1] = b at g2 hbm hlt
      rw [if_pos hk0, g2] at hws
      dsimp only at hws
      have ne : b.id ≠ x.id := fun z => by
        rw [z] at hlt
        have := ltI_irr _ _ hlt
        rw [hlt] at this
        cases this
      have hbw : ∀ y : Ln, b ∈ withL ls k y := fun y => by
        unfold withL
        refine List.mem_append_left _ (List.mem_append_left _ ?_)
        exact List.mem_of_getElem? (i := k - 1) (by rw [List.getElem?_take_of_lt (by omega)]; exact g2)
      rcases List.mem_append.mp hws with hws | hws
      · unfold wr3 at hws
        simp only [List.mem_cons, List.not_mem_nil, or_false] at hws
        rcases hws with rfl | rfl
        · have tl : (ls.take (k - 1)).length = k - 1 := by rw [List.length_take]; omega
          refine ⟨?_, ?_⟩
          · unfold soundB
            rw [asc_not (k := k - 1) (a := x.id) (b := b.id) ?_ ?_ (ltI_irr _ _ hlt)]
            · rfl
            · rw [List.getElem?_map, List.append_assoc, List.getElem?_append_right (by omega), tl, Nat.sub_self]; rfl
            · rw [List.getElem?_map, List.append_assoc, List.getElem?_append_right (by omega), tl, show k - 1 + 1 - (k - 1) = 1 by omega]; rfl
          · rw [List.length_append, List.length_append, tl, List.length_drop]
            show k - 1 + 2 + _ ≤ _
            omega
        · refine ⟨?_, by rw [lw]; exact Nat.le_refl _⟩
          have : ¬ ((withL ls k { x with head := b.head }).map Ln.head).Nodup := fun nd => by
            have := uniqH nd (hbw { x with head := b.head }) in_with rfl
            exact ne (by have := congrArg Ln.id this; exact this)
          unfold soundB
          rw [decide_eq_false this, Bool.false_and, Bool.and_false]
      · unfold wr4 at hws
        split at hws
        · cases hws
        · rename_i hc
          rw [List.mem_singleton.mp hws]
          refine ⟨bad_line in_with (bad_root (rt0 _ _ (noff _ _ rfl fun f hf e => ?_))), by rw [lw]; exact Nat.le_refl _⟩
          have : f = b := uniq (ndw { x with ins := some b.id } rfl) hf (hbw _) e
          rw [this]
          exact hc
    · rw [if_neg hk0] at hws
      cases hws
theorem replaced_ok (e : Ed) (h : CH) : callP 1 d_l_replaced [encE e] h = .ok (encT (repl e)) h := by
  refine callP_ok (d := encT (repl e)) (h' := []) (nr1 (flat_E e)) ?_ (fz_nr (nr_T _))
  unfold d_l_replaced b_l_replaced
  cases e with
  | write i p c m rs =>
    have x0 : dIdx (encE (.write i p c m rs)) (.int 5) [] = .ok (encT rs) [] := rfl
    have l0 : dLen [encE (.write i p c m rs)] [] = .ok (.int 6) [] := rfl
    have wm : ((Str.ofString "write") == (Str.ofString "move")) = false := by decide
    (simp only [sSeq, sIf, sB, sE, sAsg, sRet, sRetN, sNil, sExpr, sBrk, sCnt, gN, gT, gsC, gsN, FK.e1, FK.e2, eC, eVar, eCall, aNil, aCons, M.bind, M.pure, eTup, eLst, eNew, eSl, oNone, oSome, bT, bNot, bAnd, bOr, eAnd, eOr, eNot, eIf, eCh, truth, eMs, eMl, dSub, dMul, dFdiv, dMod, dLe, dLt, dGe, dGt, D.isNon, dSl, dInt, dOrd_one, dMax2, dMin2, dTuple, dList, dListC, dApp, dNeg, vw, seq, lstOf, fnD, List.map_cons, List.map_nil, List.length_cons, List.length_nil, List.cons_append, List.nil_append, List.append_nil, List.replicate_succ, List.replicate_zero, List.getElem?_cons_zero, List.getElem?_cons_succ, List.set_cons_zero, List.set_cons_succ, Int.cast_ofNat_Int, Nat.reduceBEq, Int.reduceBEq, Nat.reduceAdd, Nat.reduceSub, Nat.reduceLT, Nat.reduceLeDiff, Nat.zero_add, Nat.add_zero, Nat.sub_zero, Nat.sub_self, ↓reduceIte, if_true, if_false, Bool.not_true, Bool.not_false, Bool.false_eq_true, Bool.true_eq_false, decide_true, decide_false, decide_not, true_and, and_true, and_self, true_or, or_true, not_true_eq_false, not_false_eq_true, ne_eq, reduceCtorEq, Int.reduceLT, Int.reduceLE, Int.reduceNeg, Int.reduceSub, Int.reduceAdd, Int.reduceMul, Int.reducePow, Int.reduceToNat, sz, D.dat, D.datL, D.dep, D.depL, szl, inb, List.any_cons, List.any_nil, Bool.true_and, Bool.false_and, Bool.and_true, Bool.and_false, Bool.or_false, Bool.false_or, Bool.true_or, Bool.or_true, Nat.max_self, Nat.max_zero, Nat.zero_max, Nat.min_self, Nat.zero_le, Nat.min_zero, Nat.zero_min, iR1, iR2, rng1, rng2, iE, itOf, sFor, bYes, Option.isNone_some, Option.isSome_some, Option.isNone_none, Option.isSome_none, Option.some.injEq, dEq_int, dNe_int, dEq_II, dEq_OO, dEq_OI, dEq_IO, dEq_PP, dNe_PP, dIs_O, dIsnt_O, dIs_I, dIsnt_I, dIs_non, dIsnt_non, dIn_IT, dIn_IL, dIdx_tup, dIdx_lst, dIdx_scr, dAdd_int, atI0, atI1, atI2, atI3, atI4, atI5, vw_last, get_last, set_last, app_last, ixE_wr, dEq_str, wm, l0, x0, repl] <;> rfl)
  | drop i hs =>
    have x0 : dIdx (encE (.drop i hs)) (.int 0) [] = .ok (.str "drop") [] := rfl
    have x1 : dIdx (encE (.drop i hs)) (.int 2) [] = .ok (encT hs) [] := rfl
    have l0 : dLen [encE (.drop i hs)] [] = .ok (.int 3) [] := rfl
    have wm : ((Str.ofString "drop") == (Str.ofString "move")) = false := by decide
    (simp only [sSeq, sIf, sB, sE, sAsg, sRet, sRetN, sNil, sExpr, sBrk, sCnt, gN, gT, gsC, gsN, FK.e1, FK.e2, eC, eVar, eCall, aNil, aCons, M.bind, M.pure, eTup, eLst, eNew, eSl, oNone, oSome, bT, bNot, bAnd, bOr, eAnd, eOr, eNot, eIf, eCh, truth, eMs, eMl, dSub, dMul, dFdiv, dMod, dLe, dLt, dGe, dGt, D.isNon, dSl, dInt, dOrd_one, dMax2, dMin2, dTuple, dList, dListC, dApp, dNeg, vw, seq, lstOf, fnD, List.map_cons, List.map_nil, List.length_cons, List.length_nil, List.cons_append, List.nil_append, List.append_nil, List.replicate_succ, List.replicate_zero, List.getElem?_cons_zero, List.getElem?_cons_succ, List.set_cons_zero, List.set_cons_succ, Int.cast_ofNat_Int, Nat.reduceBEq, Int.reduceBEq, Nat.reduceAdd, Nat.reduceSub, Nat.reduceLT, Nat.reduceLeDiff, Nat.zero_add, Nat.add_zero, Nat.sub_zero, Nat.sub_self, ↓reduceIte, if_true, if_false, Bool.not_true, Bool.not_false, Bool.false_eq_true, Bool.true_eq_false, decide_true, decide_false, decide_not, true_and, and_true, and_self, true_or, or_true, not_true_eq_false, not_false_eq_true, ne_eq, reduceCtorEq, Int.reduceLT, Int.reduceLE, Int.reduceNeg, Int.reduceSub, Int.reduceAdd, Int.reduceMul, Int.reducePow, Int.reduceToNat, sz, D.dat, D.datL, D.dep, D.depL, szl, inb, List.any_cons, List.any_nil, Bool.true_and, Bool.false_and, Bool.and_true, Bool.and_false, Bool.or_false, Bool.false_or, Bool.true_or, Bool.or_true, Nat.max_self, Nat.max_zero, Nat.zero_max, Nat.min_self, Nat.zero_le, Nat.min_zero, Nat.zero_min, iR1, iR2, rng1, rng2, iE, itOf, sFor, bYes, Option.isNone_some, Option.isSome_some, Option.isNone_none, Option.isSome_none, Option.some.injEq, dEq_int, dNe_int, dEq_II, dEq_OO, dEq_OI, dEq_IO, dEq_PP, dNe_PP, dIs_O, dIsnt_O, dIs_I, dIsnt_I, dIs_non, dIsnt_non, dIn_IT, dIn_IL, dIdx_tup, dIdx_lst, dIdx_scr, dAdd_int, atI0, atI1, atI2, atI3, atI4, atI5, vw_last, get_last, set_last, app_last, x0, dEq_str, wm, l0, x1, repl] <;> rfl)
  | move i ms =>
    have x0 : dIdx (encE (.move i ms)) (.int 0) [] = .ok (.str "move") [] := rfl
    have wm : ((Str.ofString "move") == (Str.ofString "move")) = true := by decide
    (simp only [sSeq, sIf, sB, sE, sAsg, sRet, sRetN, sNil, sExpr, sBrk, sCnt, gN, gT, gsC, gsN, FK.e1, FK.e2, eC, eVar, eCall, aNil, aCons, M.bind, M.pure, eTup, eLst, eNew, eSl, oNone, oSome, bT, bNot, bAnd, bOr, eAnd, eOr, eNot, eIf, eCh, truth, eMs, eMl, dSub, dMul, dFdiv, dMod, dLe, dLt, dGe, dGt, D.isNon, dSl, dLen, dInt, dOrd_one, dMax2, dMin2, dTuple, dList, dListC, dApp, dNeg, vw, seq, lstOf, fnD, List.map_cons, List.map_nil, List.length_cons, List.length_nil, List.cons_append, List.nil_append, List.append_nil, List.replicate_succ, List.replicate_zero, List.getElem?_cons_zero, List.getElem?_cons_succ, List.set_cons_zero, List.set_cons_succ, Int.cast_ofNat_Int, Nat.reduceBEq, Int.reduceBEq, Nat.reduceAdd, Nat.reduceSub, Nat.reduceLT, Nat.reduceLeDiff, Nat.zero_add, Nat.add_zero, Nat.sub_zero, Nat.sub_self, ↓reduceIte, if_true, if_false, Bool.not_true, Bool.not_false, Bool.false_eq_true, Bool.true_eq_false, decide_true, decide_false, decide_not, true_and, and_true, and_self, true_or, or_true, not_true_eq_false, not_false_eq_true, ne_eq, reduceCtorEq, Int.reduceLT, Int.reduceLE, Int.reduceNeg, Int.reduceSub, Int.reduceAdd, Int.reduceMul, Int.reducePow, Int.reduceToNat, sz, D.dat, D.datL, D.dep, D.depL, szl, inb, List.any_cons, List.any_nil, Bool.true_and, Bool.false_and, Bool.and_true, Bool.and_false, Bool.or_false, Bool.false_or, Bool.true_or, Bool.or_true, Nat.max_self, Nat.max_zero, Nat.zero_max, Nat.min_self, Nat.zero_le, Nat.min_zero, Nat.zero_min, iR1, iR2, rng1, rng2, iE, itOf, sFor, bYes, Option.isNone_some, Option.isSome_some, Option.isNone_none, Option.isSome_none, Option.some.injEq, dEq_int, dNe_int, dEq_II, dEq_OO, dEq_OI, dEq_IO, dEq_PP, dNe_PP, dIs_O, dIsnt_O, dIs_I, dIsnt_I, dIs_non, dIsnt_non, dIn_IT, dIn_IL, dIdx_tup, dIdx_lst, dIdx_scr, dAdd_int, atI0, atI1, atI2, atI3, atI4, atI5, vw_last, get_last, set_last, app_last, x0, dEq_str, wm, repl] <;> rfl)
theorem blsD_all {X : Type} {f : X → Bool} : ∀ xs : List X, blsD (xs.map fun x => D.bl (f x)) = some (xs.map f)
  | [] => rfl
  | x :: xs => by
    show (blsD (xs.map fun x => D.bl (f x))).map (f x :: ·) = _
    rw [blsD_all xs]; rfl
theorem idK_lt {a b : Nat} (h : a < b) : ltI (idK a) (idK b) = true := by
  rw [ltI_iff]
  unfold idK
  dsimp only
  omega
theorem idK_inj {a b : Nat} (h : idK a = idK b) : a = b := by
  have z1 := congrArg Prod.fst h
  have z2 := congrArg Prod.snd h
  unfold idK at z1 z2
  dsimp only at z1 z2
  omega
theorem law_true (ns : List Int) (hl : ns.length ≤ 63) : ∃ h, d_law [scrD ns] [] = .ok (.bl true) h := by
  obtain ⟨es, h1, h2, h3, h4, e0⟩ := edits_okN ns 22 hl (by omega) []
  replace e0 : callP 2 d_l_edits [scrD ns, .int 22] [] = .ok (.lst (es.map encE)) [] := e0
  have idAt : ∀ (j : Nat) e, es[j]? = some e → e.id = idK j ∧ j < 22 := fun j e hj => by
    have q : (es.map Ed.id)[j]? = ((List.range 22).map idK)[j]? := by rw [h3]
    rw [List.getElem?_map, hj, List.getElem?_map] at q
    obtain ⟨hlt, _⟩ := List.getElem?_eq_some_iff.mp hj
    rw [List.getElem?_range (by omega)] at q
    exact ⟨Option.some.inj q, by omega⟩
  -- behind each part of the edits
  have INV : ∀ m, m ≤ 22 → Snd (12 * m) ((es.take m).foldl afterL []) ∧ I14 ((es.take m).foldl afterL []) ∧ (∀ i ∈ ((es.take m).foldl afterL []).map Ln.id, ∃ j, j < m ∧ i = idK j) ∧ (∀ i ∈ ((es.take m).foldl afterL []).map Ln.head, ∃ j, j < m ∧ i = idK j) ∧ ((es.take m).foldl afterL []).length ≤ m := by
    intro m
    induction m with
    | zero => exact fun _ => ⟨Snd.nil 0, ⟨List.Pairwise.nil, List.nodup_nil, fun l h => (by cases h), fun l h => (by cases h)⟩, fun i h => (by cases h), fun i h => (by cases h), Nat.le_refl _⟩
    | succ m ih =>
      intro hm
      obtain ⟨w, i, hi, hh, hl⟩ := ih (by omega)
      have hm2 : m < es.length := by omega
      have gx := List.getElem?_eq_getElem hm2
      generalize hx : es[m] = x at gx
      have ex : es.take (m + 1) = es.take m ++ [x] := by rw [List.take_succ, gx]; rfl
      rw [ex, List.foldl_append]
      show Snd _ (afterL _ x) ∧ I14 (afterL _ x) ∧ _ ∧ _ ∧ _
      obtain ⟨idx, _⟩ := idAt m x gx
      have ho := h2 x (List.mem_of_getElem? gx)
      have gt : ∀ l ∈ (es.take m).foldl afterL [], ltI l.id x.id = true := fun l hl => by
        obtain ⟨j, hj, e⟩ := hi l.id (List.mem_map.mpr ⟨l, hl, rfl⟩)
        rw [e, idx]; exact idK_lt hj
      have fh : ∀ l ∈ (es.take m).foldl afterL [], l.head ≠ x.id := fun l hl z => by
        obtain ⟨j, hj, e⟩ := hh l.head (List.mem_map.mpr ⟨l, hl, rfl⟩)
        rw [e, idx] at z
        have := idK_inj z
        omega
      have fr : ∀ l ∈ (es.take m).foldl afterL [], l.id ≠ x.id := fun l hl z => by
        obtain ⟨j, hj, e⟩ := hi l.id (List.mem_map.mpr ⟨l, hl, rfl⟩)
        rw [e, idx] at z
        have := idK_inj z
        omega
      have hn : x.id ∉ (List.range m).map idK := fun z => by
        obtain ⟨j, hj, e⟩ := List.mem_map.mp z
        rw [idx] at e
        have := idK_inj e
        have := List.mem_range.mp hj
        omega
      obtain ⟨i1, _, _⟩ := i.after w ho (h4 m x gx) hn gt fh
      refine ⟨(w.after ho fr).le (by omega), i1, fun k hk => ?_, fun k hk => ?_, Nat.le_trans len_after (by omega)⟩
      · rcases ids_after hk with q | q
        · exact ⟨m, by omega, q.trans idx⟩
        · obtain ⟨j, hj, e⟩ := hi k q
          exact ⟨j, by omega, e⟩
      · rcases (heads_after w i.hd fh).2 k hk with q | q
        · exact ⟨m, by omega, q.trans idx⟩
        · obtain ⟨j, hj, e⟩ := hh k q
          exact ⟨j, by omega, e⟩
  have fin := INV 22 (Nat.le_refl _)
  rw [List.take_of_length_le (by omega)] at fin
  obtain ⟨d, h', e, rfl⟩ := Good.fn (N := 8) (body := b_law) (ds := [scrD ns]) (h := []) (ρ := [some (scrD ns), none, none, none, none, none, none, none]) (T := fun d h' => d = .bl true) (by
    unfold b_law
    refine Good.seq (Good.nx (ρ := [some (scrD ns), some (.lst []), none, none, none, none, none, none]) (h := []) (by (simp only [sSeq, sIf, sB, sE, sAsg, sRet, sRetN, sNil, sExpr, sBrk, sCnt, gN, gT, gsC, gsN, FK.e1, FK.e2, eC, eVar, eCall, aNil, aCons, M.bind, M.pure, eTup, eLst, eNew, eSl, oNone, oSome, bT, bNot, bAnd, bOr, eAnd, eOr, eNot, eIf, eCh, truth, eMs, eMl, dSub, dMul, dFdiv, dMod, dLe, dLt, dGe, dGt, D.isNon, dSl, dLen, dInt, dOrd_one, dMax2, dMin2, dTuple, dList, dListC, dApp, dNeg, vw, seq, lstOf, fnD, List.map_cons, List.map_nil, List.length_cons, List.length_nil, List.cons_append, List.nil_append, List.append_nil, List.replicate_succ, List.replicate_zero, List.getElem?_cons_zero, List.getElem?_cons_succ, List.set_cons_zero, List.set_cons_succ, Int.cast_ofNat_Int, Nat.reduceBEq, Int.reduceBEq, Nat.reduceAdd, Nat.reduceSub, Nat.reduceLT, Nat.reduceLeDiff, Nat.zero_add, Nat.add_zero, Nat.sub_zero, Nat.sub_self, ↓reduceIte, if_true, if_false, Bool.not_true, Bool.not_false, Bool.false_eq_true, Bool.true_eq_false, decide_true, decide_false, decide_not, true_and, and_true, and_self, true_or, or_true, not_true_eq_false, not_false_eq_true, ne_eq, reduceCtorEq, Int.reduceLT, Int.reduceLE, Int.reduceNeg, Int.reduceSub, Int.reduceAdd, Int.reduceMul, Int.reducePow, Int.reduceToNat, sz, D.dat, D.datL, D.dep, D.depL, szl, inb, List.any_cons, List.any_nil, Bool.true_and, Bool.false_and, Bool.and_true, Bool.and_false, Bool.or_false, Bool.false_or, Bool.true_or, Bool.or_true, Nat.max_self, Nat.max_zero, Nat.zero_max, Nat.min_self, Nat.zero_le, Nat.min_zero, Nat.zero_min, iR1, iR2, rng1, rng2, iE, itOf, sFor, bYes, Option.isNone_some, Option.isSome_some, Option.isNone_none, Option.isSome_none, Option.some.injEq, dEq_int, dNe_int, dEq_II, dEq_OO, dEq_OI, dEq_IO, dEq_PP, dNe_PP, dIs_O, dIsnt_O, dIs_I, dIsnt_I, dIs_non, dIsnt_non, dIn_IT, dIn_IL, dIdx_tup, dIdx_lst, dIdx_scr, dAdd_int, atI0, atI1, atI2, atI3, atI4, atI5, vw_last, get_last, set_last, app_last] <;> rfl)) ?_)
    refine Good.seq (Good.pre (en := encE) (o := none) (xs := es) (h := []) (I := fun pre ρ h => h = [] ∧ ∃ x y, ρ = [some (scrD ns), some (.lst ((pre.foldl afterL []).map encL)), x, y, none, none, none, none]) (by (simp only [sSeq, sIf, sB, sE, sAsg, sRet, sRetN, sNil, sExpr, sBrk, sCnt, gN, gT, gsC, gsN, FK.e1, FK.e2, eC, eVar, eCall, aNil, aCons, M.bind, M.pure, eTup, eLst, eNew, eSl, oNone, oSome, bT, bNot, bAnd, bOr, eAnd, eOr, eNot, eIf, eCh, truth, eMs, eMl, dSub, dMul, dFdiv, dMod, dLe, dLt, dGe, dGt, D.isNon, dSl, dLen, dInt, dOrd_one, dMax2, dMin2, dTuple, dList, dListC, dApp, dNeg, vw, seq, lstOf, fnD, List.map_cons, List.map_nil, List.length_cons, List.length_nil, List.cons_append, List.nil_append, List.append_nil, List.replicate_succ, List.replicate_zero, List.getElem?_cons_zero, List.getElem?_cons_succ, List.set_cons_zero, List.set_cons_succ, Int.cast_ofNat_Int, Nat.reduceBEq, Int.reduceBEq, Nat.reduceAdd, Nat.reduceSub, Nat.reduceLT, Nat.reduceLeDiff, Nat.zero_add, Nat.add_zero, Nat.sub_zero, Nat.sub_self, ↓reduceIte, if_true, if_false, Bool.not_true, Bool.not_false, Bool.false_eq_true, Bool.true_eq_false, decide_true, decide_false, decide_not, true_and, and_true, and_self, true_or, or_true, not_true_eq_false, not_false_eq_true, ne_eq, reduceCtorEq, Int.reduceLT, Int.reduceLE, Int.reduceNeg, Int.reduceSub, Int.reduceAdd, Int.reduceMul, Int.reducePow, Int.reduceToNat, sz, D.dat, D.datL, D.dep, D.depL, szl, inb, List.any_cons, List.any_nil, Bool.true_and, Bool.false_and, Bool.and_true, Bool.and_false, Bool.or_false, Bool.false_or, Bool.true_or, Bool.or_true, Nat.max_self, Nat.max_zero, Nat.zero_max, Nat.min_self, Nat.zero_le, Nat.min_zero, Nat.zero_min, iR1, iR2, rng1, rng2, iE, itOf, sFor, bYes, Option.isNone_some, Option.isSome_some, Option.isNone_none, Option.isSome_none, Option.some.injEq, dEq_int, dNe_int, dEq_II, dEq_OO, dEq_OI, dEq_IO, dEq_PP, dNe_PP, dIs_O, dIsnt_O, dIs_I, dIsnt_I, dIs_non, dIsnt_non, dIn_IT, dIn_IL, dIdx_tup, dIdx_lst, dIdx_scr, dAdd_int, atI0, atI1, atI2, atI3, atI4, atI5, vw_last, get_last, set_last, app_last, e0] <;> rfl)) ⟨rfl, none, none, rfl⟩ (fun _ _ _ _ => trivial) ?_ ?_)
    · rintro pre x post hx ρ h ⟨rfl, y, z, rfl⟩
      have hpl := congrArg List.length hx
      rw [h1, List.length_append, List.length_cons] at hpl
      have hpre : pre = es.take pre.length := by rw [hx]; simp
      have gx : es[pre.length]? = some x := by rw [hx]; simp
      obtain ⟨w, i, hi, hh, hlen⟩ := INV pre.length (by omega)
      obtain ⟨w2, i2, hi2, hh2, hlen2⟩ := INV (pre.length + 1) (by omega)
      have ex : es.take (pre.length + 1) = pre ++ [x] := by rw [List.take_succ, gx, ← hpre]; rfl
      rw [← hpre] at w i hi hh hlen
      rw [ex, List.foldl_append] at w2 i2 hi2 hh2 hlen2
      rw [List.foldl_append]
      show ∃ ρ1, _ ∧ Good _ (fun ρ h => h = [] ∧ ∃ x_1 y, ρ = [_, some (.lst ((afterL (pre.foldl afterL []) x).map encL)), x_1, y, none, none, none, none]) _
      obtain ⟨idx, _⟩ := idAt _ x gx
      have ho := h2 x (List.mem_of_getElem? gx)
      have fr : ∀ l ∈ pre.foldl afterL [], l.id ≠ x.id := fun l hl z => by
        obtain ⟨j, hj, e⟩ := hi l.id (List.mem_map.mpr ⟨l, hl, rfl⟩)
        rw [e, idx] at z
        have := idK_inj z
        omega
      have gt : ∀ l ∈ pre.foldl afterL [], ltI l.id x.id = true := fun l hl => by
        obtain ⟨j, hj, e⟩ := hi l.id (List.mem_map.mpr ⟨l, hl, rfl⟩)
        rw [e, idx]; exact idK_lt hj
      have fh : ∀ l ∈ pre.foldl afterL [], l.head ≠ x.id := fun l hl z => by
        obtain ⟨j, hj, e⟩ := hh l.head (List.mem_map.mpr ⟨l, hl, rfl⟩)
        rw [e, idx] at z
        have := idK_inj z
        omega
      have hn : x.id ∉ (List.range pre.length).map idK := fun z => by
        obtain ⟨j, hj, e⟩ := List.mem_map.mp z
        rw [idx] at e
        have := idK_inj e
        have := List.mem_range.mp hj
        omega
      obtain ⟨_, r1, r2⟩ := i.after w ho (h4 _ x gx) hn gt fh
      have e1 := lines_after_ok (by omega) w (by omega) x ho fr []
      have w2' : Snd (12 * (pre.length + 1)) (afterL (pre.foldl afterL []) x) := w2
      have i2' : I14 (afterL (pre.foldl afterL []) x) := i2
      have hlen2' : (afterL (pre.foldl afterL []) x).length ≤ pre.length + 1 := hlen2
      generalize afterL (pre.foldl afterL []) x = as at *
      refine ⟨_, rfl, ?_⟩
      refine Good.seq (Good.nx (ρ := [some (scrD ns), some (.lst (as.map encL)), some (encE x), z, none, none, none, none]) (h := []) (by (simp only [sSeq, sIf, sB, sE, sAsg, sRet, sRetN, sNil, sExpr, sBrk, sCnt, gN, gT, gsC, gsN, FK.e1, FK.e2, eC, eVar, eCall, aNil, aCons, M.bind, M.pure, eTup, eLst, eNew, eSl, oNone, oSome, bT, bNot, bAnd, bOr, eAnd, eOr, eNot, eIf, eCh, truth, eMs, eMl, dSub, dMul, dFdiv, dMod, dLe, dLt, dGe, dGt, D.isNon, dSl, dLen, dInt, dOrd_one, dMax2, dMin2, dTuple, dList, dListC, dApp, dNeg, vw, seq, lstOf, fnD, List.map_cons, List.map_nil, List.length_cons, List.length_nil, List.cons_append, List.nil_append, List.append_nil, List.replicate_succ, List.replicate_zero, List.getElem?_cons_zero, List.getElem?_cons_succ, List.set_cons_zero, List.set_cons_succ, Int.cast_ofNat_Int, Nat.reduceBEq, Int.reduceBEq, Nat.reduceAdd, Nat.reduceSub, Nat.reduceLT, Nat.reduceLeDiff, Nat.zero_add, Nat.add_zero, Nat.sub_zero, Nat.sub_self, ↓reduceIte, if_true, if_false, Bool.not_true, Bool.not_false, Bool.false_eq_true, Bool.true_eq_false, decide_true, decide_false, decide_not, true_and, and_true, and_self, true_or, or_true, not_true_eq_false, not_false_eq_true, ne_eq, reduceCtorEq, Int.reduceLT, Int.reduceLE, Int.reduceNeg, Int.reduceSub, Int.reduceAdd, Int.reduceMul, Int.reducePow, Int.reduceToNat, sz, D.dat, D.datL, D.dep, D.depL, szl, inb, List.any_cons, List.any_nil, Bool.true_and, Bool.false_and, Bool.and_true, Bool.and_false, Bool.or_false, Bool.false_or, Bool.true_or, Bool.or_true, Nat.max_self, Nat.max_zero, Nat.zero_max, Nat.min_self, Nat.zero_le, Nat.min_zero, Nat.zero_min, iR1, iR2, rng1, rng2, iE, itOf, sFor, bYes, Option.isNone_some, Option.isSome_some, Option.isNone_none, Option.isSome_none, Option.some.injEq, dEq_int, dNe_int, dEq_II, dEq_OO, dEq_OI, dEq_IO, dEq_PP, dNe_PP, dIs_O, dIsnt_O, dIs_I, dIsnt_I, dIs_non, dIsnt_non, dIn_IT, dIn_IL, dIdx_tup, dIdx_lst, dIdx_scr, dAdd_int, atI0, atI1, atI2, atI3, atI4, atI5, vw_last, get_last, set_last, app_last, e1] <;> rfl)) ?_)
      have lh := eLc_fm (en := encL) (fun _ => true) (fun l => encI l.head) (it := iE (eVar 1)) (g := gN 6) (b := bYes) (f := (FK.e2 dIdx (eVar 6) (eC (.int 1)))) (vs := [6]) (ρ := [some (scrD ns), some (.lst (as.map encL)), some (encE x), z, none, none, none, none]) (h := []) (o := none) (xs := as) rfl trivial (by omega) (fun l hm => ⟨_, wipe_gN, rfl, fun _ => by (simp only [sSeq, sIf, sB, sE, sAsg, sRet, sRetN, sNil, sExpr, sBrk, sCnt, gN, gT, gsC, gsN, FK.e1, FK.e2, eC, eVar, eCall, aNil, aCons, M.bind, M.pure, eTup, eLst, eNew, eSl, oNone, oSome, bT, bNot, bAnd, bOr, eAnd, eOr, eNot, eIf, eCh, truth, eMs, eMl, dSub, dMul, dFdiv, dMod, dLe, dLt, dGe, dGt, D.isNon, dSl, dLen, dInt, dOrd_one, dMax2, dMin2, dTuple, dList, dListC, dApp, dNeg, vw, seq, lstOf, fnD, List.map_cons, List.map_nil, List.length_cons, List.length_nil, List.cons_append, List.nil_append, List.append_nil, List.replicate_succ, List.replicate_zero, List.getElem?_cons_zero, List.getElem?_cons_succ, List.set_cons_zero, List.set_cons_succ, Int.cast_ofNat_Int, Nat.reduceBEq, Int.reduceBEq, Nat.reduceAdd, Nat.reduceSub, Nat.reduceLT, Nat.reduceLeDiff, Nat.zero_add, Nat.add_zero, Nat.sub_zero, Nat.sub_self, ↓reduceIte, if_true, if_false, Bool.not_true, Bool.not_false, Bool.false_eq_true, Bool.true_eq_false, decide_true, decide_false, decide_not, true_and, and_true, and_self, true_or, or_true, not_true_eq_false, not_false_eq_true, ne_eq, reduceCtorEq, Int.reduceLT, Int.reduceLE, Int.reduceNeg, Int.reduceSub, Int.reduceAdd, Int.reduceMul, Int.reducePow, Int.reduceToNat, sz, D.dat, D.datL, D.dep, D.depL, szl, inb, List.any_cons, List.any_nil, Bool.true_and, Bool.false_and, Bool.and_true, Bool.and_false, Bool.or_false, Bool.false_or, Bool.true_or, Bool.or_true, Nat.max_self, Nat.max_zero, Nat.zero_max, Nat.min_self, Nat.zero_le, Nat.min_zero, Nat.zero_min, iR1, iR2, rng1, rng2, iE, itOf, sFor, bYes, Option.isNone_some, Option.isSome_some, Option.isNone_none, Option.isSome_none, Option.some.injEq, dEq_int, dNe_int, dEq_II, dEq_OO, dEq_OI, dEq_IO, dEq_PP, dNe_PP, dIs_O, dIsnt_O, dIs_I, dIsnt_I, dIs_non, dIsnt_non, dIn_IT, dIn_IL, dIdx_tup, dIdx_lst, dIdx_scr, dAdd_int, atI0, atI1, atI2, atI3, atI4, atI5, vw_last, get_last, set_last, app_last, ix1] <;> rfl)⟩)
      rw [List.filter_eq_self.mpr (by simp), show (fun l : Ln => encI l.head) = encI ∘ Ln.head from rfl, ← List.map_map] at lh
      refine Good.seq (Good.nx (ρ := [some (scrD ns), some (.lst (as.map encL)), some (encE x), some (.lst ((as.map Ln.head).map encI)), none, none, none, none]) (h := []) (by (simp only [sSeq, sIf, sB, sE, sAsg, sRet, sRetN, sNil, sExpr, sBrk, sCnt, gN, gT, gsC, gsN, FK.e1, FK.e2, eC, eVar, eCall, aNil, aCons, M.bind, M.pure, eTup, eLst, eNew, eSl, oNone, oSome, bT, bNot, bAnd, bOr, eAnd, eOr, eNot, eIf, eCh, truth, eMs, eMl, dSub, dMul, dFdiv, dMod, dLe, dLt, dGe, dGt, D.isNon, dSl, dLen, dInt, dOrd_one, dMax2, dMin2, dTuple, dList, dListC, dApp, dNeg, vw, seq, lstOf, fnD, List.map_cons, List.map_nil, List.length_cons, List.length_nil, List.cons_append, List.nil_append, List.append_nil, List.replicate_succ, List.replicate_zero, List.getElem?_cons_zero, List.getElem?_cons_succ, List.set_cons_zero, List.set_cons_succ, Int.cast_ofNat_Int, Nat.reduceBEq, Int.reduceBEq, Nat.reduceAdd, Nat.reduceSub, Nat.reduceLT, Nat.reduceLeDiff, Nat.zero_add, Nat.add_zero, Nat.sub_zero, Nat.sub_self, ↓reduceIte, if_true, if_false, Bool.not_true, Bool.not_false, Bool.false_eq_true, Bool.true_eq_false, decide_true, decide_false, decide_not, true_and, and_true, and_self, true_or, or_true, not_true_eq_false, not_false_eq_true, ne_eq, reduceCtorEq, Int.reduceLT, Int.reduceLE, Int.reduceNeg, Int.reduceSub, Int.reduceAdd, Int.reduceMul, Int.reducePow, Int.reduceToNat, sz, D.dat, D.datL, D.dep, D.depL, szl, inb, List.any_cons, List.any_nil, Bool.true_and, Bool.false_and, Bool.and_true, Bool.and_false, Bool.or_false, Bool.false_or, Bool.true_or, Bool.or_true, Nat.max_self, Nat.max_zero, Nat.zero_max, Nat.min_self, Nat.zero_le, Nat.min_zero, Nat.zero_min, iR1, iR2, rng1, rng2, iE, itOf, sFor, bYes, Option.isNone_some, Option.isSome_some, Option.isNone_none, Option.isSome_none, Option.some.injEq, dEq_int, dNe_int, dEq_II, dEq_OO, dEq_OI, dEq_IO, dEq_PP, dNe_PP, dIs_O, dIsnt_O, dIs_I, dIsnt_I, dIs_non, dIsnt_non, dIn_IT, dIn_IL, dIdx_tup, dIdx_lst, dIdx_scr, dAdd_int, atI0, atI1, atI2, atI3, atI4, atI5, vw_last, get_last, set_last, app_last, lh] <;> rfl)) ?_)
      have ls1 := lines_sound_ok as (by omega) []
      rw [sound_of w2' i2'] at ls1
      have rp := replaced_ok x []
      have hrl : (repl x).length ≤ 16777216 := by
        cases x with
        | write i p c m rs => have := ho.2; show rs.length ≤ _; omega
        | drop i hs => have : hs.length ≤ 1000 := ho; show hs.length ≤ _; omega
        | move i ms => exact Nat.zero_le _
      have la := eLc_fm (en := encI) (fun _ => true) (fun i => .bl (decide (i ∈ as.map Ln.head))) (it := iE (eCall (callP 1 d_l_replaced) (aCons (eVar 2) (aNil)))) (g := gN 7) (b := bYes) (f := (FK.e2 dIn (eVar 7) (eVar 3))) (vs := [7]) (ρ := [some (scrD ns), some (.lst (as.map encL)), some (encE x), some (.lst ((as.map Ln.head).map encI)), none, none, none, none]) (h := []) (o := none) (xs := repl x) (by (simp only [sSeq, sIf, sB, sE, sAsg, sRet, sRetN, sNil, sExpr, sBrk, sCnt, gN, gT, gsC, gsN, FK.e1, FK.e2, eC, eVar, eCall, aNil, aCons, M.bind, M.pure, eTup, eLst, eNew, eSl, oNone, oSome, bT, bNot, bAnd, bOr, eAnd, eOr, eNot, eIf, eCh, truth, eMs, eMl, dSub, dMul, dFdiv, dMod, dLe, dLt, dGe, dGt, D.isNon, dSl, dLen, dInt, dOrd_one, dMax2, dMin2, dTuple, dList, dListC, dApp, dNeg, vw, seq, lstOf, fnD, List.map_cons, List.map_nil, List.length_cons, List.length_nil, List.cons_append, List.nil_append, List.append_nil, List.replicate_succ, List.replicate_zero, List.getElem?_cons_zero, List.getElem?_cons_succ, List.set_cons_zero, List.set_cons_succ, Int.cast_ofNat_Int, Nat.reduceBEq, Int.reduceBEq, Nat.reduceAdd, Nat.reduceSub, Nat.reduceLT, Nat.reduceLeDiff, Nat.zero_add, Nat.add_zero, Nat.sub_zero, Nat.sub_self, ↓reduceIte, if_true, if_false, Bool.not_true, Bool.not_false, Bool.false_eq_true, Bool.true_eq_false, decide_true, decide_false, decide_not, true_and, and_true, and_self, true_or, or_true, not_true_eq_false, not_false_eq_true, ne_eq, reduceCtorEq, Int.reduceLT, Int.reduceLE, Int.reduceNeg, Int.reduceSub, Int.reduceAdd, Int.reduceMul, Int.reducePow, Int.reduceToNat, sz, D.dat, D.datL, D.dep, D.depL, szl, inb, List.any_cons, List.any_nil, Bool.true_and, Bool.false_and, Bool.and_true, Bool.and_false, Bool.or_false, Bool.false_or, Bool.true_or, Bool.or_true, Nat.max_self, Nat.max_zero, Nat.zero_max, Nat.min_self, Nat.zero_le, Nat.min_zero, Nat.zero_min, iR1, iR2, rng1, rng2, iE, itOf, sFor, bYes, Option.isNone_some, Option.isSome_some, Option.isNone_none, Option.isSome_none, Option.some.injEq, dEq_int, dNe_int, dEq_II, dEq_OO, dEq_OI, dEq_IO, dEq_PP, dNe_PP, dIs_O, dIsnt_O, dIs_I, dIsnt_I, dIs_non, dIsnt_non, dIn_IT, dIn_IL, dIdx_tup, dIdx_lst, dIdx_scr, dAdd_int, atI0, atI1, atI2, atI3, atI4, atI5, vw_last, get_last, set_last, app_last, rp, itOf_T] <;> rfl)) trivial hrl (fun l hm => ⟨_, wipe_gN, rfl, fun _ => by (simp only [sSeq, sIf, sB, sE, sAsg, sRet, sRetN, sNil, sExpr, sBrk, sCnt, gN, gT, gsC, gsN, FK.e1, FK.e2, eC, eVar, eCall, aNil, aCons, M.bind, M.pure, eTup, eLst, eNew, eSl, oNone, oSome, bT, bNot, bAnd, bOr, eAnd, eOr, eNot, eIf, eCh, truth, eMs, eMl, dSub, dMul, dFdiv, dMod, dLe, dLt, dGe, dGt, D.isNon, dSl, dLen, dInt, dOrd_one, dMax2, dMin2, dTuple, dList, dListC, dApp, dNeg, vw, seq, lstOf, fnD, List.map_cons, List.map_nil, List.length_cons, List.length_nil, List.cons_append, List.nil_append, List.append_nil, List.replicate_succ, List.replicate_zero, List.getElem?_cons_zero, List.getElem?_cons_succ, List.set_cons_zero, List.set_cons_succ, Int.cast_ofNat_Int, Nat.reduceBEq, Int.reduceBEq, Nat.reduceAdd, Nat.reduceSub, Nat.reduceLT, Nat.reduceLeDiff, Nat.zero_add, Nat.add_zero, Nat.sub_zero, Nat.sub_self, ↓reduceIte, if_true, if_false, Bool.not_true, Bool.not_false, Bool.false_eq_true, Bool.true_eq_false, decide_true, decide_false, decide_not, true_and, and_true, and_self, true_or, or_true, not_true_eq_false, not_false_eq_true, ne_eq, reduceCtorEq, Int.reduceLT, Int.reduceLE, Int.reduceNeg, Int.reduceSub, Int.reduceAdd, Int.reduceMul, Int.reducePow, Int.reduceToNat, sz, D.dat, D.datL, D.dep, D.depL, szl, inb, List.any_cons, List.any_nil, Bool.true_and, Bool.false_and, Bool.and_true, Bool.and_false, Bool.or_false, Bool.false_or, Bool.true_or, Bool.or_true, Nat.max_self, Nat.max_zero, Nat.zero_max, Nat.min_self, Nat.zero_le, Nat.min_zero, Nat.zero_min, iR1, iR2, rng1, rng2, iE, itOf, sFor, bYes, Option.isNone_some, Option.isSome_some, Option.isNone_none, Option.isSome_none, Option.some.injEq, dEq_int, dNe_int, dEq_II, dEq_OO, dEq_OI, dEq_IO, dEq_PP, dNe_PP, dIs_O, dIsnt_O, dIs_I, dIsnt_I, dIs_non, dIsnt_non, dIn_IT, dIn_IL, dIdx_tup, dIdx_lst, dIdx_scr, dAdd_int, atI0, atI1, atI2, atI3, atI4, atI5, vw_last, get_last, set_last, app_last] <;> rfl)⟩)
      rw [List.filter_eq_self.mpr (by simp)] at la
      have an : dAny [.lst ((repl x).map fun i => .bl (decide (i ∈ as.map Ln.head)))] [] = .ok (.bl false) [] := by
        show (match blsD ((repl x).map fun i => D.bl (decide (i ∈ as.map Ln.head))) with | some bs => R.ok (D.bl (bs.any id)) [] | none => .bad) = _
        rw [blsD_all]
        show R.ok (D.bl (List.any _ id)) [] = _
        have : ((repl x).map fun i => decide (i ∈ as.map Ln.head)).any id = false := by
          rw [List.any_eq_false]
          intro b hb
          obtain ⟨i, hi, rfl⟩ := List.mem_map.mp hb
          rw [decide_eq_false (r1 i hi)]
          decide
        rw [this]
      refine Good.seq (Good.nx (ρ := [some (scrD ns), some (.lst (as.map encL)), some (encE x), some (.lst ((as.map Ln.head).map encI)), none, none, none, none]) (h := []) (by (simp only [sSeq, sIf, sB, sE, sAsg, sRet, sRetN, sNil, sExpr, sBrk, sCnt, gN, gT, gsC, gsN, FK.e1, FK.e2, eC, eVar, eCall, aNil, aCons, M.bind, M.pure, eTup, eLst, eNew, eSl, oNone, oSome, bT, bNot, bAnd, bOr, eAnd, eOr, eNot, eIf, eCh, truth, eMs, eMl, dSub, dMul, dFdiv, dMod, dLe, dLt, dGe, dGt, D.isNon, dSl, dLen, dInt, dOrd_one, dMax2, dMin2, dTuple, dList, dListC, dApp, dNeg, vw, seq, lstOf, fnD, List.map_cons, List.map_nil, List.length_cons, List.length_nil, List.cons_append, List.nil_append, List.append_nil, List.replicate_succ, List.replicate_zero, List.getElem?_cons_zero, List.getElem?_cons_succ, List.set_cons_zero, List.set_cons_succ, Int.cast_ofNat_Int, Nat.reduceBEq, Int.reduceBEq, Nat.reduceAdd, Nat.reduceSub, Nat.reduceLT, Nat.reduceLeDiff, Nat.zero_add, Nat.add_zero, Nat.sub_zero, Nat.sub_self, ↓reduceIte, if_true, if_false, Bool.not_true, Bool.not_false, Bool.false_eq_true, Bool.true_eq_false, decide_true, decide_false, decide_not, true_and, and_true, and_self, true_or, or_true, not_true_eq_false, not_false_eq_true, ne_eq, reduceCtorEq, Int.reduceLT, Int.reduceLE, Int.reduceNeg, Int.reduceSub, Int.reduceAdd, Int.reduceMul, Int.reducePow, Int.reduceToNat, sz, D.dat, D.datL, D.dep, D.depL, szl, inb, List.any_cons, List.any_nil, Bool.true_and, Bool.false_and, Bool.and_true, Bool.and_false, Bool.or_false, Bool.false_or, Bool.true_or, Bool.or_true, Nat.max_self, Nat.max_zero, Nat.zero_max, Nat.min_self, Nat.zero_le, Nat.min_zero, Nat.zero_min, iR1, iR2, rng1, rng2, iE, itOf, sFor, bYes, Option.isNone_some, Option.isSome_some, Option.isNone_none, Option.isSome_none, Option.some.injEq, dEq_int, dNe_int, dEq_II, dEq_OO, dEq_OI, dEq_IO, dEq_PP, dNe_PP, dIs_O, dIsnt_O, dIs_I, dIsnt_I, dIs_non, dIsnt_non, dIn_IT, dIn_IL, dIdx_tup, dIdx_lst, dIdx_scr, dAdd_int, atI0, atI1, atI2, atI3, atI4, atI5, vw_last, get_last, set_last, app_last, ls1, la, an] <;> rfl)) ?_)
      cases x with
      | write i p c m rs =>
        have hin : i ∈ as.map Ln.head := r2 ⟨_, _, _, _, _, rfl⟩
        have x1 : dIdx (encE (.write i p c m rs)) (.int 1) [] = .ok (encI i) [] := rfl
        exact Good.nx (by (simp only [sSeq, sIf, sB, sE, sAsg, sRet, sRetN, sNil, sExpr, sBrk, sCnt, gN, gT, gsC, gsN, FK.e1, FK.e2, eC, eVar, eCall, aNil, aCons, M.bind, M.pure, eTup, eLst, eNew, eSl, oNone, oSome, bT, bNot, bAnd, bOr, eAnd, eOr, eNot, eIf, eCh, truth, eMs, eMl, dSub, dMul, dFdiv, dMod, dLe, dLt, dGe, dGt, D.isNon, dSl, dLen, dInt, dOrd_one, dMax2, dMin2, dTuple, dList, dListC, dApp, dNeg, vw, seq, lstOf, fnD, List.map_cons, List.map_nil, List.length_cons, List.length_nil, List.cons_append, List.nil_append, List.append_nil, List.replicate_succ, List.replicate_zero, List.getElem?_cons_zero, List.getElem?_cons_succ, List.set_cons_zero, List.set_cons_succ, Int.cast_ofNat_Int, Nat.reduceBEq, Int.reduceBEq, Nat.reduceAdd, Nat.reduceSub, Nat.reduceLT, Nat.reduceLeDiff, Nat.zero_add, Nat.add_zero, Nat.sub_zero, Nat.sub_self, ↓reduceIte, if_true, if_false, Bool.not_true, Bool.not_false, Bool.false_eq_true, Bool.true_eq_false, decide_true, decide_false, decide_not, true_and, and_true, and_self, true_or, or_true, not_true_eq_false, not_false_eq_true, ne_eq, reduceCtorEq, Int.reduceLT, Int.reduceLE, Int.reduceNeg, Int.reduceSub, Int.reduceAdd, Int.reduceMul, Int.reducePow, Int.reduceToNat, sz, D.dat, D.datL, D.dep, D.depL, szl, inb, List.any_cons, List.any_nil, Bool.true_and, Bool.false_and, Bool.and_true, Bool.and_false, Bool.or_false, Bool.false_or, Bool.true_or, Bool.or_true, Nat.max_self, Nat.max_zero, Nat.zero_max, Nat.min_self, Nat.zero_le, Nat.min_zero, Nat.zero_min, iR1, iR2, rng1, rng2, iE, itOf, sFor, bYes, Option.isNone_some, Option.isSome_some, Option.isNone_none, Option.isSome_none, Option.some.injEq, dEq_int, dNe_int, dEq_II, dEq_OO, dEq_OI, dEq_IO, dEq_PP, dNe_PP, dIs_O, dIsnt_O, dIs_I, dIsnt_I, dIs_non, dIsnt_non, dIn_IT, dIn_IL, dIdx_tup, dIdx_lst, dIdx_scr, dAdd_int, atI0, atI1, atI2, atI3, atI4, atI5, vw_last, get_last, set_last, app_last, ixE_wr, dEq_str, wd_ww, x1, dNotIn_IL, hin] <;> rfl)) ⟨rfl, _, _, rfl⟩
      | drop i hs =>
        have x0 : dIdx (encE (.drop i hs)) (.int 0) [] = .ok (.str "drop") [] := rfl
        exact Good.nx (by (simp only [sSeq, sIf, sB, sE, sAsg, sRet, sRetN, sNil, sExpr, sBrk, sCnt, gN, gT, gsC, gsN, FK.e1, FK.e2, eC, eVar, eCall, aNil, aCons, M.bind, M.pure, eTup, eLst, eNew, eSl, oNone, oSome, bT, bNot, bAnd, bOr, eAnd, eOr, eNot, eIf, eCh, truth, eMs, eMl, dSub, dMul, dFdiv, dMod, dLe, dLt, dGe, dGt, D.isNon, dSl, dLen, dInt, dOrd_one, dMax2, dMin2, dTuple, dList, dListC, dApp, dNeg, vw, seq, lstOf, fnD, List.map_cons, List.map_nil, List.length_cons, List.length_nil, List.cons_append, List.nil_append, List.append_nil, List.replicate_succ, List.replicate_zero, List.getElem?_cons_zero, List.getElem?_cons_succ, List.set_cons_zero, List.set_cons_succ, Int.cast_ofNat_Int, Nat.reduceBEq, Int.reduceBEq, Nat.reduceAdd, Nat.reduceSub, Nat.reduceLT, Nat.reduceLeDiff, Nat.zero_add, Nat.add_zero, Nat.sub_zero, Nat.sub_self, ↓reduceIte, if_true, if_false, Bool.not_true, Bool.not_false, Bool.false_eq_true, Bool.true_eq_false, decide_true, decide_false, decide_not, true_and, and_true, and_self, true_or, or_true, not_true_eq_false, not_false_eq_true, ne_eq, reduceCtorEq, Int.reduceLT, Int.reduceLE, Int.reduceNeg, Int.reduceSub, Int.reduceAdd, Int.reduceMul, Int.reducePow, Int.reduceToNat, sz, D.dat, D.datL, D.dep, D.depL, szl, inb, List.any_cons, List.any_nil, Bool.true_and, Bool.false_and, Bool.and_true, Bool.and_false, Bool.or_false, Bool.false_or, Bool.true_or, Bool.or_true, Nat.max_self, Nat.max_zero, Nat.zero_max, Nat.min_self, Nat.zero_le, Nat.min_zero, Nat.zero_min, iR1, iR2, rng1, rng2, iE, itOf, sFor, bYes, Option.isNone_some, Option.isSome_some, Option.isNone_none, Option.isSome_none, Option.some.injEq, dEq_int, dNe_int, dEq_II, dEq_OO, dEq_OI, dEq_IO, dEq_PP, dNe_PP, dIs_O, dIsnt_O, dIs_I, dIsnt_I, dIs_non, dIsnt_non, dIn_IT, dIn_IL, dIdx_tup, dIdx_lst, dIdx_scr, dAdd_int, atI0, atI1, atI2, atI3, atI4, atI5, vw_last, get_last, set_last, app_last, x0, dEq_str, wd_dw] <;> rfl)) ⟨rfl, _, _, rfl⟩
      | move i ms =>
        have x0 : dIdx (encE (.move i ms)) (.int 0) [] = .ok (.str "move") [] := rfl
        exact Good.nx (by (simp only [sSeq, sIf, sB, sE, sAsg, sRet, sRetN, sNil, sExpr, sBrk, sCnt, gN, gT, gsC, gsN, FK.e1, FK.e2, eC, eVar, eCall, aNil, aCons, M.bind, M.pure, eTup, eLst, eNew, eSl, oNone, oSome, bT, bNot, bAnd, bOr, eAnd, eOr, eNot, eIf, eCh, truth, eMs, eMl, dSub, dMul, dFdiv, dMod, dLe, dLt, dGe, dGt, D.isNon, dSl, dLen, dInt, dOrd_one, dMax2, dMin2, dTuple, dList, dListC, dApp, dNeg, vw, seq, lstOf, fnD, List.map_cons, List.map_nil, List.length_cons, List.length_nil, List.cons_append, List.nil_append, List.append_nil, List.replicate_succ, List.replicate_zero, List.getElem?_cons_zero, List.getElem?_cons_succ, List.set_cons_zero, List.set_cons_succ, Int.cast_ofNat_Int, Nat.reduceBEq, Int.reduceBEq, Nat.reduceAdd, Nat.reduceSub, Nat.reduceLT, Nat.reduceLeDiff, Nat.zero_add, Nat.add_zero, Nat.sub_zero, Nat.sub_self, ↓reduceIte, if_true, if_false, Bool.not_true, Bool.not_false, Bool.false_eq_true, Bool.true_eq_false, decide_true, decide_false, decide_not, true_and, and_true, and_self, true_or, or_true, not_true_eq_false, not_false_eq_true, ne_eq, reduceCtorEq, Int.reduceLT, Int.reduceLE, Int.reduceNeg, Int.reduceSub, Int.reduceAdd, Int.reduceMul, Int.reducePow, Int.reduceToNat, sz, D.dat, D.datL, D.dep, D.depL, szl, inb, List.any_cons, List.any_nil, Bool.true_and, Bool.false_and, Bool.and_true, Bool.and_false, Bool.or_false, Bool.false_or, Bool.true_or, Bool.or_true, Nat.max_self, Nat.max_zero, Nat.zero_max, Nat.min_self, Nat.zero_le, Nat.min_zero, Nat.zero_min, iR1, iR2, rng1, rng2, iE, itOf, sFor, bYes, Option.isNone_some, Option.isSome_some, Option.isNone_none, Option.isSome_none, Option.some.injEq, dEq_int, dNe_int, dEq_II, dEq_OO, dEq_OI, dEq_IO, dEq_PP, dNe_PP, dIs_O, dIsnt_O, dIs_I, dIsnt_I, dIs_non, dIsnt_non, dIn_IT, dIn_IL, dIdx_tup, dIdx_lst, dIdx_scr, dAdd_int, atI0, atI1, atI2, atI3, atI4, atI5, vw_last, get_last, set_last, app_last, x0, dEq_str, wd_mw] <;> rfl)) ⟨rfl, _, _, rfl⟩
    · rintro ρ h ⟨rfl, y, z, rfl⟩
      obtain ⟨w, i, hi, _, hlen⟩ := fin
      have hid : ∀ l ∈ es.foldl afterL [], l.id.1 < 77 ∧ l.id.2 < 7 := fun l hl => by
        obtain ⟨j, hj, e⟩ := hi l.id (List.mem_map.mpr ⟨l, hl, rfl⟩)
        rw [e]
        unfold idK
        dsimp only
        omega
      generalize es.foldl afterL [] = ls at *
      have hr : inR (ls.length : Int) := inR_nat (by omega)
      refine Good.seq (Good.fold (en := fun k : Nat => D.int (k : Int)) (st := fun (s : Unit) _ => s) (o := none) (h := []) (I := fun _ ρ => ∃ u v, ρ = [some (scrD ns), some (.lst (ls.map encL)), y, z, u, v, none, none]) (xs := List.range ls.length) (s := ()) ?_ trivial ⟨none, none, rfl⟩ ?_ ?_)
      · rw [← rangeD_nat]
        (simp only [sSeq, sIf, sB, sE, sAsg, sRet, sRetN, sNil, sExpr, sBrk, sCnt, gN, gT, gsC, gsN, FK.e1, FK.e2, eC, eVar, eCall, aNil, aCons, M.bind, M.pure, eTup, eLst, eNew, eSl, oNone, oSome, bT, bNot, bAnd, bOr, eAnd, eOr, eNot, eIf, eCh, truth, eMs, eMl, dSub, dMul, dFdiv, dMod, dLe, dLt, dGe, dGt, D.isNon, dSl, dLen, dInt, dOrd_one, dMax2, dMin2, dTuple, dList, dListC, dApp, dNeg, vw, seq, lstOf, fnD, List.map_cons, List.map_nil, List.length_cons, List.length_nil, List.cons_append, List.nil_append, List.append_nil, List.replicate_succ, List.replicate_zero, List.getElem?_cons_zero, List.getElem?_cons_succ, List.set_cons_zero, List.set_cons_succ, Int.cast_ofNat_Int, Nat.reduceBEq, Int.reduceBEq, Nat.reduceAdd, Nat.reduceSub, Nat.reduceLT, Nat.reduceLeDiff, Nat.zero_add, Nat.add_zero, Nat.sub_zero, Nat.sub_self, ↓reduceIte, if_true, if_false, Bool.not_true, Bool.not_false, Bool.false_eq_true, Bool.true_eq_false, decide_true, decide_false, decide_not, true_and, and_true, and_self, true_or, or_true, not_true_eq_false, not_false_eq_true, ne_eq, reduceCtorEq, Int.reduceLT, Int.reduceLE, Int.reduceNeg, Int.reduceSub, Int.reduceAdd, Int.reduceMul, Int.reducePow, Int.reduceToNat, sz, D.dat, D.datL, D.dep, D.depL, szl, inb, List.any_cons, List.any_nil, Bool.true_and, Bool.false_and, Bool.and_true, Bool.and_false, Bool.or_false, Bool.false_or, Bool.true_or, Bool.or_true, Nat.max_self, Nat.max_zero, Nat.zero_max, Nat.min_self, Nat.zero_le, Nat.min_zero, Nat.zero_min, iR1, iR2, rng1, rng2, iE, itOf, sFor, bYes, Option.isNone_some, Option.isSome_some, Option.isNone_none, Option.isSome_none, Option.some.injEq, dEq_int, dNe_int, dEq_II, dEq_OO, dEq_OI, dEq_IO, dEq_PP, dNe_PP, dIs_O, dIsnt_O, dIs_I, dIsnt_I, dIs_non, dIsnt_non, dIn_IT, dIn_IL, dIdx_tup, dIdx_lst, dIdx_scr, dAdd_int, atI0, atI1, atI2, atI3, atI4, atI5, vw_last, get_last, set_last, app_last, List.length_map, if_pos hr] <;> rfl)
      · rintro k hk s ρ ⟨u, v, rfl⟩
        have hk := List.mem_range.mp hk
        refine ⟨_, rfl, ?_⟩
        have wo := wrong_ok hk (by omega) []
        have wb := wrongs_bad w i hid hk
        have G : Good (FK.sFor (iE (eCall (callP 2 d_l_wrong) (aCons (eVar 1) (aCons (eVar 4) (aNil))))) (gN 5) (sIf (bT (eCall (callP 1 d_lines_sound) (aCons (eVar 5) (aNil)))) (sRet (eC (.bl false))) (sNil)) [some (scrD ns), some (.lst (ls.map encL)), y, z, some (.int k), v, none, none] []) (fun ρ' h' => h' = [] ∧ ∃ v, ρ' = [some (scrD ns), some (.lst (ls.map encL)), y, z, some (.int k), v, none, none]) (fun _ _ => False) := by
          refine Good.fold (en := encLs) (st := fun (s : Unit) _ => s) (o := none) (h := []) (I := fun _ ρ => ∃ v, ρ = [some (scrD ns), some (.lst (ls.map encL)), y, z, some (.int k), v, none, none]) (xs := wrongs ls k) (s := ()) (by (simp only [sSeq, sIf, sB, sE, sAsg, sRet, sRetN, sNil, sExpr, sBrk, sCnt, gN, gT, gsC, gsN, FK.e1, FK.e2, eC, eVar, eCall, aNil, aCons, M.bind, M.pure, eTup, eLst, eNew, eSl, oNone, oSome, bT, bNot, bAnd, bOr, eAnd, eOr, eNot, eIf, eCh, truth, eMs, eMl, dSub, dMul, dFdiv, dMod, dLe, dLt, dGe, dGt, D.isNon, dSl, dLen, dInt, dOrd_one, dMax2, dMin2, dTuple, dList, dListC, dApp, dNeg, vw, seq, lstOf, fnD, List.map_cons, List.map_nil, List.length_cons, List.length_nil, List.cons_append, List.nil_append, List.append_nil, List.replicate_succ, List.replicate_zero, List.getElem?_cons_zero, List.getElem?_cons_succ, List.set_cons_zero, List.set_cons_succ, Int.cast_ofNat_Int, Nat.reduceBEq, Int.reduceBEq, Nat.reduceAdd, Nat.reduceSub, Nat.reduceLT, Nat.reduceLeDiff, Nat.zero_add, Nat.add_zero, Nat.sub_zero, Nat.sub_self, ↓reduceIte, if_true, if_false, Bool.not_true, Bool.not_false, Bool.false_eq_true, Bool.true_eq_false, decide_true, decide_false, decide_not, true_and, and_true, and_self, true_or, or_true, not_true_eq_false, not_false_eq_true, ne_eq, reduceCtorEq, Int.reduceLT, Int.reduceLE, Int.reduceNeg, Int.reduceSub, Int.reduceAdd, Int.reduceMul, Int.reducePow, Int.reduceToNat, sz, D.dat, D.datL, D.dep, D.depL, szl, inb, List.any_cons, List.any_nil, Bool.true_and, Bool.false_and, Bool.and_true, Bool.and_false, Bool.or_false, Bool.false_or, Bool.true_or, Bool.or_true, Nat.max_self, Nat.max_zero, Nat.zero_max, Nat.min_self, Nat.zero_le, Nat.min_zero, Nat.zero_min, iR1, iR2, rng1, rng2, iE, itOf, sFor, bYes, Option.isNone_some, Option.isSome_some, Option.isNone_none, Option.isSome_none, Option.some.injEq, dEq_int, dNe_int, dEq_II, dEq_OO, dEq_OI, dEq_IO, dEq_PP, dNe_PP, dIs_O, dIsnt_O, dIs_I, dIsnt_I, dIs_non, dIsnt_non, dIn_IT, dIn_IL, dIdx_tup, dIdx_lst, dIdx_scr, dAdd_int, atI0, atI1, atI2, atI3, atI4, atI5, vw_last, get_last, set_last, app_last, wo] <;> rfl)) trivial ⟨v, rfl⟩ ?_ ?_
          · rintro ws hws s ρ ⟨v, rfl⟩
            obtain ⟨b1, b2⟩ := wb ws hws
            have ls1 : callP 1 d_lines_sound [encLs ws] [] = .ok (.bl (soundB ws)) [] := lines_sound_ok ws (by omega) []
            rw [b1] at ls1
            exact ⟨_, rfl, _, by (simp only [sSeq, sIf, sB, sE, sAsg, sRet, sRetN, sNil, sExpr, sBrk, sCnt, gN, gT, gsC, gsN, FK.e1, FK.e2, eC, eVar, eCall, aNil, aCons, M.bind, M.pure, eTup, eLst, eNew, eSl, oNone, oSome, bT, bNot, bAnd, bOr, eAnd, eOr, eNot, eIf, eCh, truth, eMs, eMl, dSub, dMul, dFdiv, dMod, dLe, dLt, dGe, dGt, D.isNon, dSl, dLen, dInt, dOrd_one, dMax2, dMin2, dTuple, dList, dListC, dApp, dNeg, vw, seq, lstOf, fnD, List.map_cons, List.map_nil, List.length_cons, List.length_nil, List.cons_append, List.nil_append, List.append_nil, List.replicate_succ, List.replicate_zero, List.getElem?_cons_zero, List.getElem?_cons_succ, List.set_cons_zero, List.set_cons_succ, Int.cast_ofNat_Int, Nat.reduceBEq, Int.reduceBEq, Nat.reduceAdd, Nat.reduceSub, Nat.reduceLT, Nat.reduceLeDiff, Nat.zero_add, Nat.add_zero, Nat.sub_zero, Nat.sub_self, ↓reduceIte, if_true, if_false, Bool.not_true, Bool.not_false, Bool.false_eq_true, Bool.true_eq_false, decide_true, decide_false, decide_not, true_and, and_true, and_self, true_or, or_true, not_true_eq_false, not_false_eq_true, ne_eq, reduceCtorEq, Int.reduceLT, Int.reduceLE, Int.reduceNeg, Int.reduceSub, Int.reduceAdd, Int.reduceMul, Int.reducePow, Int.reduceToNat, sz, D.dat, D.datL, D.dep, D.depL, szl, inb, List.any_cons, List.any_nil, Bool.true_and, Bool.false_and, Bool.and_true, Bool.and_false, Bool.or_false, Bool.false_or, Bool.true_or, Bool.or_true, Nat.max_self, Nat.max_zero, Nat.zero_max, Nat.min_self, Nat.zero_le, Nat.min_zero, Nat.zero_min, iR1, iR2, rng1, rng2, iE, itOf, sFor, bYes, Option.isNone_some, Option.isSome_some, Option.isNone_none, Option.isSome_none, Option.some.injEq, dEq_int, dNe_int, dEq_II, dEq_OO, dEq_OI, dEq_IO, dEq_PP, dNe_PP, dIs_O, dIsnt_O, dIs_I, dIsnt_I, dIs_non, dIsnt_non, dIn_IT, dIn_IL, dIdx_tup, dIdx_lst, dIdx_scr, dAdd_int, atI0, atI1, atI2, atI3, atI4, atI5, vw_last, get_last, set_last, app_last, ls1] <;> rfl), _, rfl⟩
          · rintro ρ' ⟨v, rfl⟩
            exact ⟨rfl, _, rfl⟩
        obtain ⟨ρ2, h2, e2, rfl, v2, rfl⟩ := G.toNx
        exact ⟨_, e2, _, _, rfl⟩
      · rintro ρ' ⟨u, v, rfl⟩
        have lt0 : callP 1 d_lines_sound [.tup []] [] = .ok (.bl true) [] := by
          refine callP_ok (d := .bl true) (h' := []) rfl (Good.fnE (ρ := [some (.tup []), none, none, none, none, none, none, none]) ?_) (fz_nr rfl)
          unfold b_lines_sound
          have li := eLc_fm (en := encL) (fun _ => true) (fun l => encI l.id) (it := iE (eVar 0)) (g := gN 7) (b := bYes) (f := (FK.e2 dIdx (eVar 7) (eC (.int 0)))) (vs := [7]) (ρ := [some (.tup []), none, none, none, none, none, none, none]) (h := []) (o := none) (xs := []) rfl trivial (by decide) (fun l hm => (by cases hm))
          have lh := eLc_fm (en := encL) (fun _ => true) (fun l => encI l.head) (it := iE (eVar 0)) (g := gN 7) (b := bYes) (f := (FK.e2 dIdx (eVar 7) (eC (.int 1)))) (vs := [7]) (ρ := [some (.tup []), none, none, none, none, none, none, none]) (h := []) (o := none) (xs := []) rfl trivial (by decide) (fun l hm => (by cases hm))
          have as : callP 1 d_ascending [.lst []] [] = .ok (.bl true) [] := ascending_ok [] (by decide) []
          have l0 : dLenSet (.lst []) [] = .ok (.int 0) [] := rfl
          have li : _ = R.ok (D.lst []) [] := li
          have lh : _ = R.ok (D.lst []) [] := lh
          refine Good.seq (Good.nx (ρ := [some (.tup []), none, none, none, none, none, none, none]) (h := []) (by (simp only [sSeq, sIf, sB, sE, sAsg, sRet, sRetN, sNil, sExpr, sBrk, sCnt, gN, gT, gsC, gsN, FK.e1, FK.e2, eC, eVar, eCall, aNil, aCons, M.bind, M.pure, eTup, eLst, eNew, eSl, oNone, oSome, bT, bNot, bAnd, bOr, eAnd, eOr, eNot, eIf, eCh, truth, eMs, eMl, dSub, dMul, dFdiv, dMod, dLe, dLt, dGe, dGt, D.isNon, dSl, dLen, dInt, dOrd_one, dMax2, dMin2, dTuple, dList, dListC, dApp, dNeg, vw, seq, lstOf, fnD, List.map_cons, List.map_nil, List.length_cons, List.length_nil, List.cons_append, List.nil_append, List.append_nil, List.replicate_succ, List.replicate_zero, List.getElem?_cons_zero, List.getElem?_cons_succ, List.set_cons_zero, List.set_cons_succ, Int.cast_ofNat_Int, Nat.reduceBEq, Int.reduceBEq, Nat.reduceAdd, Nat.reduceSub, Nat.reduceLT, Nat.reduceLeDiff, Nat.zero_add, Nat.add_zero, Nat.sub_zero, Nat.sub_self, ↓reduceIte, if_true, if_false, Bool.not_true, Bool.not_false, Bool.false_eq_true, Bool.true_eq_false, decide_true, decide_false, decide_not, true_and, and_true, and_self, true_or, or_true, not_true_eq_false, not_false_eq_true, ne_eq, reduceCtorEq, Int.reduceLT, Int.reduceLE, Int.reduceNeg, Int.reduceSub, Int.reduceAdd, Int.reduceMul, Int.reducePow, Int.reduceToNat, sz, D.dat, D.datL, D.dep, D.depL, szl, inb, List.any_cons, List.any_nil, Bool.true_and, Bool.false_and, Bool.and_true, Bool.and_false, Bool.or_false, Bool.false_or, Bool.true_or, Bool.or_true, Nat.max_self, Nat.max_zero, Nat.zero_max, Nat.min_self, Nat.zero_le, Nat.min_zero, Nat.zero_min, iR1, iR2, rng1, rng2, iE, itOf, sFor, bYes, Option.isNone_some, Option.isSome_some, Option.isNone_none, Option.isSome_none, Option.some.injEq, dEq_int, dNe_int, dEq_II, dEq_OO, dEq_OI, dEq_IO, dEq_PP, dNe_PP, dIs_O, dIsnt_O, dIs_I, dIsnt_I, dIs_non, dIsnt_non, dIn_IT, dIn_IL, dIdx_tup, dIdx_lst, dIdx_scr, dAdd_int, atI0, atI1, atI2, atI3, atI4, atI5, vw_last, get_last, set_last, app_last, li, as] <;> rfl)) ?_)
          refine Good.seq (Good.nx (ρ := [some (.tup []), some (.lst []), none, none, none, none, none, none]) (h := []) (by (simp only [sSeq, sIf, sB, sE, sAsg, sRet, sRetN, sNil, sExpr, sBrk, sCnt, gN, gT, gsC, gsN, FK.e1, FK.e2, eC, eVar, eCall, aNil, aCons, M.bind, M.pure, eTup, eLst, eNew, eSl, oNone, oSome, bT, bNot, bAnd, bOr, eAnd, eOr, eNot, eIf, eCh, truth, eMs, eMl, dSub, dMul, dFdiv, dMod, dLe, dLt, dGe, dGt, D.isNon, dSl, dLen, dInt, dOrd_one, dMax2, dMin2, dTuple, dList, dListC, dApp, dNeg, vw, seq, lstOf, fnD, List.map_cons, List.map_nil, List.length_cons, List.length_nil, List.cons_append, List.nil_append, List.append_nil, List.replicate_succ, List.replicate_zero, List.getElem?_cons_zero, List.getElem?_cons_succ, List.set_cons_zero, List.set_cons_succ, Int.cast_ofNat_Int, Nat.reduceBEq, Int.reduceBEq, Nat.reduceAdd, Nat.reduceSub, Nat.reduceLT, Nat.reduceLeDiff, Nat.zero_add, Nat.add_zero, Nat.sub_zero, Nat.sub_self, ↓reduceIte, if_true, if_false, Bool.not_true, Bool.not_false, Bool.false_eq_true, Bool.true_eq_false, decide_true, decide_false, decide_not, true_and, and_true, and_self, true_or, or_true, not_true_eq_false, not_false_eq_true, ne_eq, reduceCtorEq, Int.reduceLT, Int.reduceLE, Int.reduceNeg, Int.reduceSub, Int.reduceAdd, Int.reduceMul, Int.reducePow, Int.reduceToNat, sz, D.dat, D.datL, D.dep, D.depL, szl, inb, List.any_cons, List.any_nil, Bool.true_and, Bool.false_and, Bool.and_true, Bool.and_false, Bool.or_false, Bool.false_or, Bool.true_or, Bool.or_true, Nat.max_self, Nat.max_zero, Nat.zero_max, Nat.min_self, Nat.zero_le, Nat.min_zero, Nat.zero_min, iR1, iR2, rng1, rng2, iE, itOf, sFor, bYes, Option.isNone_some, Option.isSome_some, Option.isNone_none, Option.isSome_none, Option.some.injEq, dEq_int, dNe_int, dEq_II, dEq_OO, dEq_OI, dEq_IO, dEq_PP, dNe_PP, dIs_O, dIsnt_O, dIs_I, dIsnt_I, dIs_non, dIsnt_non, dIn_IT, dIn_IL, dIdx_tup, dIdx_lst, dIdx_scr, dAdd_int, atI0, atI1, atI2, atI3, atI4, atI5, vw_last, get_last, set_last, app_last, lh] <;> rfl)) ?_)
          refine Good.seq (Good.nx (ρ := [some (.tup []), some (.lst []), none, none, none, none, none, none]) (h := []) (by (simp only [sSeq, sIf, sB, sE, sAsg, sRet, sRetN, sNil, sExpr, sBrk, sCnt, gN, gT, gsC, gsN, FK.e1, FK.e2, eC, eVar, eCall, aNil, aCons, M.bind, M.pure, eTup, eLst, eNew, eSl, oNone, oSome, bT, bNot, bAnd, bOr, eAnd, eOr, eNot, eIf, eCh, truth, eMs, eMl, dSub, dMul, dFdiv, dMod, dLe, dLt, dGe, dGt, D.isNon, dSl, dLen, dInt, dOrd_one, dMax2, dMin2, dTuple, dList, dListC, dApp, dNeg, vw, seq, lstOf, fnD, List.map_cons, List.map_nil, List.length_cons, List.length_nil, List.cons_append, List.nil_append, List.append_nil, List.replicate_succ, List.replicate_zero, List.getElem?_cons_zero, List.getElem?_cons_succ, List.set_cons_zero, List.set_cons_succ, Int.cast_ofNat_Int, Nat.reduceBEq, Int.reduceBEq, Nat.reduceAdd, Nat.reduceSub, Nat.reduceLT, Nat.reduceLeDiff, Nat.zero_add, Nat.add_zero, Nat.sub_zero, Nat.sub_self, ↓reduceIte, if_true, if_false, Bool.not_true, Bool.not_false, Bool.false_eq_true, Bool.true_eq_false, decide_true, decide_false, decide_not, true_and, and_true, and_self, true_or, or_true, not_true_eq_false, not_false_eq_true, ne_eq, reduceCtorEq, Int.reduceLT, Int.reduceLE, Int.reduceNeg, Int.reduceSub, Int.reduceAdd, Int.reduceMul, Int.reducePow, Int.reduceToNat, sz, D.dat, D.datL, D.dep, D.depL, szl, inb, List.any_cons, List.any_nil, Bool.true_and, Bool.false_and, Bool.and_true, Bool.and_false, Bool.or_false, Bool.false_or, Bool.true_or, Bool.or_true, Nat.max_self, Nat.max_zero, Nat.zero_max, Nat.min_self, Nat.zero_le, Nat.min_zero, Nat.zero_min, iR1, iR2, rng1, rng2, iE, itOf, sFor, bYes, Option.isNone_some, Option.isSome_some, Option.isNone_none, Option.isSome_none, Option.some.injEq, dEq_int, dNe_int, dEq_II, dEq_OO, dEq_OI, dEq_IO, dEq_PP, dNe_PP, dIs_O, dIsnt_O, dIs_I, dIsnt_I, dIs_non, dIsnt_non, dIn_IT, dIn_IL, dIdx_tup, dIdx_lst, dIdx_scr, dAdd_int, atI0, atI1, atI2, atI3, atI4, atI5, vw_last, get_last, set_last, app_last, l0] <;> rfl)) ?_)
          refine Good.seq (Good.nx (ρ := [some (.tup []), some (.lst []), none, none, none, none, none, none]) (h := []) rfl ?_)
          exact Good.rt (by (simp only [sSeq, sIf, sB, sE, sAsg, sRet, sRetN, sNil, sExpr, sBrk, sCnt, gN, gT, gsC, gsN, FK.e1, FK.e2, eC, eVar, eCall, aNil, aCons, M.bind, M.pure, eTup, eLst, eNew, eSl, oNone, oSome, bT, bNot, bAnd, bOr, eAnd, eOr, eNot, eIf, eCh, truth, eMs, eMl, dSub, dMul, dFdiv, dMod, dLe, dLt, dGe, dGt, D.isNon, dSl, dLen, dInt, dOrd_one, dMax2, dMin2, dTuple, dList, dListC, dApp, dNeg, vw, seq, lstOf, fnD, List.map_cons, List.map_nil, List.length_cons, List.length_nil, List.cons_append, List.nil_append, List.append_nil, List.replicate_succ, List.replicate_zero, List.getElem?_cons_zero, List.getElem?_cons_succ, List.set_cons_zero, List.set_cons_succ, Int.cast_ofNat_Int, Nat.reduceBEq, Int.reduceBEq, Nat.reduceAdd, Nat.reduceSub, Nat.reduceLT, Nat.reduceLeDiff, Nat.zero_add, Nat.add_zero, Nat.sub_zero, Nat.sub_self, ↓reduceIte, if_true, if_false, Bool.not_true, Bool.not_false, Bool.false_eq_true, Bool.true_eq_false, decide_true, decide_false, decide_not, true_and, and_true, and_self, true_or, or_true, not_true_eq_false, not_false_eq_true, ne_eq, reduceCtorEq, Int.reduceLT, Int.reduceLE, Int.reduceNeg, Int.reduceSub, Int.reduceAdd, Int.reduceMul, Int.reducePow, Int.reduceToNat, sz, D.dat, D.datL, D.dep, D.depL, szl, inb, List.any_cons, List.any_nil, Bool.true_and, Bool.false_and, Bool.and_true, Bool.and_false, Bool.or_false, Bool.false_or, Bool.true_or, Bool.or_true, Nat.max_self, Nat.max_zero, Nat.zero_max, Nat.min_self, Nat.zero_le, Nat.min_zero, Nat.zero_min, iR1, iR2, rng1, rng2, iE, itOf, sFor, bYes, Option.isNone_some, Option.isSome_some, Option.isNone_none, Option.isSome_none, Option.some.injEq, dEq_int, dNe_int, dEq_II, dEq_OO, dEq_OI, dEq_IO, dEq_PP, dNe_PP, dIs_O, dIsnt_O, dIs_I, dIsnt_I, dIs_non, dIsnt_non, dIn_IT, dIn_IL, dIdx_tup, dIdx_lst, dIdx_scr, dAdd_int, atI0, atI1, atI2, atI3, atI4, atI5, vw_last, get_last, set_last, app_last] <;> rfl)) ⟨rfl, rfl⟩
        exact Good.rt (by (simp only [sSeq, sIf, sB, sE, sAsg, sRet, sRetN, sNil, sExpr, sBrk, sCnt, gN, gT, gsC, gsN, FK.e1, FK.e2, eC, eVar, eCall, aNil, aCons, M.bind, M.pure, eTup, eLst, eNew, eSl, oNone, oSome, bT, bNot, bAnd, bOr, eAnd, eOr, eNot, eIf, eCh, truth, eMs, eMl, dSub, dMul, dFdiv, dMod, dLe, dLt, dGe, dGt, D.isNon, dSl, dLen, dInt, dOrd_one, dMax2, dMin2, dTuple, dList, dListC, dApp, dNeg, vw, seq, lstOf, fnD, List.map_cons, List.map_nil, List.length_cons, List.length_nil, List.cons_append, List.nil_append, List.append_nil, List.replicate_succ, List.replicate_zero, List.getElem?_cons_zero, List.getElem?_cons_succ, List.set_cons_zero, List.set_cons_succ, Int.cast_ofNat_Int, Nat.reduceBEq, Int.reduceBEq, Nat.reduceAdd, Nat.reduceSub, Nat.reduceLT, Nat.reduceLeDiff, Nat.zero_add, Nat.add_zero, Nat.sub_zero, Nat.sub_self, ↓reduceIte, if_true, if_false, Bool.not_true, Bool.not_false, Bool.false_eq_true, Bool.true_eq_false, decide_true, decide_false, decide_not, true_and, and_true, and_self, true_or, or_true, not_true_eq_false, not_false_eq_true, ne_eq, reduceCtorEq, Int.reduceLT, Int.reduceLE, Int.reduceNeg, Int.reduceSub, Int.reduceAdd, Int.reduceMul, Int.reducePow, Int.reduceToNat, sz, D.dat, D.datL, D.dep, D.depL, szl, inb, List.any_cons, List.any_nil, Bool.true_and, Bool.false_and, Bool.and_true, Bool.and_false, Bool.or_false, Bool.false_or, Bool.true_or, Bool.or_true, Nat.max_self, Nat.max_zero, Nat.zero_max, Nat.min_self, Nat.zero_le, Nat.min_zero, Nat.zero_min, iR1, iR2, rng1, rng2, iE, itOf, sFor, bYes, Option.isNone_some, Option.isSome_some, Option.isNone_none, Option.isSome_none, Option.some.injEq, dEq_int, dNe_int, dEq_II, dEq_OO, dEq_OI, dEq_IO, dEq_PP, dNe_PP, dIs_O, dIsnt_O, dIs_I, dIsnt_I, dIs_non, dIsnt_non, dIn_IT, dIn_IL, dIdx_tup, dIdx_lst, dIdx_scr, dAdd_int, atI0, atI1, atI2, atI3, atI4, atI5, vw_last, get_last, set_last, app_last, lt0] <;> rfl)) rfl)
  exact ⟨h', e⟩
end FK

/-! part: W_k14 -/
set_option Elab.async false
set_option linter.all false
set_option maxRecDepth 100000
set_option maxHeartbeats 4000000
/-! law_k14_lines_stay_sound: each def is what it is said to be; the end (printed by gen.py) -/
namespace FK
open PySem PySem.Spec L2
def top (i : Nat) : Stmt := PySem.Challenge.pw_foldkeep_k14_lines_stay_sound.main.body.getD i (.Pass ⟨0, 0, 0, 0⟩)
structure Bi (K : PySem.W.Frag) (mg : Str → Option Value) : Prop where
  any : mg "any" = none
  int : mg "int" = none
  len : mg "len" = none
  list : mg "list" = none
  min : mg "min" = none
  range : mg "range" = none
  set : mg "set" = none
  tuple : mg "tuple" = none
abbrev s_l_pick : Stmt := top 20
abbrev N_l_pick : List Str := ["_law_row", "_law_ids"]
theorem sc_l_pick : FnScope ["_law_row", "_law_ids"] ["_law_row", "_law_ids"] (defScope s_l_pick) := ⟨rfl, rfl, rfl, by decide +kernel, rfl, by decide +kernel, by decide +kernel⟩
abbrev s_l_heads : Stmt := top 22
abbrev N_l_heads : List Str := ["_law_row", "_law_ids", "_law_heads_here", "_law_j", "_law_head"]
theorem sc_l_heads : FnScope ["_law_row", "_law_ids", "_law_heads_here", "_law_j", "_law_head"] ["_law_row", "_law_ids"] (defScope s_l_heads) := ⟨rfl, rfl, rfl, by decide +kernel, rfl, by decide +kernel, by decide +kernel⟩
abbrev s_l_path : Stmt := top 19
abbrev N_l_path : List Str := ["_law_row", "_law_most", "_law_names", "_law_j"]
theorem sc_l_path : FnScope ["_law_row", "_law_most", "_law_names", "_law_j"] ["_law_row", "_law_most"] (defScope s_l_path) := ⟨rfl, rfl, rfl, by decide +kernel, rfl, by decide +kernel, by decide +kernel⟩
abbrev s_l_place : Stmt := top 21
abbrev N_l_place : List Str := ["_law_row", "_law_ids"]
theorem sc_l_place : FnScope ["_law_row", "_law_ids"] ["_law_row", "_law_ids"] (defScope s_l_place) := ⟨rfl, rfl, rfl, by decide +kernel, rfl, by decide +kernel, by decide +kernel⟩
abbrev s_l_edit : Stmt := top 23
abbrev N_l_edit : List Str := ["_law_row", "_law_edit_id", "_law_ids", "_law_place_here", "_law_kind", "_law_size", "_law_moved", "_law_j", "_law_head", "_law_line"]
theorem sc_l_edit : FnScope ["_law_row", "_law_edit_id", "_law_ids", "_law_place_here", "_law_kind", "_law_size", "_law_moved", "_law_j", "_law_head", "_law_line"] ["_law_row", "_law_edit_id", "_law_ids"] (defScope s_l_edit) := ⟨rfl, rfl, rfl, by decide +kernel, rfl, by decide +kernel, by decide +kernel⟩
abbrev s_l_rows : Stmt := top 18
abbrev N_l_rows : List Str := ["_law_script", "_law_count", "_law_rows_here", "_law_mixed", "_law_k", "_law_cell"]
theorem sc_l_rows : FnScope ["_law_script", "_law_count", "_law_rows_here", "_law_mixed", "_law_k", "_law_cell"] ["_law_script", "_law_count"] (defScope s_l_rows) := ⟨rfl, rfl, rfl, by decide +kernel, rfl, by decide +kernel, by decide +kernel⟩
abbrev s_l_edits : Stmt := top 24
abbrev N_l_edits : List Str := ["_law_script", "_law_count", "_law_rows_here", "_law_edits_here", "_law_ids", "_law_k", "_law_edit_id"]
theorem sc_l_edits : FnScope ["_law_script", "_law_count", "_law_rows_here", "_law_edits_here", "_law_ids", "_law_k", "_law_edit_id"] ["_law_script", "_law_count"] (defScope s_l_edits) := ⟨rfl, rfl, rfl, by decide +kernel, rfl, by decide +kernel, by decide +kernel⟩
abbrev s_l_replaced : Stmt := top 27
abbrev N_l_replaced : List Str := ["_law_edit_here"]
theorem sc_l_replaced : FnScope ["_law_edit_here"] ["_law_edit_here"] (defScope s_l_replaced) := ⟨rfl, rfl, rfl, by decide +kernel, rfl, by decide +kernel, by decide +kernel⟩
abbrev s_l_with : Stmt := top 25
abbrev N_l_with : List Str := ["_law_lines", "_law_k", "_law_line"]
theorem sc_l_with : FnScope ["_law_lines", "_law_k", "_law_line"] ["_law_lines", "_law_k", "_law_line"] (defScope s_l_with) := ⟨rfl, rfl, rfl, by decide +kernel, rfl, by decide +kernel, by decide +kernel⟩
abbrev s_l_wrong : Stmt := top 26
abbrev N_l_wrong : List Str := ["_law_lines", "_law_k", "_law_line", "_law_wrong_here", "_law_before"]
theorem sc_l_wrong : FnScope ["_law_lines", "_law_k", "_law_line", "_law_wrong_here", "_law_before"] ["_law_lines", "_law_k"] (defScope s_l_wrong) := ⟨rfl, rfl, rfl, by decide +kernel, rfl, by decide +kernel, by decide +kernel⟩
abbrev s_end_line : Stmt := top 6
abbrev N_end_line : List Str := ["lines", "gone", "result", "line"]
theorem sc_end_line : FnScope ["lines", "gone", "result", "line"] ["lines", "gone"] (defScope s_end_line) := ⟨rfl, rfl, rfl, by decide +kernel, rfl, by decide +kernel, by decide +kernel⟩
abbrev s_find_head : Stmt := top 2
abbrev N_find_head : List Str := ["lines", "head", "line"]
theorem sc_find_head : FnScope ["lines", "head", "line"] ["lines", "head"] (defScope s_find_head) := ⟨rfl, rfl, rfl, by decide +kernel, rfl, by decide +kernel, by decide +kernel⟩
abbrev s_end_heads : Stmt := top 7
abbrev N_end_heads : List Str := ["lines", "heads", "head", "line"]
theorem sc_end_heads : FnScope ["lines", "heads", "head", "line"] ["lines", "heads"] (defScope s_end_heads) := ⟨rfl, rfl, rfl, by decide +kernel, rfl, by decide +kernel, by decide +kernel⟩
abbrev s_find_line : Stmt := top 1
abbrev N_find_line : List Str := ["lines", "line_id", "line"]
theorem sc_find_line : FnScope ["lines", "line_id", "line"] ["lines", "line_id"] (defScope s_find_line) := ⟨rfl, rfl, rfl, by decide +kernel, rfl, by decide +kernel, by decide +kernel⟩
abbrev s_find_folder : Stmt := top 3
abbrev N_find_folder : List Str := ["lines", "line_id", "line"]
theorem sc_find_folder : FnScope ["lines", "line_id", "line"] ["lines", "line_id"] (defScope s_find_folder) := ⟨rfl, rfl, rfl, by decide +kernel, rfl, by decide +kernel, by decide +kernel⟩
abbrev s_settle : Stmt := top 4
abbrev N_settle : List Str := ["lines", "place", "inside", "below", "seen"]
theorem sc_settle : FnScope ["lines", "place", "inside", "below", "seen"] ["lines", "place"] (defScope s_settle) := ⟨rfl, rfl, rfl, by decide +kernel, rfl, by decide +kernel, by decide +kernel⟩
abbrev s_stands_in : Stmt := top 5
abbrev N_stands_in : List Str := ["lines", "inside", "line_id", "_", "folder"]
theorem sc_stands_in : FnScope ["lines", "inside", "line_id", "_", "folder"] ["lines", "inside", "line_id"] (defScope s_stands_in) := ⟨rfl, rfl, rfl, by decide +kernel, rfl, by decide +kernel, by decide +kernel⟩
abbrev s_move_line : Stmt := top 11
abbrev N_move_line : List Str := ["lines", "head", "line_id", "place", "line", "inside", "below", "result", "other"]
theorem sc_move_line : FnScope ["lines", "head", "line_id", "place", "line", "inside", "below", "result", "other"] ["lines", "head", "line_id", "place"] (defScope s_move_line) := ⟨rfl, rfl, rfl, by decide +kernel, rfl, by decide +kernel, by decide +kernel⟩
abbrev s_continued : Stmt := top 9
abbrev N_continued : List Str := ["lines", "replaces", "line"]
theorem sc_continued : FnScope ["lines", "replaces", "line"] ["lines", "replaces"] (defScope s_continued) := ⟨rfl, rfl, rfl, by decide +kernel, rfl, by decide +kernel, by decide +kernel⟩
abbrev s_new_line : Stmt := top 8
abbrev N_new_line : List Str := ["lines", "edit_id", "place", "content", "meant", "line", "inside", "below"]
theorem sc_new_line : FnScope ["lines", "edit_id", "place", "content", "meant", "line", "inside", "below"] ["lines", "edit_id", "place", "content", "meant"] (defScope s_new_line) := ⟨rfl, rfl, rfl, by decide +kernel, rfl, by decide +kernel, by decide +kernel⟩
abbrev s_write_lines : Stmt := top 10
abbrev N_write_lines : List Str := ["lines", "edit", "_", "edit_id", "place", "content", "meant", "replaces", "going_on", "result", "line"]
theorem sc_write_lines : FnScope ["lines", "edit", "_", "edit_id", "place", "content", "meant", "replaces", "going_on", "result", "line"] ["lines", "edit"] (defScope s_write_lines) := ⟨rfl, rfl, rfl, by decide +kernel, rfl, by decide +kernel, by decide +kernel⟩
abbrev s_lines_after : Stmt := top 12
abbrev N_lines_after : List Str := ["lines", "edit", "head", "line_id", "place"]
theorem sc_lines_after : FnScope ["lines", "edit", "head", "line_id", "place"] ["lines", "edit"] (defScope s_lines_after) := ⟨rfl, rfl, rfl, by decide +kernel, rfl, by decide +kernel, by decide +kernel⟩
abbrev s_ascending : Stmt := top 14
abbrev N_ascending : List Str := ["ids", "at"]
theorem sc_ascending : FnScope ["ids", "at"] ["ids"] (defScope s_ascending) := ⟨rfl, rfl, rfl, by decide +kernel, rfl, by decide +kernel, by decide +kernel⟩
abbrev s_is_rooted : Stmt := top 15
abbrev N_is_rooted : List Str := ["lines", "inside", "_", "folder"]
theorem sc_is_rooted : FnScope ["lines", "inside", "_", "folder"] ["lines", "inside"] (defScope s_is_rooted) := ⟨rfl, rfl, rfl, by decide +kernel, rfl, by decide +kernel, by decide +kernel⟩
abbrev s_lines_sound : Stmt := top 16
abbrev N_lines_sound : List Str := ["lines", "heads", "line_id", "head", "inside", "below", "content", "line"]
theorem sc_lines_sound : FnScope ["lines", "heads", "line_id", "head", "inside", "below", "content", "line"] ["lines"] (defScope s_lines_sound) := ⟨rfl, rfl, rfl, by decide +kernel, rfl, by decide +kernel, by decide +kernel⟩
abbrev s_law : Stmt := top 28
abbrev N_law : List Str := ["_law_script", "_law_lines", "_law_edit_here", "_law_heads_here", "_law_k", "_law_wrong_here", "_law_line", "_law_head"]
theorem sc_law : FnScope ["_law_script", "_law_lines", "_law_edit_here", "_law_heads_here", "_law_k", "_law_wrong_here", "_law_line", "_law_head"] ["_law_script"] (defScope s_law) := ⟨rfl, rfl, rfl, by decide +kernel, rfl, by decide +kernel, by decide +kernel⟩
section
variable {P : Program} {w : World} {K : PySem.W.Frag} {mg : Str → Option Value} {base : Heap}
theorem ok_l_pick {a : Addr} {fd : FuncData} (D0 : DefAt K mg "_law_pick" s_l_pick ["_law_row", "_law_ids"] a fd) (B : Bi K mg) : FnOk P w K mg base (L2.CX P w) 1 a fd ["_law_row", "_law_ids"] (spF K mg 2 d_l_pick) := by
  refine fn_ok (N := N_l_pick) (ps := ["_law_row", "_law_ids"]) (k := 0) (body := b_l_pick) D0.F sc_l_pick (fun cdv A outer s H E hr => ?_)
  exact (ss_cons (ss_if (sw_or (st_cmp bo_eq (op_dEq (u60 hr)) (sb_len  B.len (sa_cons (se_var (i := 1) rfl (by first | exact Or.inl rfl | exact Or.inr (Or.inl rfl) | exact Or.inr (Or.inr rfl))) sa_nil)) se_int (by first | exact nomark _ | rfl)) (sw_or1 (st_cmp bo_eq (op_dEq (u60 hr)) (se_op op_dMod (sb_int  B.int (sa_cons (se_var (i := 0) rfl (by first | exact Or.inl rfl | exact Or.inr (Or.inl rfl) | exact Or.inr (Or.inr rfl))) sa_nil)) se_int) se_int (by first | exact nomark _ | rfl)))).pt (ss_one (ss_ret se_non)) ss_nil)
    (ss_cons (ss_if (st_cmp bo_eq (op_dEq (u60 hr)) (se_op op_dMod (sb_int  B.int (sa_cons (se_op op_dFdiv (se_var (i := 0) rfl (by first | exact Or.inl rfl | exact Or.inr (Or.inl rfl) | exact Or.inr (Or.inr rfl))) se_int) sa_nil)) se_int) se_int (by first | exact nomark _ | rfl)) (ss_one (ss_ret (se_idx (se_var (i := 1) rfl (by first | exact Or.inl rfl | exact Or.inr (Or.inl rfl) | exact Or.inr (Or.inr rfl))) (se_op op_dMod (sb_int  B.int (sa_cons (se_op op_dFdiv (se_var (i := 0) rfl (by first | exact Or.inl rfl | exact Or.inr (Or.inl rfl) | exact Or.inr (Or.inr rfl))) se_int) sa_nil)) (sb_len  B.len (sa_cons (se_var (i := 1) rfl (by first | exact Or.inl rfl | exact Or.inr (Or.inl rfl) | exact Or.inr (Or.inr rfl))) sa_nil))) ix_dIdx))) ss_nil)
    (ss_one (ss_ret (se_idx (se_var (i := 1) rfl (by first | exact Or.inl rfl | exact Or.inr (Or.inl rfl) | exact Or.inr (Or.inr rfl))) (se_op op_dSub (se_op op_dSub (sb_len  B.len (sa_cons (se_var (i := 1) rfl (by first | exact Or.inl rfl | exact Or.inr (Or.inl rfl) | exact Or.inr (Or.inr rfl))) sa_nil)) se_int) (se_op op_dMod (sb_int  B.int (sa_cons (se_op op_dFdiv (se_var (i := 0) rfl (by first | exact Or.inl rfl | exact Or.inr (Or.inl rfl) | exact Or.inr (Or.inr rfl))) se_int) sa_nil)) (sb_min2 rfl B.min (sa_cons se_int (sa_cons (sb_len  B.len (sa_cons (se_var (i := 1) rfl (by first | exact Or.inl rfl | exact Or.inr (Or.inl rfl) | exact Or.inr (Or.inr rfl))) sa_nil)) sa_nil))))) ix_dIdx)))))
theorem ok_l_heads {a : Addr} {fd : FuncData} (D0 : DefAt K mg "_law_heads" s_l_heads ["_law_row", "_law_ids"] a fd) (B : Bi K mg) {a_l_pick : Addr} {f_l_pick : FuncData} (D_l_pick : DefAt K mg "_law_pick" s_l_pick ["_law_row", "_law_ids"] a_l_pick f_l_pick) (G_l_pick : FnOk P w K mg base (L2.CX P w) 1 a_l_pick f_l_pick ["_law_row", "_law_ids"] (spF K mg 2 d_l_pick)) : FnOk P w K mg base (L2.CX P w) 2 a fd ["_law_row", "_law_ids"] (spF K mg 2 d_l_heads) := by
  refine fn_ok (N := N_l_heads) (ps := ["_law_row", "_law_ids"]) (k := 1) (body := b_l_heads) D0.F sc_l_heads (fun cdv A outer s H E hr => ?_)
  exact (ss_cons (ss_asg (se_new sa_nil) (sg_name (i := 2) sc_l_heads.nd rfl (by first | exact Or.inl rfl | exact Or.inr rfl)))
    (ss_cons (ss_for (passes_of rfl) rfl (si_range1 rfl B.range (sa_cons (se_op op_dMod (sb_int  B.int (sa_cons (se_op op_dFdiv (se_var (i := 0) rfl (by first | exact Or.inl rfl | exact Or.inr (Or.inl rfl) | exact Or.inr (Or.inr rfl))) se_int) sa_nil)) se_int) sa_nil)) (sg_name (i := 3) sc_l_heads.nd rfl (by first | exact Or.inl rfl | exact Or.inr rfl)) (ss_cons (ss_asg (se_def callP (.inr (.inl rfl)) (takes_of rfl rfl rfl rfl) D_l_pick G_l_pick hr (sa_cons (se_op op_dFdiv (se_var (i := 0) rfl (by first | exact Or.inl rfl | exact Or.inr (Or.inl rfl) | exact Or.inr (Or.inr rfl))) (se_op op_dAdd (se_op op_dMul se_int (se_var (i := 3) rfl (by first | exact Or.inl rfl | exact Or.inr (Or.inl rfl) | exact Or.inr (Or.inr rfl)))) se_int)) (sa_cons (se_var (i := 1) rfl (by first | exact Or.inl rfl | exact Or.inr (Or.inl rfl) | exact Or.inr (Or.inr rfl))) sa_nil))) (sg_name (i := 4) sc_l_heads.nd rfl (by first | exact Or.inl rfl | exact Or.inr rfl)))
    (ss_one (ss_if (st_cmp bo_isnt op_dIsnt (se_var (i := 4) rfl (by first | exact Or.inl rfl | exact Or.inr (Or.inl rfl) | exact Or.inr (Or.inr rfl))) se_non (by first | exact nomark _ | rfl)) (ss_one (ss_expr (se_app (se_var (i := 2) rfl (by first | exact Or.inl rfl | exact Or.inr (Or.inl rfl) | exact Or.inr (Or.inr rfl))) (sa_cons (se_var (i := 4) rfl (by first | exact Or.inl rfl | exact Or.inr (Or.inl rfl) | exact Or.inr (Or.inr rfl))) sa_nil)))) ss_nil))))
    (ss_one (ss_ret (sb_tuple  B.tuple (sa_cons (se_var (i := 2) rfl (by first | exact Or.inl rfl | exact Or.inr (Or.inl rfl) | exact Or.inr (Or.inr rfl))) sa_nil))))))
theorem ok_l_path {a : Addr} {fd : FuncData} (D0 : DefAt K mg "_law_path" s_l_path ["_law_row", "_law_most"] a fd) (B : Bi K mg) : FnOk P w K mg base (L2.CX P w) 1 a fd ["_law_row", "_law_most"] (spF K mg 2 d_l_path) := by
  refine fn_ok (N := N_l_path) (ps := ["_law_row", "_law_most"]) (k := 0) (body := b_l_path) D0.F sc_l_path (fun cdv A outer s H E hr => ?_)
  exact (ss_cons (ss_asg (se_lst (sa_cons se_str (sa_cons se_str (sa_cons se_str (sa_cons se_str sa_nil))))) (sg_name (i := 2) sc_l_path.nd rfl (by first | exact Or.inl rfl | exact Or.inr rfl)))
    (ss_one (ss_ret (sb_tuple  B.tuple (sa_cons (se_lc (fin := lcEnd) (own := [("_law_j", 3)]) (vs := [3]) (.inl rfl) rfl sc_l_path.nd (si_range1 rfl B.range (sa_cons (se_op op_dAdd se_int (se_op op_dMod (sb_int  B.int (sa_cons (se_op op_dFdiv (se_var (i := 0) rfl (by first | exact Or.inl rfl | exact Or.inr (Or.inl rfl) | exact Or.inr (Or.inr rfl))) se_int) sa_nil)) (se_var (i := 1) rfl (by first | exact Or.inl rfl | exact Or.inr (Or.inl rfl) | exact Or.inr (Or.inr rfl))))) sa_nil)) (blkOk_by (N := N_l_path) (sc := defScope s_l_path) (own := [("_law_j", 3)]) (by decide +kernel)) (fun _ _ _ _ _ => (sg_name (i := 3) sc_l_path.nd rfl (by first | exact Or.inl rfl | exact Or.inr rfl))) (fun _ _ _ _ _ => sl_yes) (fun _ _ _ _ _ => (se_idx (se_var (i := 2) rfl (by first | exact Or.inl rfl | exact Or.inr (Or.inl rfl) | exact Or.inr (Or.inr rfl))) (se_op op_dMod (sb_int  B.int (sa_cons (se_op op_dFdiv (se_var (i := 0) rfl (by first | exact Or.inl rfl | exact Or.inr (Or.inl rfl) | exact Or.inr (Or.inr rfl))) (se_op op_dAdd (se_op op_dMul se_int (se_var (i := 3) rfl (by first | exact Or.inl rfl | exact Or.inr (Or.inl rfl) | exact Or.inr (Or.inr rfl)))) se_int)) sa_nil)) se_int) ix_dIdx)) (by decide)) sa_nil)))))
theorem ok_l_place {a : Addr} {fd : FuncData} (D0 : DefAt K mg "_law_place" s_l_place ["_law_row", "_law_ids"] a fd) (B : Bi K mg) {a_l_path : Addr} {f_l_path : FuncData} (D_l_path : DefAt K mg "_law_path" s_l_path ["_law_row", "_law_most"] a_l_path f_l_path) (G_l_path : FnOk P w K mg base (L2.CX P w) 1 a_l_path f_l_path ["_law_row", "_law_most"] (spF K mg 2 d_l_path)) {a_l_pick : Addr} {f_l_pick : FuncData} (D_l_pick : DefAt K mg "_law_pick" s_l_pick ["_law_row", "_law_ids"] a_l_pick f_l_pick) (G_l_pick : FnOk P w K mg base (L2.CX P w) 1 a_l_pick f_l_pick ["_law_row", "_law_ids"] (spF K mg 2 d_l_pick)) : FnOk P w K mg base (L2.CX P w) 2 a fd ["_law_row", "_law_ids"] (spF K mg 2 d_l_place) := by
  refine fn_ok (N := N_l_place) (ps := ["_law_row", "_law_ids"]) (k := 1) (body := b_l_place) D0.F sc_l_place (fun cdv A outer s H E hr => ?_)
  exact (ss_one (ss_ret (se_tup (sa_cons (se_def callP (.inr (.inl rfl)) (takes_of rfl rfl rfl rfl) D_l_pick G_l_pick hr (sa_cons (se_op op_dFdiv (se_var (i := 0) rfl (by first | exact Or.inl rfl | exact Or.inr (Or.inl rfl) | exact Or.inr (Or.inr rfl))) se_int) (sa_cons (se_var (i := 1) rfl (by first | exact Or.inl rfl | exact Or.inr (Or.inl rfl) | exact Or.inr (Or.inr rfl))) sa_nil))) (sa_cons (se_def callP (.inr (.inl rfl)) (takes_of rfl rfl rfl rfl) D_l_path G_l_path hr (sa_cons (se_op op_dFdiv (se_var (i := 0) rfl (by first | exact Or.inl rfl | exact Or.inr (Or.inl rfl) | exact Or.inr (Or.inr rfl))) se_int) (sa_cons se_int sa_nil))) (sa_cons (se_def callP (.inr (.inl rfl)) (takes_of rfl rfl rfl rfl) D_l_path G_l_path hr (sa_cons (se_op op_dFdiv (se_var (i := 0) rfl (by first | exact Or.inl rfl | exact Or.inr (Or.inl rfl) | exact Or.inr (Or.inr rfl))) se_int) (sa_cons se_int sa_nil))) sa_nil))))))
theorem ok_l_edit {a : Addr} {fd : FuncData} (D0 : DefAt K mg "_law_edit" s_l_edit ["_law_row", "_law_edit_id", "_law_ids"] a fd) (B : Bi K mg) {a_l_heads : Addr} {f_l_heads : FuncData} (D_l_heads : DefAt K mg "_law_heads" s_l_heads ["_law_row", "_law_ids"] a_l_heads f_l_heads) (G_l_heads : FnOk P w K mg base (L2.CX P w) 2 a_l_heads f_l_heads ["_law_row", "_law_ids"] (spF K mg 2 d_l_heads)) {a_l_pick : Addr} {f_l_pick : FuncData} (D_l_pick : DefAt K mg "_law_pick" s_l_pick ["_law_row", "_law_ids"] a_l_pick f_l_pick) (G_l_pick : FnOk P w K mg base (L2.CX P w) 1 a_l_pick f_l_pick ["_law_row", "_law_ids"] (spF K mg 2 d_l_pick)) {a_l_place : Addr} {f_l_place : FuncData} (D_l_place : DefAt K mg "_law_place" s_l_place ["_law_row", "_law_ids"] a_l_place f_l_place) (G_l_place : FnOk P w K mg base (L2.CX P w) 2 a_l_place f_l_place ["_law_row", "_law_ids"] (spF K mg 2 d_l_place)) : FnOk P w K mg base (L2.CX P w) 3 a fd ["_law_row", "_law_edit_id", "_law_ids"] (spF K mg 3 d_l_edit) := by
  refine fn_ok (N := N_l_edit) (ps := ["_law_row", "_law_edit_id", "_law_ids"]) (k := 2) (body := b_l_edit) D0.F sc_l_edit (fun cdv A outer s H E hr => ?_)
  exact (ss_cons (ss_asg (se_def callP (.inr (.inl rfl)) (takes_of rfl rfl rfl rfl) D_l_place G_l_place hr (sa_cons (se_op op_dFdiv (se_var (i := 0) rfl (by first | exact Or.inl rfl | exact Or.inr (Or.inl rfl) | exact Or.inr (Or.inr rfl))) se_int) (sa_cons (se_var (i := 2) rfl (by first | exact Or.inl rfl | exact Or.inr (Or.inl rfl) | exact Or.inr (Or.inr rfl))) sa_nil))) (sg_name (i := 3) sc_l_edit.nd rfl (by first | exact Or.inl rfl | exact Or.inr rfl)))
    (ss_cons (ss_asg (se_op op_dMod (sb_int  B.int (sa_cons (se_var (i := 0) rfl (by first | exact Or.inl rfl | exact Or.inr (Or.inl rfl) | exact Or.inr (Or.inr rfl))) sa_nil)) se_int) (sg_name (i := 4) sc_l_edit.nd rfl (by first | exact Or.inl rfl | exact Or.inr rfl)))
    (ss_cons (ss_if (st_cmp bo_eq (op_dEq (u60 hr)) (se_var (i := 4) rfl (by first | exact Or.inl rfl | exact Or.inr (Or.inl rfl) | exact Or.inr (Or.inr rfl))) se_int (by first | exact nomark _ | rfl)) (ss_one (ss_ret (se_tup (sa_cons se_str (sa_cons (se_var (i := 1) rfl (by first | exact Or.inl rfl | exact Or.inr (Or.inl rfl) | exact Or.inr (Or.inr rfl))) (sa_cons (se_var (i := 3) rfl (by first | exact Or.inl rfl | exact Or.inr (Or.inl rfl) | exact Or.inr (Or.inr rfl))) (sa_cons se_non (sa_cons se_non (sa_cons (se_def callP (.inr (.inl rfl)) (takes_of rfl rfl rfl rfl) D_l_heads G_l_heads hr (sa_cons (se_var (i := 0) rfl (by first | exact Or.inl rfl | exact Or.inr (Or.inl rfl) | exact Or.inr (Or.inr rfl))) (sa_cons (se_var (i := 2) rfl (by first | exact Or.inl rfl | exact Or.inr (Or.inl rfl) | exact Or.inr (Or.inr rfl))) sa_nil))) sa_nil))))))))) ss_nil)
    (ss_cons (ss_if (sw_or (st_cmp bo_le op_dLe (se_var (i := 4) rfl (by first | exact Or.inl rfl | exact Or.inr (Or.inl rfl) | exact Or.inr (Or.inr rfl))) se_int (by first | exact nomark _ | rfl)) (sw_or1 (st_cmp bo_eq (op_dEq (u60 hr)) (sb_len  B.len (sa_cons (se_var (i := 2) rfl (by first | exact Or.inl rfl | exact Or.inr (Or.inl rfl) | exact Or.inr (Or.inr rfl))) sa_nil)) se_int (by first | exact nomark _ | rfl)))).pt (ss_cons (ss_asg (se_op op_dMod (sb_int  B.int (sa_cons (se_op op_dFdiv (se_var (i := 0) rfl (by first | exact Or.inl rfl | exact Or.inr (Or.inl rfl) | exact Or.inr (Or.inr rfl))) se_int) sa_nil)) se_int) (sg_name (i := 5) sc_l_edit.nd rfl (by first | exact Or.inl rfl | exact Or.inr rfl)))
    (ss_one (ss_ret (se_tup (sa_cons se_str (sa_cons (se_var (i := 1) rfl (by first | exact Or.inl rfl | exact Or.inr (Or.inl rfl) | exact Or.inr (Or.inr rfl))) (sa_cons (se_var (i := 3) rfl (by first | exact Or.inl rfl | exact Or.inr (Or.inl rfl) | exact Or.inr (Or.inr rfl))) (sa_cons (se_tup (sa_cons (se_var (i := 5) rfl (by first | exact Or.inl rfl | exact Or.inr (Or.inl rfl) | exact Or.inr (Or.inr rfl))) (sa_cons (se_var (i := 5) rfl (by first | exact Or.inl rfl | exact Or.inr (Or.inl rfl) | exact Or.inr (Or.inr rfl))) (sa_cons (se_op op_dAdd (se_var (i := 5) rfl (by first | exact Or.inl rfl | exact Or.inr (Or.inl rfl) | exact Or.inr (Or.inr rfl))) se_int) (sa_cons se_bl sa_nil))))) (sa_cons (se_def callP (.inr (.inl rfl)) (takes_of rfl rfl rfl rfl) D_l_pick G_l_pick hr (sa_cons (se_op op_dFdiv (se_var (i := 0) rfl (by first | exact Or.inl rfl | exact Or.inr (Or.inl rfl) | exact Or.inr (Or.inr rfl))) se_int) (sa_cons (se_var (i := 2) rfl (by first | exact Or.inl rfl | exact Or.inr (Or.inl rfl) | exact Or.inr (Or.inr rfl))) sa_nil))) (sa_cons (se_def callP (.inr (.inl rfl)) (takes_of rfl rfl rfl rfl) D_l_heads G_l_heads hr (sa_cons (se_var (i := 0) rfl (by first | exact Or.inl rfl | exact Or.inr (Or.inl rfl) | exact Or.inr (Or.inr rfl))) (sa_cons (se_var (i := 2) rfl (by first | exact Or.inl rfl | exact Or.inr (Or.inl rfl) | exact Or.inr (Or.inr rfl))) sa_nil))) sa_nil)))))))))) ss_nil)
    (ss_cons (ss_if (st_cmp bo_eq (op_dEq (u60 hr)) (se_var (i := 4) rfl (by first | exact Or.inl rfl | exact Or.inr (Or.inl rfl) | exact Or.inr (Or.inr rfl))) se_int (by first | exact nomark _ | rfl)) (ss_one (ss_ret (se_tup (sa_cons se_str (sa_cons (se_var (i := 1) rfl (by first | exact Or.inl rfl | exact Or.inr (Or.inl rfl) | exact Or.inr (Or.inr rfl))) (sa_cons (se_def callP (.inr (.inl rfl)) (takes_of rfl rfl rfl rfl) D_l_heads G_l_heads hr (sa_cons (se_op op_dFdiv (se_var (i := 0) rfl (by first | exact Or.inl rfl | exact Or.inr (Or.inl rfl) | exact Or.inr (Or.inr rfl))) se_int) (sa_cons (se_var (i := 2) rfl (by first | exact Or.inl rfl | exact Or.inr (Or.inl rfl) | exact Or.inr (Or.inr rfl))) sa_nil))) sa_nil)))))) ss_nil)
    (ss_cons (ss_asg (se_new sa_nil) (sg_name (i := 6) sc_l_edit.nd rfl (by first | exact Or.inl rfl | exact Or.inr rfl)))
    (ss_cons (ss_for (passes_of rfl) rfl (si_range1 rfl B.range (sa_cons (se_op op_dAdd se_int (se_op op_dMod (sb_int  B.int (sa_cons (se_op op_dFdiv (se_var (i := 0) rfl (by first | exact Or.inl rfl | exact Or.inr (Or.inl rfl) | exact Or.inr (Or.inr rfl))) se_int) sa_nil)) se_int)) sa_nil)) (sg_name (i := 7) sc_l_edit.nd rfl (by first | exact Or.inl rfl | exact Or.inr rfl)) (ss_cons (ss_asg (se_def callP (.inr (.inl rfl)) (takes_of rfl rfl rfl rfl) D_l_pick G_l_pick hr (sa_cons (se_op op_dAdd se_int (se_op op_dMul se_int (se_op op_dFdiv (se_var (i := 0) rfl (by first | exact Or.inl rfl | exact Or.inr (Or.inl rfl) | exact Or.inr (Or.inr rfl))) (se_op op_dAdd (se_op op_dMul se_int (se_var (i := 7) rfl (by first | exact Or.inl rfl | exact Or.inr (Or.inl rfl) | exact Or.inr (Or.inr rfl)))) se_int)))) (sa_cons (se_var (i := 2) rfl (by first | exact Or.inl rfl | exact Or.inr (Or.inl rfl) | exact Or.inr (Or.inr rfl))) sa_nil))) (sg_name (i := 8) sc_l_edit.nd rfl (by first | exact Or.inl rfl | exact Or.inr rfl)))
    (ss_cons (ss_asg (se_def callP (.inr (.inl rfl)) (takes_of rfl rfl rfl rfl) D_l_pick G_l_pick hr (sa_cons (se_op op_dAdd se_int (se_op op_dMul se_int (se_op op_dFdiv (se_var (i := 0) rfl (by first | exact Or.inl rfl | exact Or.inr (Or.inl rfl) | exact Or.inr (Or.inr rfl))) (se_op op_dAdd (se_op op_dMul se_int (se_var (i := 7) rfl (by first | exact Or.inl rfl | exact Or.inr (Or.inl rfl) | exact Or.inr (Or.inr rfl)))) se_int)))) (sa_cons (se_var (i := 2) rfl (by first | exact Or.inl rfl | exact Or.inr (Or.inl rfl) | exact Or.inr (Or.inr rfl))) sa_nil))) (sg_name (i := 9) sc_l_edit.nd rfl (by first | exact Or.inl rfl | exact Or.inr rfl)))
    (ss_one (ss_expr (se_app (se_var (i := 6) rfl (by first | exact Or.inl rfl | exact Or.inr (Or.inl rfl) | exact Or.inr (Or.inr rfl))) (sa_cons (se_tup (sa_cons (se_var (i := 8) rfl (by first | exact Or.inl rfl | exact Or.inr (Or.inl rfl) | exact Or.inr (Or.inr rfl))) (sa_cons (se_var (i := 9) rfl (by first | exact Or.inl rfl | exact Or.inr (Or.inl rfl) | exact Or.inr (Or.inr rfl))) (sa_cons (se_def callP (.inr (.inl rfl)) (takes_of rfl rfl rfl rfl) D_l_place G_l_place hr (sa_cons (se_op op_dFdiv (se_var (i := 0) rfl (by first | exact Or.inl rfl | exact Or.inr (Or.inl rfl) | exact Or.inr (Or.inr rfl))) (se_op op_dAdd (se_op op_dMul se_int (se_var (i := 7) rfl (by first | exact Or.inl rfl | exact Or.inr (Or.inl rfl) | exact Or.inr (Or.inr rfl)))) se_int)) (sa_cons (se_var (i := 2) rfl (by first | exact Or.inl rfl | exact Or.inr (Or.inl rfl) | exact Or.inr (Or.inr rfl))) sa_nil))) sa_nil)))) sa_nil)))))))
    (ss_one (ss_ret (se_tup (sa_cons se_str (sa_cons (se_var (i := 1) rfl (by first | exact Or.inl rfl | exact Or.inr (Or.inl rfl) | exact Or.inr (Or.inr rfl))) (sa_cons (sb_tuple  B.tuple (sa_cons (se_var (i := 6) rfl (by first | exact Or.inl rfl | exact Or.inr (Or.inl rfl) | exact Or.inr (Or.inr rfl))) sa_nil)) sa_nil)))))))))))))
theorem ok_l_rows {a : Addr} {fd : FuncData} (D0 : DefAt K mg "_law_rows" s_l_rows ["_law_script", "_law_count"] a fd) (B : Bi K mg) : FnOk P w K mg base (L2.CX P w) 1 a fd ["_law_script", "_law_count"] (spF K mg 2 d_l_rows) := by
  refine fn_ok (N := N_l_rows) (ps := ["_law_script", "_law_count"]) (k := 0) (body := b_l_rows) D0.F sc_l_rows (fun cdv A outer s H E hr => ?_)
  exact (ss_cons (ss_asg (se_new sa_nil) (sg_name (i := 2) sc_l_rows.nd rfl (by first | exact Or.inl rfl | exact Or.inr rfl)))
    (ss_cons (ss_asg se_int (sg_name (i := 3) sc_l_rows.nd rfl (by first | exact Or.inl rfl | exact Or.inr rfl)))
    (ss_cons (ss_for (passes_of rfl) rfl (si_range1 rfl B.range (sa_cons (se_var (i := 1) rfl (by first | exact Or.inl rfl | exact Or.inr (Or.inl rfl) | exact Or.inr (Or.inr rfl))) sa_nil)) (sg_name (i := 4) sc_l_rows.nd rfl (by first | exact Or.inl rfl | exact Or.inr rfl)) (ss_cons (ss_asg se_int (sg_name (i := 5) sc_l_rows.nd rfl (by first | exact Or.inl rfl | exact Or.inr rfl)))
    (ss_cons (ss_if (st_cmp bo_lt (op_dLt (u0 hr)) (se_var (i := 4) rfl (by first | exact Or.inl rfl | exact Or.inr (Or.inl rfl) | exact Or.inr (Or.inr rfl))) (sb_len  B.len (sa_cons (se_var (i := 0) rfl (by first | exact Or.inl rfl | exact Or.inr (Or.inl rfl) | exact Or.inr (Or.inr rfl))) sa_nil)) (by first | exact nomark _ | rfl)) (ss_one (ss_asg (sb_int  B.int (sa_cons (se_idx (se_var (i := 0) rfl (by first | exact Or.inl rfl | exact Or.inr (Or.inl rfl) | exact Or.inr (Or.inr rfl))) (se_var (i := 4) rfl (by first | exact Or.inl rfl | exact Or.inr (Or.inl rfl) | exact Or.inr (Or.inr rfl))) ix_dIdx) sa_nil)) (sg_name (i := 5) sc_l_rows.nd rfl (by first | exact Or.inl rfl | exact Or.inr rfl)))) ss_nil)
    (ss_cons (ss_if (st_cmp bo_lt (op_dLt (u0 hr)) (se_var (i := 5) rfl (by first | exact Or.inl rfl | exact Or.inr (Or.inl rfl) | exact Or.inr (Or.inr rfl))) se_int (by first | exact nomark _ | rfl)) (ss_one (ss_asg (se_op op_dSub se_int (se_op op_dMul se_int (se_var (i := 5) rfl (by first | exact Or.inl rfl | exact Or.inr (Or.inl rfl) | exact Or.inr (Or.inr rfl))))) (sg_name (i := 5) sc_l_rows.nd rfl (by first | exact Or.inl rfl | exact Or.inr rfl)))) ss_nil)
    (ss_cons (ss_asg (se_op op_dMod (sb_int  B.int (sa_cons (se_op op_dAdd (se_op op_dAdd (se_op op_dAdd (se_op op_dMul (se_var (i := 3) rfl (by first | exact Or.inl rfl | exact Or.inr (Or.inl rfl) | exact Or.inr (Or.inr rfl))) se_int) (se_op op_dMul (se_var (i := 5) rfl (by first | exact Or.inl rfl | exact Or.inr (Or.inl rfl) | exact Or.inr (Or.inr rfl))) se_int)) (se_op op_dMul se_int (se_var (i := 4) rfl (by first | exact Or.inl rfl | exact Or.inr (Or.inl rfl) | exact Or.inr (Or.inr rfl))))) se_int) sa_nil)) se_int) (sg_name (i := 3) sc_l_rows.nd rfl (by first | exact Or.inl rfl | exact Or.inr rfl)))
    (ss_one (ss_if (st_cmp bo_ge op_dGe (se_var (i := 5) rfl (by first | exact Or.inl rfl | exact Or.inr (Or.inl rfl) | exact Or.inr (Or.inr rfl))) se_int (by first | exact nomark _ | rfl)) (ss_one (ss_expr (se_app (se_var (i := 2) rfl (by first | exact Or.inl rfl | exact Or.inr (Or.inl rfl) | exact Or.inr (Or.inr rfl))) (sa_cons (se_var (i := 5) rfl (by first | exact Or.inl rfl | exact Or.inr (Or.inl rfl) | exact Or.inr (Or.inr rfl))) sa_nil)))) (ss_one (ss_expr (se_app (se_var (i := 2) rfl (by first | exact Or.inl rfl | exact Or.inr (Or.inl rfl) | exact Or.inr (Or.inr rfl))) (sa_cons (se_op op_dMod (sb_int  B.int (sa_cons (se_op op_dAdd (se_op op_dMul (se_var (i := 3) rfl (by first | exact Or.inl rfl | exact Or.inr (Or.inl rfl) | exact Or.inr (Or.inr rfl))) se_int) se_int) sa_nil)) se_int) sa_nil)))))))))))
    (ss_one (ss_ret (se_var (i := 2) rfl (by first | exact Or.inl rfl | exact Or.inr (Or.inl rfl) | exact Or.inr (Or.inr rfl))))))))
theorem ok_l_edits {a : Addr} {fd : FuncData} (D0 : DefAt K mg "_law_edits" s_l_edits ["_law_script", "_law_count"] a fd) (B : Bi K mg) {a_l_edit : Addr} {f_l_edit : FuncData} (D_l_edit : DefAt K mg "_law_edit" s_l_edit ["_law_row", "_law_edit_id", "_law_ids"] a_l_edit f_l_edit) (G_l_edit : FnOk P w K mg base (L2.CX P w) 3 a_l_edit f_l_edit ["_law_row", "_law_edit_id", "_law_ids"] (spF K mg 3 d_l_edit)) {a_l_rows : Addr} {f_l_rows : FuncData} (D_l_rows : DefAt K mg "_law_rows" s_l_rows ["_law_script", "_law_count"] a_l_rows f_l_rows) (G_l_rows : FnOk P w K mg base (L2.CX P w) 1 a_l_rows f_l_rows ["_law_script", "_law_count"] (spF K mg 2 d_l_rows)) : FnOk P w K mg base (L2.CX P w) 4 a fd ["_law_script", "_law_count"] (spF K mg 2 d_l_edits) := by
  refine fn_ok (N := N_l_edits) (ps := ["_law_script", "_law_count"]) (k := 3) (body := b_l_edits) D0.F sc_l_edits (fun cdv A outer s H E hr => ?_)
  exact (ss_cons (ss_asg (se_def callP (.inr (.inl rfl)) (takes_of rfl rfl rfl rfl) D_l_rows G_l_rows hr (sa_cons (se_var (i := 0) rfl (by first | exact Or.inl rfl | exact Or.inr (Or.inl rfl) | exact Or.inr (Or.inr rfl))) (sa_cons (se_var (i := 1) rfl (by first | exact Or.inl rfl | exact Or.inr (Or.inl rfl) | exact Or.inr (Or.inr rfl))) sa_nil))) (sg_name (i := 2) sc_l_edits.nd rfl (by first | exact Or.inl rfl | exact Or.inr rfl)))
    (ss_cons (ss_asg (se_new sa_nil) (sg_name (i := 3) sc_l_edits.nd rfl (by first | exact Or.inl rfl | exact Or.inr rfl)))
    (ss_cons (ss_asg (se_new sa_nil) (sg_name (i := 4) sc_l_edits.nd rfl (by first | exact Or.inl rfl | exact Or.inr rfl)))
    (ss_cons (ss_for (passes_of rfl) rfl (si_range1 rfl B.range (sa_cons (se_var (i := 1) rfl (by first | exact Or.inl rfl | exact Or.inr (Or.inl rfl) | exact Or.inr (Or.inr rfl))) sa_nil)) (sg_name (i := 5) sc_l_edits.nd rfl (by first | exact Or.inl rfl | exact Or.inr rfl)) (ss_cons (ss_asg (se_tup (sa_cons (se_op op_dAdd (se_op op_dFdiv (sb_int  B.int (sa_cons (se_var (i := 5) rfl (by first | exact Or.inl rfl | exact Or.inr (Or.inl rfl) | exact Or.inr (Or.inr rfl))) sa_nil)) se_int) se_int) (sa_cons (se_op op_dMod (sb_int  B.int (sa_cons (se_var (i := 5) rfl (by first | exact Or.inl rfl | exact Or.inr (Or.inl rfl) | exact Or.inr (Or.inr rfl))) sa_nil)) se_int) sa_nil))) (sg_name (i := 6) sc_l_edits.nd rfl (by first | exact Or.inl rfl | exact Or.inr rfl)))
    (ss_cons (ss_expr (se_app (se_var (i := 3) rfl (by first | exact Or.inl rfl | exact Or.inr (Or.inl rfl) | exact Or.inr (Or.inr rfl))) (sa_cons (se_def callP (.inr (.inl rfl)) (takes_of rfl rfl rfl rfl) D_l_edit G_l_edit hr (sa_cons (se_idx (se_var (i := 2) rfl (by first | exact Or.inl rfl | exact Or.inr (Or.inl rfl) | exact Or.inr (Or.inr rfl))) (se_var (i := 5) rfl (by first | exact Or.inl rfl | exact Or.inr (Or.inl rfl) | exact Or.inr (Or.inr rfl))) ix_dIdx) (sa_cons (se_var (i := 6) rfl (by first | exact Or.inl rfl | exact Or.inr (Or.inl rfl) | exact Or.inr (Or.inr rfl))) (sa_cons (se_var (i := 4) rfl (by first | exact Or.inl rfl | exact Or.inr (Or.inl rfl) | exact Or.inr (Or.inr rfl))) sa_nil)))) sa_nil)))
    (ss_one (ss_expr (se_app (se_var (i := 4) rfl (by first | exact Or.inl rfl | exact Or.inr (Or.inl rfl) | exact Or.inr (Or.inr rfl))) (sa_cons (se_var (i := 6) rfl (by first | exact Or.inl rfl | exact Or.inr (Or.inl rfl) | exact Or.inr (Or.inr rfl))) sa_nil)))))))
    (ss_one (ss_ret (se_var (i := 3) rfl (by first | exact Or.inl rfl | exact Or.inr (Or.inl rfl) | exact Or.inr (Or.inr rfl)))))))))
theorem ok_l_replaced {a : Addr} {fd : FuncData} (D0 : DefAt K mg "_law_replaced" s_l_replaced ["_law_edit_here"] a fd) (B : Bi K mg) : FnOk P w K mg base (L2.CX P w) 1 a fd ["_law_edit_here"] (spF K mg 1 d_l_replaced) := by
  refine fn_ok (N := N_l_replaced) (ps := ["_law_edit_here"]) (k := 0) (body := b_l_replaced) D0.F sc_l_replaced (fun cdv A outer s H E hr => ?_)
  exact (ss_cons (ss_if (st_cmp bo_eq (op_dEq (u60 hr)) (se_idx (se_var (i := 0) rfl (by first | exact Or.inl rfl | exact Or.inr (Or.inl rfl) | exact Or.inr (Or.inr rfl))) se_int ix_dIdx) se_str (by first | exact nomark _ | rfl)) (ss_one (ss_ret (se_tup sa_nil))) ss_nil)
    (ss_one (ss_ret (se_idx (se_var (i := 0) rfl (by first | exact Or.inl rfl | exact Or.inr (Or.inl rfl) | exact Or.inr (Or.inr rfl))) (se_op op_dSub (sb_len  B.len (sa_cons (se_var (i := 0) rfl (by first | exact Or.inl rfl | exact Or.inr (Or.inl rfl) | exact Or.inr (Or.inr rfl))) sa_nil)) se_int) ix_dIdx))))
theorem ok_l_with {a : Addr} {fd : FuncData} (D0 : DefAt K mg "_law_with" s_l_with ["_law_lines", "_law_k", "_law_line"] a fd) (B : Bi K mg) : FnOk P w K mg base (L2.CX P w) 1 a fd ["_law_lines", "_law_k", "_law_line"] (spF K mg 3 d_l_with) := by
  refine fn_ok (N := N_l_with) (ps := ["_law_lines", "_law_k", "_law_line"]) (k := 0) (body := b_l_with) D0.F sc_l_with (fun cdv A outer s H E hr => ?_)
  exact (ss_one (ss_ret (se_op op_dAdd (se_op op_dAdd (se_sl (se_var (i := 0) rfl (by first | exact Or.inl rfl | exact Or.inr (Or.inl rfl) | exact Or.inr (Or.inr rfl))) so_none (so_some (se_var (i := 1) rfl (by first | exact Or.inl rfl | exact Or.inr (Or.inl rfl) | exact Or.inr (Or.inr rfl))))) (se_lst (sa_cons (se_var (i := 2) rfl (by first | exact Or.inl rfl | exact Or.inr (Or.inl rfl) | exact Or.inr (Or.inr rfl))) sa_nil))) (se_sl (se_var (i := 0) rfl (by first | exact Or.inl rfl | exact Or.inr (Or.inl rfl) | exact Or.inr (Or.inr rfl))) (so_some (se_op op_dAdd (se_var (i := 1) rfl (by first | exact Or.inl rfl | exact Or.inr (Or.inl rfl) | exact Or.inr (Or.inr rfl))) se_int)) so_none))))
theorem ok_l_wrong {a : Addr} {fd : FuncData} (D0 : DefAt K mg "_law_wrong" s_l_wrong ["_law_lines", "_law_k"] a fd) (B : Bi K mg) {a_l_with : Addr} {f_l_with : FuncData} (D_l_with : DefAt K mg "_law_with" s_l_with ["_law_lines", "_law_k", "_law_line"] a_l_with f_l_with) (G_l_with : FnOk P w K mg base (L2.CX P w) 1 a_l_with f_l_with ["_law_lines", "_law_k", "_law_line"] (spF K mg 3 d_l_with)) : FnOk P w K mg base (L2.CX P w) 2 a fd ["_law_lines", "_law_k"] (spF K mg 2 d_l_wrong) := by
  refine fn_ok (N := N_l_wrong) (ps := ["_law_lines", "_law_k"]) (k := 1) (body := b_l_wrong) D0.F sc_l_wrong (fun cdv A outer s H E hr => ?_)
  exact (ss_cons (ss_asg (se_idx (se_var (i := 0) rfl (by first | exact Or.inl rfl | exact Or.inr (Or.inl rfl) | exact Or.inr (Or.inr rfl))) (se_var (i := 1) rfl (by first | exact Or.inl rfl | exact Or.inr (Or.inl rfl) | exact Or.inr (Or.inr rfl))) ix_dIdx) (sg_name (i := 2) sc_l_wrong.nd rfl (by first | exact Or.inl rfl | exact Or.inr rfl)))
    (ss_cons (ss_asg (se_new (sa_cons (se_def callP (.inr (.inl rfl)) (takes_of rfl rfl rfl rfl) D_l_with G_l_with hr (sa_cons (se_var (i := 0) rfl (by first | exact Or.inl rfl | exact Or.inr (Or.inl rfl) | exact Or.inr (Or.inr rfl))) (sa_cons (se_var (i := 1) rfl (by first | exact Or.inl rfl | exact Or.inr (Or.inl rfl) | exact Or.inr (Or.inr rfl))) (sa_cons (se_tup (sa_cons (se_idx (se_var (i := 2) rfl (by first | exact Or.inl rfl | exact Or.inr (Or.inl rfl) | exact Or.inr (Or.inr rfl))) se_int ix_dIdx) (sa_cons (se_idx (se_var (i := 2) rfl (by first | exact Or.inl rfl | exact Or.inr (Or.inl rfl) | exact Or.inr (Or.inr rfl))) se_int ix_dIdx) (sa_cons (se_idx (se_var (i := 2) rfl (by first | exact Or.inl rfl | exact Or.inr (Or.inl rfl) | exact Or.inr (Or.inr rfl))) se_int ix_dIdx) (sa_cons (se_tup sa_nil) (sa_cons (se_idx (se_var (i := 2) rfl (by first | exact Or.inl rfl | exact Or.inr (Or.inl rfl) | exact Or.inr (Or.inr rfl))) se_int ix_dIdx) sa_nil)))))) sa_nil)))) sa_nil)) (sg_name (i := 3) sc_l_wrong.nd rfl (by first | exact Or.inl rfl | exact Or.inr rfl)))
    (ss_cons (ss_expr (se_app (se_var (i := 3) rfl (by first | exact Or.inl rfl | exact Or.inr (Or.inl rfl) | exact Or.inr (Or.inr rfl))) (sa_cons (se_def callP (.inr (.inl rfl)) (takes_of rfl rfl rfl rfl) D_l_with G_l_with hr (sa_cons (se_var (i := 0) rfl (by first | exact Or.inl rfl | exact Or.inr (Or.inl rfl) | exact Or.inr (Or.inr rfl))) (sa_cons (se_var (i := 1) rfl (by first | exact Or.inl rfl | exact Or.inr (Or.inl rfl) | exact Or.inr (Or.inr rfl))) (sa_cons (se_tup (sa_cons (se_idx (se_var (i := 2) rfl (by first | exact Or.inl rfl | exact Or.inr (Or.inl rfl) | exact Or.inr (Or.inr rfl))) se_int ix_dIdx) (sa_cons (se_idx (se_var (i := 2) rfl (by first | exact Or.inl rfl | exact Or.inr (Or.inl rfl) | exact Or.inr (Or.inr rfl))) se_int ix_dIdx) (sa_cons (se_tup (sa_cons se_int (sa_cons se_int sa_nil))) (sa_cons (se_idx (se_var (i := 2) rfl (by first | exact Or.inl rfl | exact Or.inr (Or.inl rfl) | exact Or.inr (Or.inr rfl))) se_int ix_dIdx) (sa_cons (se_idx (se_var (i := 2) rfl (by first | exact Or.inl rfl | exact Or.inr (Or.inl rfl) | exact Or.inr (Or.inr rfl))) se_int ix_dIdx) sa_nil)))))) sa_nil)))) sa_nil)))
    (ss_cons (ss_expr (se_app (se_var (i := 3) rfl (by first | exact Or.inl rfl | exact Or.inr (Or.inl rfl) | exact Or.inr (Or.inr rfl))) (sa_cons (se_def callP (.inr (.inl rfl)) (takes_of rfl rfl rfl rfl) D_l_with G_l_with hr (sa_cons (se_var (i := 0) rfl (by first | exact Or.inl rfl | exact Or.inr (Or.inl rfl) | exact Or.inr (Or.inr rfl))) (sa_cons (se_var (i := 1) rfl (by first | exact Or.inl rfl | exact Or.inr (Or.inl rfl) | exact Or.inr (Or.inr rfl))) (sa_cons (se_tup (sa_cons (se_idx (se_var (i := 2) rfl (by first | exact Or.inl rfl | exact Or.inr (Or.inl rfl) | exact Or.inr (Or.inr rfl))) se_int ix_dIdx) (sa_cons (se_idx (se_var (i := 2) rfl (by first | exact Or.inl rfl | exact Or.inr (Or.inl rfl) | exact Or.inr (Or.inr rfl))) se_int ix_dIdx) (sa_cons (se_idx (se_var (i := 2) rfl (by first | exact Or.inl rfl | exact Or.inr (Or.inl rfl) | exact Or.inr (Or.inr rfl))) se_int ix_dIdx) (sa_cons (se_idx (se_var (i := 2) rfl (by first | exact Or.inl rfl | exact Or.inr (Or.inl rfl) | exact Or.inr (Or.inr rfl))) se_int ix_dIdx) (sa_cons (se_idx (se_var (i := 2) rfl (by first | exact Or.inl rfl | exact Or.inr (Or.inl rfl) | exact Or.inr (Or.inr rfl))) se_int ix_dIdx) sa_nil)))))) sa_nil)))) sa_nil)))
    (ss_cons (ss_if (st_cmp bo_is op_dIs (se_idx (se_var (i := 2) rfl (by first | exact Or.inl rfl | exact Or.inr (Or.inl rfl) | exact Or.inr (Or.inr rfl))) se_int ix_dIdx) se_non (by first | exact nomark _ | rfl)) (ss_one (ss_expr (se_app (se_var (i := 3) rfl (by first | exact Or.inl rfl | exact Or.inr (Or.inl rfl) | exact Or.inr (Or.inr rfl))) (sa_cons (se_def callP (.inr (.inl rfl)) (takes_of rfl rfl rfl rfl) D_l_with G_l_with hr (sa_cons (se_var (i := 0) rfl (by first | exact Or.inl rfl | exact Or.inr (Or.inl rfl) | exact Or.inr (Or.inr rfl))) (sa_cons (se_var (i := 1) rfl (by first | exact Or.inl rfl | exact Or.inr (Or.inl rfl) | exact Or.inr (Or.inr rfl))) (sa_cons (se_tup (sa_cons (se_idx (se_var (i := 2) rfl (by first | exact Or.inl rfl | exact Or.inr (Or.inl rfl) | exact Or.inr (Or.inr rfl))) se_int ix_dIdx) (sa_cons (se_tup (sa_cons se_int (sa_cons se_int sa_nil))) (sa_cons (se_idx (se_var (i := 2) rfl (by first | exact Or.inl rfl | exact Or.inr (Or.inl rfl) | exact Or.inr (Or.inr rfl))) se_int ix_dIdx) (sa_cons (se_idx (se_var (i := 2) rfl (by first | exact Or.inl rfl | exact Or.inr (Or.inl rfl) | exact Or.inr (Or.inr rfl))) se_int ix_dIdx) (sa_cons se_non sa_nil)))))) sa_nil)))) sa_nil)))) ss_nil)
    (ss_cons (ss_if (st_cmp bo_gt op_dGt (se_var (i := 1) rfl (by first | exact Or.inl rfl | exact Or.inr (Or.inl rfl) | exact Or.inr (Or.inr rfl))) se_int (by first | exact nomark _ | rfl)) (ss_cons (ss_asg (se_idx (se_var (i := 0) rfl (by first | exact Or.inl rfl | exact Or.inr (Or.inl rfl) | exact Or.inr (Or.inr rfl))) (se_op op_dSub (se_var (i := 1) rfl (by first | exact Or.inl rfl | exact Or.inr (Or.inl rfl) | exact Or.inr (Or.inr rfl))) se_int) ix_dIdx) (sg_name (i := 4) sc_l_wrong.nd rfl (by first | exact Or.inl rfl | exact Or.inr rfl)))
    (ss_cons (ss_expr (se_app (se_var (i := 3) rfl (by first | exact Or.inl rfl | exact Or.inr (Or.inl rfl) | exact Or.inr (Or.inr rfl))) (sa_cons (se_op op_dAdd (se_op op_dAdd (se_sl (se_var (i := 0) rfl (by first | exact Or.inl rfl | exact Or.inr (Or.inl rfl) | exact Or.inr (Or.inr rfl))) so_none (so_some (se_op op_dSub (se_var (i := 1) rfl (by first | exact Or.inl rfl | exact Or.inr (Or.inl rfl) | exact Or.inr (Or.inr rfl))) se_int))) (se_lst (sa_cons (se_var (i := 2) rfl (by first | exact Or.inl rfl | exact Or.inr (Or.inl rfl) | exact Or.inr (Or.inr rfl))) (sa_cons (se_var (i := 4) rfl (by first | exact Or.inl rfl | exact Or.inr (Or.inl rfl) | exact Or.inr (Or.inr rfl))) sa_nil)))) (se_sl (se_var (i := 0) rfl (by first | exact Or.inl rfl | exact Or.inr (Or.inl rfl) | exact Or.inr (Or.inr rfl))) (so_some (se_op op_dAdd (se_var (i := 1) rfl (by first | exact Or.inl rfl | exact Or.inr (Or.inl rfl) | exact Or.inr (Or.inr rfl))) se_int)) so_none)) sa_nil)))
    (ss_cons (ss_expr (se_app (se_var (i := 3) rfl (by first | exact Or.inl rfl | exact Or.inr (Or.inl rfl) | exact Or.inr (Or.inr rfl))) (sa_cons (se_def callP (.inr (.inl rfl)) (takes_of rfl rfl rfl rfl) D_l_with G_l_with hr (sa_cons (se_var (i := 0) rfl (by first | exact Or.inl rfl | exact Or.inr (Or.inl rfl) | exact Or.inr (Or.inr rfl))) (sa_cons (se_var (i := 1) rfl (by first | exact Or.inl rfl | exact Or.inr (Or.inl rfl) | exact Or.inr (Or.inr rfl))) (sa_cons (se_tup (sa_cons (se_idx (se_var (i := 2) rfl (by first | exact Or.inl rfl | exact Or.inr (Or.inl rfl) | exact Or.inr (Or.inr rfl))) se_int ix_dIdx) (sa_cons (se_idx (se_var (i := 4) rfl (by first | exact Or.inl rfl | exact Or.inr (Or.inl rfl) | exact Or.inr (Or.inr rfl))) se_int ix_dIdx) (sa_cons (se_idx (se_var (i := 2) rfl (by first | exact Or.inl rfl | exact Or.inr (Or.inl rfl) | exact Or.inr (Or.inr rfl))) se_int ix_dIdx) (sa_cons (se_idx (se_var (i := 2) rfl (by first | exact Or.inl rfl | exact Or.inr (Or.inl rfl) | exact Or.inr (Or.inr rfl))) se_int ix_dIdx) (sa_cons (se_idx (se_var (i := 2) rfl (by first | exact Or.inl rfl | exact Or.inr (Or.inl rfl) | exact Or.inr (Or.inr rfl))) se_int ix_dIdx) sa_nil)))))) sa_nil)))) sa_nil)))
    (ss_one (ss_if (st_cmp bo_isnt op_dIsnt (se_idx (se_var (i := 4) rfl (by first | exact Or.inl rfl | exact Or.inr (Or.inl rfl) | exact Or.inr (Or.inr rfl))) se_int ix_dIdx) se_non (by first | exact nomark _ | rfl)) (ss_one (ss_expr (se_app (se_var (i := 3) rfl (by first | exact Or.inl rfl | exact Or.inr (Or.inl rfl) | exact Or.inr (Or.inr rfl))) (sa_cons (se_def callP (.inr (.inl rfl)) (takes_of rfl rfl rfl rfl) D_l_with G_l_with hr (sa_cons (se_var (i := 0) rfl (by first | exact Or.inl rfl | exact Or.inr (Or.inl rfl) | exact Or.inr (Or.inr rfl))) (sa_cons (se_var (i := 1) rfl (by first | exact Or.inl rfl | exact Or.inr (Or.inl rfl) | exact Or.inr (Or.inr rfl))) (sa_cons (se_tup (sa_cons (se_idx (se_var (i := 2) rfl (by first | exact Or.inl rfl | exact Or.inr (Or.inl rfl) | exact Or.inr (Or.inr rfl))) se_int ix_dIdx) (sa_cons (se_idx (se_var (i := 2) rfl (by first | exact Or.inl rfl | exact Or.inr (Or.inl rfl) | exact Or.inr (Or.inr rfl))) se_int ix_dIdx) (sa_cons (se_idx (se_var (i := 4) rfl (by first | exact Or.inl rfl | exact Or.inr (Or.inl rfl) | exact Or.inr (Or.inr rfl))) se_int ix_dIdx) (sa_cons (se_idx (se_var (i := 2) rfl (by first | exact Or.inl rfl | exact Or.inr (Or.inl rfl) | exact Or.inr (Or.inr rfl))) se_int ix_dIdx) (sa_cons (se_idx (se_var (i := 2) rfl (by first | exact Or.inl rfl | exact Or.inr (Or.inl rfl) | exact Or.inr (Or.inr rfl))) se_int ix_dIdx) sa_nil)))))) sa_nil)))) sa_nil)))) ss_nil))))) ss_nil)
    (ss_one (ss_ret (se_var (i := 3) rfl (by first | exact Or.inl rfl | exact Or.inr (Or.inl rfl) | exact Or.inr (Or.inr rfl)))))))))))
theorem ok_end_line {a : Addr} {fd : FuncData} (D0 : DefAt K mg "end_line" s_end_line ["lines", "gone"] a fd) (B : Bi K mg) : FnOk P w K mg base (L2.CX P w) 1 a fd ["lines", "gone"] (spF K mg 2 d_end_line) := by
  refine fn_ok (N := N_end_line) (ps := ["lines", "gone"]) (k := 0) (body := b_end_line) D0.F sc_end_line (fun cdv A outer s H E hr => ?_)
  exact (ss_cons (ss_asg (se_new sa_nil) (sg_name (i := 2) sc_end_line.nd rfl (by first | exact Or.inl rfl | exact Or.inr rfl)))
    (ss_cons (ss_for (passes_of rfl) rfl (si_of (se_var (i := 0) rfl (by first | exact Or.inl rfl | exact Or.inr (Or.inl rfl) | exact Or.inr (Or.inr rfl)))) (sg_name (i := 3) sc_end_line.nd rfl (by first | exact Or.inl rfl | exact Or.inr rfl)) (ss_cons (ss_if (st_cmp bo_eq (op_dEq (u60 hr)) (se_idx (se_var (i := 3) rfl (by first | exact Or.inl rfl | exact Or.inr (Or.inl rfl) | exact Or.inr (Or.inr rfl))) se_int ix_dIdx) (se_idx (se_var (i := 1) rfl (by first | exact Or.inl rfl | exact Or.inr (Or.inl rfl) | exact Or.inr (Or.inr rfl))) se_int ix_dIdx) (by first | exact nomark _ | rfl)) (ss_one ss_continue) ss_nil)
    (ss_one (ss_if (st_cmp bo_eq (op_dEq (u60 hr)) (se_idx (se_var (i := 3) rfl (by first | exact Or.inl rfl | exact Or.inr (Or.inl rfl) | exact Or.inr (Or.inr rfl))) se_int ix_dIdx) (se_idx (se_var (i := 1) rfl (by first | exact Or.inl rfl | exact Or.inr (Or.inl rfl) | exact Or.inr (Or.inr rfl))) se_int ix_dIdx) (by first | exact nomark _ | rfl)) (ss_one (ss_expr (se_app (se_var (i := 2) rfl (by first | exact Or.inl rfl | exact Or.inr (Or.inl rfl) | exact Or.inr (Or.inr rfl))) (sa_cons (se_tup (sa_cons (se_idx (se_var (i := 3) rfl (by first | exact Or.inl rfl | exact Or.inr (Or.inl rfl) | exact Or.inr (Or.inr rfl))) se_int ix_dIdx) (sa_cons (se_idx (se_var (i := 3) rfl (by first | exact Or.inl rfl | exact Or.inr (Or.inl rfl) | exact Or.inr (Or.inr rfl))) se_int ix_dIdx) (sa_cons (se_idx (se_var (i := 1) rfl (by first | exact Or.inl rfl | exact Or.inr (Or.inl rfl) | exact Or.inr (Or.inr rfl))) se_int ix_dIdx) (sa_cons (se_op op_dAdd (se_idx (se_var (i := 1) rfl (by first | exact Or.inl rfl | exact Or.inr (Or.inl rfl) | exact Or.inr (Or.inr rfl))) se_int ix_dIdx) (se_idx (se_var (i := 3) rfl (by first | exact Or.inl rfl | exact Or.inr (Or.inl rfl) | exact Or.inr (Or.inr rfl))) se_int ix_dIdx)) (sa_cons (se_idx (se_var (i := 3) rfl (by first | exact Or.inl rfl | exact Or.inr (Or.inl rfl) | exact Or.inr (Or.inr rfl))) se_int ix_dIdx) sa_nil)))))) sa_nil)))) (ss_one (ss_expr (se_app (se_var (i := 2) rfl (by first | exact Or.inl rfl | exact Or.inr (Or.inl rfl) | exact Or.inr (Or.inr rfl))) (sa_cons (se_var (i := 3) rfl (by first | exact Or.inl rfl | exact Or.inr (Or.inl rfl) | exact Or.inr (Or.inr rfl))) sa_nil))))))))
    (ss_one (ss_ret (se_var (i := 2) rfl (by first | exact Or.inl rfl | exact Or.inr (Or.inl rfl) | exact Or.inr (Or.inr rfl)))))))
theorem ok_find_head {a : Addr} {fd : FuncData} (D0 : DefAt K mg "find_head" s_find_head ["lines", "head"] a fd) (B : Bi K mg) : FnOk P w K mg base (L2.CX P w) 1 a fd ["lines", "head"] (spF K mg 2 d_find_head) := by
  refine fn_ok (N := N_find_head) (ps := ["lines", "head"]) (k := 0) (body := b_find_head) D0.F sc_find_head (fun cdv A outer s H E hr => ?_)
  exact (ss_cons (ss_for (passes_of rfl) rfl (si_of (se_var (i := 0) rfl (by first | exact Or.inl rfl | exact Or.inr (Or.inl rfl) | exact Or.inr (Or.inr rfl)))) (sg_name (i := 2) sc_find_head.nd rfl (by first | exact Or.inl rfl | exact Or.inr rfl)) (ss_one (ss_if (st_cmp bo_eq (op_dEq (u60 hr)) (se_idx (se_var (i := 2) rfl (by first | exact Or.inl rfl | exact Or.inr (Or.inl rfl) | exact Or.inr (Or.inr rfl))) se_int ix_dIdx) (se_var (i := 1) rfl (by first | exact Or.inl rfl | exact Or.inr (Or.inl rfl) | exact Or.inr (Or.inr rfl))) (by first | exact nomark _ | rfl)) (ss_one (ss_ret (se_var (i := 2) rfl (by first | exact Or.inl rfl | exact Or.inr (Or.inl rfl) | exact Or.inr (Or.inr rfl))))) ss_nil)))
    (ss_one (ss_ret se_non)))
theorem ok_end_heads {a : Addr} {fd : FuncData} (D0 : DefAt K mg "end_heads" s_end_heads ["lines", "heads"] a fd) (B : Bi K mg) {a_end_line : Addr} {f_end_line : FuncData} (D_end_line : DefAt K mg "end_line" s_end_line ["lines", "gone"] a_end_line f_end_line) (G_end_line : FnOk P w K mg base (L2.CX P w) 1 a_end_line f_end_line ["lines", "gone"] (spF K mg 2 d_end_line)) {a_find_head : Addr} {f_find_head : FuncData} (D_find_head : DefAt K mg "find_head" s_find_head ["lines", "head"] a_find_head f_find_head) (G_find_head : FnOk P w K mg base (L2.CX P w) 1 a_find_head f_find_head ["lines", "head"] (spF K mg 2 d_find_head)) : FnOk P w K mg base (L2.CX P w) 2 a fd ["lines", "heads"] (spF K mg 2 d_end_heads) := by
  refine fn_ok (N := N_end_heads) (ps := ["lines", "heads"]) (k := 1) (body := b_end_heads) D0.F sc_end_heads (fun cdv A outer s H E hr => ?_)
  exact (ss_cons (ss_for (passes_of rfl) rfl (si_of (se_var (i := 1) rfl (by first | exact Or.inl rfl | exact Or.inr (Or.inl rfl) | exact Or.inr (Or.inr rfl)))) (sg_name (i := 2) sc_end_heads.nd rfl (by first | exact Or.inl rfl | exact Or.inr rfl)) (ss_cons (ss_asg (se_def callP (.inr (.inl rfl)) (takes_of rfl rfl rfl rfl) D_find_head G_find_head hr (sa_cons (se_var (i := 0) rfl (by first | exact Or.inl rfl | exact Or.inr (Or.inl rfl) | exact Or.inr (Or.inr rfl))) (sa_cons (se_var (i := 2) rfl (by first | exact Or.inl rfl | exact Or.inr (Or.inl rfl) | exact Or.inr (Or.inr rfl))) sa_nil))) (sg_name (i := 3) sc_end_heads.nd rfl (by first | exact Or.inl rfl | exact Or.inr rfl)))
    (ss_one (ss_if (st_cmp bo_isnt op_dIsnt (se_var (i := 3) rfl (by first | exact Or.inl rfl | exact Or.inr (Or.inl rfl) | exact Or.inr (Or.inr rfl))) se_non (by first | exact nomark _ | rfl)) (ss_one (ss_asg (se_def callP (.inr (.inl rfl)) (takes_of rfl rfl rfl rfl) D_end_line G_end_line hr (sa_cons (se_var (i := 0) rfl (by first | exact Or.inl rfl | exact Or.inr (Or.inl rfl) | exact Or.inr (Or.inr rfl))) (sa_cons (se_var (i := 3) rfl (by first | exact Or.inl rfl | exact Or.inr (Or.inl rfl) | exact Or.inr (Or.inr rfl))) sa_nil))) (sg_name (i := 0) sc_end_heads.nd rfl (by first | exact Or.inl rfl | exact Or.inr rfl)))) ss_nil))))
    (ss_one (ss_ret (se_var (i := 0) rfl (by first | exact Or.inl rfl | exact Or.inr (Or.inl rfl) | exact Or.inr (Or.inr rfl))))))
theorem ok_find_line {a : Addr} {fd : FuncData} (D0 : DefAt K mg "find_line" s_find_line ["lines", "line_id"] a fd) (B : Bi K mg) : FnOk P w K mg base (L2.CX P w) 1 a fd ["lines", "line_id"] (spF K mg 2 d_find_line) := by
  refine fn_ok (N := N_find_line) (ps := ["lines", "line_id"]) (k := 0) (body := b_find_line) D0.F sc_find_line (fun cdv A outer s H E hr => ?_)
  exact (ss_cons (ss_for (passes_of rfl) rfl (si_of (se_var (i := 0) rfl (by first | exact Or.inl rfl | exact Or.inr (Or.inl rfl) | exact Or.inr (Or.inr rfl)))) (sg_name (i := 2) sc_find_line.nd rfl (by first | exact Or.inl rfl | exact Or.inr rfl)) (ss_one (ss_if (st_cmp bo_eq (op_dEq (u60 hr)) (se_idx (se_var (i := 2) rfl (by first | exact Or.inl rfl | exact Or.inr (Or.inl rfl) | exact Or.inr (Or.inr rfl))) se_int ix_dIdx) (se_var (i := 1) rfl (by first | exact Or.inl rfl | exact Or.inr (Or.inl rfl) | exact Or.inr (Or.inr rfl))) (by first | exact nomark _ | rfl)) (ss_one (ss_ret (se_var (i := 2) rfl (by first | exact Or.inl rfl | exact Or.inr (Or.inl rfl) | exact Or.inr (Or.inr rfl))))) ss_nil)))
    (ss_one (ss_ret se_non)))
theorem ok_find_folder {a : Addr} {fd : FuncData} (D0 : DefAt K mg "find_folder" s_find_folder ["lines", "line_id"] a fd) (B : Bi K mg) {a_find_line : Addr} {f_find_line : FuncData} (D_find_line : DefAt K mg "find_line" s_find_line ["lines", "line_id"] a_find_line f_find_line) (G_find_line : FnOk P w K mg base (L2.CX P w) 1 a_find_line f_find_line ["lines", "line_id"] (spF K mg 2 d_find_line)) : FnOk P w K mg base (L2.CX P w) 2 a fd ["lines", "line_id"] (spF K mg 2 d_find_folder) := by
  refine fn_ok (N := N_find_folder) (ps := ["lines", "line_id"]) (k := 1) (body := b_find_folder) D0.F sc_find_folder (fun cdv A outer s H E hr => ?_)
  exact (ss_cons (ss_asg (se_def callP (.inr (.inl rfl)) (takes_of rfl rfl rfl rfl) D_find_line G_find_line hr (sa_cons (se_var (i := 0) rfl (by first | exact Or.inl rfl | exact Or.inr (Or.inl rfl) | exact Or.inr (Or.inr rfl))) (sa_cons (se_var (i := 1) rfl (by first | exact Or.inl rfl | exact Or.inr (Or.inl rfl) | exact Or.inr (Or.inr rfl))) sa_nil))) (sg_name (i := 2) sc_find_folder.nd rfl (by first | exact Or.inl rfl | exact Or.inr rfl)))
    (ss_cons (ss_if (sw_and (st_cmp bo_isnt op_dIsnt (se_var (i := 2) rfl (by first | exact Or.inl rfl | exact Or.inr (Or.inl rfl) | exact Or.inr (Or.inr rfl))) se_non (by first | exact nomark _ | rfl)) (sw_and1 (st_cmp bo_is op_dIs (se_idx (se_var (i := 2) rfl (by first | exact Or.inl rfl | exact Or.inr (Or.inl rfl) | exact Or.inr (Or.inr rfl))) se_int ix_dIdx) se_non (by first | exact nomark _ | rfl)))).pt (ss_one (ss_ret (se_var (i := 2) rfl (by first | exact Or.inl rfl | exact Or.inr (Or.inl rfl) | exact Or.inr (Or.inr rfl))))) ss_nil)
    (ss_one (ss_ret se_non))))
theorem ok_settle {a : Addr} {fd : FuncData} (D0 : DefAt K mg "settle" s_settle ["lines", "place"] a fd) (B : Bi K mg) {a_find_folder : Addr} {f_find_folder : FuncData} (D_find_folder : DefAt K mg "find_folder" s_find_folder ["lines", "line_id"] a_find_folder f_find_folder) (G_find_folder : FnOk P w K mg base (L2.CX P w) 2 a_find_folder f_find_folder ["lines", "line_id"] (spF K mg 2 d_find_folder)) : FnOk P w K mg base (L2.CX P w) 3 a fd ["lines", "place"] (spF K mg 2 d_settle) := by
  refine fn_ok (N := N_settle) (ps := ["lines", "place"]) (k := 2) (body := b_settle) D0.F sc_settle (fun cdv A outer s H E hr => ?_)
  exact (ss_cons (ss_asg (se_var (i := 1) rfl (by first | exact Or.inl rfl | exact Or.inr (Or.inl rfl) | exact Or.inr (Or.inr rfl))) (sg_tup rfl (sg_cons (sg_name (i := 2) sc_settle.nd rfl (by first | exact Or.inl rfl | exact Or.inr rfl)) (sg_cons (sg_name (i := 3) sc_settle.nd rfl (by first | exact Or.inl rfl | exact Or.inr rfl)) (sg_cons (sg_name (i := 4) sc_settle.nd rfl (by first | exact Or.inl rfl | exact Or.inr rfl)) sg_nil))) (gl_cons (gl_cons (gl_cons gl_nil)))))
    (ss_cons (ss_if (sw_and (st_cmp bo_isnt op_dIsnt (se_var (i := 2) rfl (by first | exact Or.inl rfl | exact Or.inr (Or.inl rfl) | exact Or.inr (Or.inr rfl))) se_non (by first | exact nomark _ | rfl)) (sw_and1 (st_cmp bo_isnt op_dIsnt (se_def callP (.inr (.inl rfl)) (takes_of rfl rfl rfl rfl) D_find_folder G_find_folder hr (sa_cons (se_var (i := 0) rfl (by first | exact Or.inl rfl | exact Or.inr (Or.inl rfl) | exact Or.inr (Or.inr rfl))) (sa_cons (se_var (i := 2) rfl (by first | exact Or.inl rfl | exact Or.inr (Or.inl rfl) | exact Or.inr (Or.inr rfl))) sa_nil))) se_non (by first | exact nomark _ | rfl)))).pt (ss_one (ss_ret (se_tup (sa_cons (se_var (i := 2) rfl (by first | exact Or.inl rfl | exact Or.inr (Or.inl rfl) | exact Or.inr (Or.inr rfl))) (sa_cons (se_var (i := 3) rfl (by first | exact Or.inl rfl | exact Or.inr (Or.inl rfl) | exact Or.inr (Or.inr rfl))) sa_nil))))) ss_nil)
    (ss_one (ss_ret (se_tup (sa_cons se_non (sa_cons (se_var (i := 4) rfl (by first | exact Or.inl rfl | exact Or.inr (Or.inl rfl) | exact Or.inr (Or.inr rfl))) sa_nil)))))))
theorem ok_stands_in {a : Addr} {fd : FuncData} (D0 : DefAt K mg "stands_in" s_stands_in ["lines", "inside", "line_id"] a fd) (B : Bi K mg) {a_find_folder : Addr} {f_find_folder : FuncData} (D_find_folder : DefAt K mg "find_folder" s_find_folder ["lines", "line_id"] a_find_folder f_find_folder) (G_find_folder : FnOk P w K mg base (L2.CX P w) 2 a_find_folder f_find_folder ["lines", "line_id"] (spF K mg 2 d_find_folder)) : FnOk P w K mg base (L2.CX P w) 3 a fd ["lines", "inside", "line_id"] (spF K mg 3 d_stands_in) := by
  refine fn_ok (N := N_stands_in) (ps := ["lines", "inside", "line_id"]) (k := 2) (body := b_stands_in) D0.F sc_stands_in (fun cdv A outer s H E hr => ?_)
  exact (ss_cons (ss_for (passes_of rfl) rfl (si_range1 rfl B.range (sa_cons (se_op op_dAdd (sb_len  B.len (sa_cons (se_var (i := 0) rfl (by first | exact Or.inl rfl | exact Or.inr (Or.inl rfl) | exact Or.inr (Or.inr rfl))) sa_nil)) se_int) sa_nil)) (sg_name (i := 3) sc_stands_in.nd rfl (by first | exact Or.inl rfl | exact Or.inr rfl)) (ss_cons (ss_if (st_cmp bo_is op_dIs (se_var (i := 1) rfl (by first | exact Or.inl rfl | exact Or.inr (Or.inl rfl) | exact Or.inr (Or.inr rfl))) se_non (by first | exact nomark _ | rfl)) (ss_one (ss_ret se_bl)) ss_nil)
    (ss_cons (ss_if (st_cmp bo_eq (op_dEq (u60 hr)) (se_var (i := 1) rfl (by first | exact Or.inl rfl | exact Or.inr (Or.inl rfl) | exact Or.inr (Or.inr rfl))) (se_var (i := 2) rfl (by first | exact Or.inl rfl | exact Or.inr (Or.inl rfl) | exact Or.inr (Or.inr rfl))) (by first | exact nomark _ | rfl)) (ss_one (ss_ret se_bl)) ss_nil)
    (ss_cons (ss_asg (se_def callP (.inr (.inl rfl)) (takes_of rfl rfl rfl rfl) D_find_folder G_find_folder hr (sa_cons (se_var (i := 0) rfl (by first | exact Or.inl rfl | exact Or.inr (Or.inl rfl) | exact Or.inr (Or.inr rfl))) (sa_cons (se_var (i := 1) rfl (by first | exact Or.inl rfl | exact Or.inr (Or.inl rfl) | exact Or.inr (Or.inr rfl))) sa_nil))) (sg_name (i := 4) sc_stands_in.nd rfl (by first | exact Or.inl rfl | exact Or.inr rfl)))
    (ss_cons (ss_if (st_cmp bo_is op_dIs (se_var (i := 4) rfl (by first | exact Or.inl rfl | exact Or.inr (Or.inl rfl) | exact Or.inr (Or.inr rfl))) se_non (by first | exact nomark _ | rfl)) (ss_one (ss_ret se_bl)) ss_nil)
    (ss_one (ss_asg (se_idx (se_var (i := 4) rfl (by first | exact Or.inl rfl | exact Or.inr (Or.inl rfl) | exact Or.inr (Or.inr rfl))) se_int ix_dIdx) (sg_name (i := 1) sc_stands_in.nd rfl (by first | exact Or.inl rfl | exact Or.inr rfl)))))))))
    (ss_one (ss_ret se_bl)))
theorem ok_move_line {a : Addr} {fd : FuncData} (D0 : DefAt K mg "move_line" s_move_line ["lines", "head", "line_id", "place"] a fd) (B : Bi K mg) {a_find_head : Addr} {f_find_head : FuncData} (D_find_head : DefAt K mg "find_head" s_find_head ["lines", "head"] a_find_head f_find_head) (G_find_head : FnOk P w K mg base (L2.CX P w) 1 a_find_head f_find_head ["lines", "head"] (spF K mg 2 d_find_head)) {a_find_line : Addr} {f_find_line : FuncData} (D_find_line : DefAt K mg "find_line" s_find_line ["lines", "line_id"] a_find_line f_find_line) (G_find_line : FnOk P w K mg base (L2.CX P w) 1 a_find_line f_find_line ["lines", "line_id"] (spF K mg 2 d_find_line)) {a_settle : Addr} {f_settle : FuncData} (D_settle : DefAt K mg "settle" s_settle ["lines", "place"] a_settle f_settle) (G_settle : FnOk P w K mg base (L2.CX P w) 3 a_settle f_settle ["lines", "place"] (spF K mg 2 d_settle)) {a_stands_in : Addr} {f_stands_in : FuncData} (D_stands_in : DefAt K mg "stands_in" s_stands_in ["lines", "inside", "line_id"] a_stands_in f_stands_in) (G_stands_in : FnOk P w K mg base (L2.CX P w) 3 a_stands_in f_stands_in ["lines", "inside", "line_id"] (spF K mg 3 d_stands_in)) : FnOk P w K mg base (L2.CX P w) 4 a fd ["lines", "head", "line_id", "place"] (spF K mg 4 d_move_line) := by
  refine fn_ok (N := N_move_line) (ps := ["lines", "head", "line_id", "place"]) (k := 3) (body := b_move_line) D0.F sc_move_line (fun cdv A outer s H E hr => ?_)
  exact (ss_cons (ss_asg (se_def callP (.inr (.inl rfl)) (takes_of rfl rfl rfl rfl) D_find_head G_find_head hr (sa_cons (se_var (i := 0) rfl (by first | exact Or.inl rfl | exact Or.inr (Or.inl rfl) | exact Or.inr (Or.inr rfl))) (sa_cons (se_var (i := 1) rfl (by first | exact Or.inl rfl | exact Or.inr (Or.inl rfl) | exact Or.inr (Or.inr rfl))) sa_nil))) (sg_name (i := 4) sc_move_line.nd rfl (by first | exact Or.inl rfl | exact Or.inr rfl)))
    (ss_cons (ss_if (st_cmp bo_is op_dIs (se_var (i := 4) rfl (by first | exact Or.inl rfl | exact Or.inr (Or.inl rfl) | exact Or.inr (Or.inr rfl))) se_non (by first | exact nomark _ | rfl)) (ss_one (ss_asg (se_def callP (.inr (.inl rfl)) (takes_of rfl rfl rfl rfl) D_find_line G_find_line hr (sa_cons (se_var (i := 0) rfl (by first | exact Or.inl rfl | exact Or.inr (Or.inl rfl) | exact Or.inr (Or.inr rfl))) (sa_cons (se_var (i := 2) rfl (by first | exact Or.inl rfl | exact Or.inr (Or.inl rfl) | exact Or.inr (Or.inr rfl))) sa_nil))) (sg_name (i := 4) sc_move_line.nd rfl (by first | exact Or.inl rfl | exact Or.inr rfl)))) ss_nil)
    (ss_cons (ss_if (st_cmp bo_is op_dIs (se_var (i := 4) rfl (by first | exact Or.inl rfl | exact Or.inr (Or.inl rfl) | exact Or.inr (Or.inr rfl))) se_non (by first | exact nomark _ | rfl)) (ss_one (ss_ret (se_var (i := 0) rfl (by first | exact Or.inl rfl | exact Or.inr (Or.inl rfl) | exact Or.inr (Or.inr rfl))))) ss_nil)
    (ss_cons (ss_asg (se_def callP (.inr (.inl rfl)) (takes_of rfl rfl rfl rfl) D_settle G_settle hr (sa_cons (se_var (i := 0) rfl (by first | exact Or.inl rfl | exact Or.inr (Or.inl rfl) | exact Or.inr (Or.inr rfl))) (sa_cons (se_var (i := 3) rfl (by first | exact Or.inl rfl | exact Or.inr (Or.inl rfl) | exact Or.inr (Or.inr rfl))) sa_nil))) (sg_tup rfl (sg_cons (sg_name (i := 5) sc_move_line.nd rfl (by first | exact Or.inl rfl | exact Or.inr rfl)) (sg_cons (sg_name (i := 6) sc_move_line.nd rfl (by first | exact Or.inl rfl | exact Or.inr rfl)) sg_nil)) (gl_cons (gl_cons gl_nil))))
    (ss_cons (ss_if (st_truth (se_def callP (.inr (.inl rfl)) (takes_of rfl rfl rfl rfl) D_stands_in G_stands_in hr (sa_cons (se_var (i := 0) rfl (by first | exact Or.inl rfl | exact Or.inr (Or.inl rfl) | exact Or.inr (Or.inr rfl))) (sa_cons (se_var (i := 5) rfl (by first | exact Or.inl rfl | exact Or.inr (Or.inl rfl) | exact Or.inr (Or.inr rfl))) (sa_cons (se_idx (se_var (i := 4) rfl (by first | exact Or.inl rfl | exact Or.inr (Or.inl rfl) | exact Or.inr (Or.inr rfl))) se_int ix_dIdx) sa_nil))))) (ss_one (ss_ret (se_var (i := 0) rfl (by first | exact Or.inl rfl | exact Or.inr (Or.inl rfl) | exact Or.inr (Or.inr rfl))))) ss_nil)
    (ss_cons (ss_asg (se_new sa_nil) (sg_name (i := 7) sc_move_line.nd rfl (by first | exact Or.inl rfl | exact Or.inr rfl)))
    (ss_cons (ss_for (passes_of rfl) rfl (si_of (se_var (i := 0) rfl (by first | exact Or.inl rfl | exact Or.inr (Or.inl rfl) | exact Or.inr (Or.inr rfl)))) (sg_name (i := 8) sc_move_line.nd rfl (by first | exact Or.inl rfl | exact Or.inr rfl)) (ss_one (ss_if (st_cmp bo_eq (op_dEq (u60 hr)) (se_idx (se_var (i := 8) rfl (by first | exact Or.inl rfl | exact Or.inr (Or.inl rfl) | exact Or.inr (Or.inr rfl))) se_int ix_dIdx) (se_idx (se_var (i := 4) rfl (by first | exact Or.inl rfl | exact Or.inr (Or.inl rfl) | exact Or.inr (Or.inr rfl))) se_int ix_dIdx) (by first | exact nomark _ | rfl)) (ss_one (ss_expr (se_app (se_var (i := 7) rfl (by first | exact Or.inl rfl | exact Or.inr (Or.inl rfl) | exact Or.inr (Or.inr rfl))) (sa_cons (se_tup (sa_cons (se_idx (se_var (i := 4) rfl (by first | exact Or.inl rfl | exact Or.inr (Or.inl rfl) | exact Or.inr (Or.inr rfl))) se_int ix_dIdx) (sa_cons (se_idx (se_var (i := 4) rfl (by first | exact Or.inl rfl | exact Or.inr (Or.inl rfl) | exact Or.inr (Or.inr rfl))) se_int ix_dIdx) (sa_cons (se_var (i := 5) rfl (by first | exact Or.inl rfl | exact Or.inr (Or.inl rfl) | exact Or.inr (Or.inr rfl))) (sa_cons (se_var (i := 6) rfl (by first | exact Or.inl rfl | exact Or.inr (Or.inl rfl) | exact Or.inr (Or.inr rfl))) (sa_cons (se_idx (se_var (i := 4) rfl (by first | exact Or.inl rfl | exact Or.inr (Or.inl rfl) | exact Or.inr (Or.inr rfl))) se_int ix_dIdx) sa_nil)))))) sa_nil)))) (ss_one (ss_expr (se_app (se_var (i := 7) rfl (by first | exact Or.inl rfl | exact Or.inr (Or.inl rfl) | exact Or.inr (Or.inr rfl))) (sa_cons (se_var (i := 8) rfl (by first | exact Or.inl rfl | exact Or.inr (Or.inl rfl) | exact Or.inr (Or.inr rfl))) sa_nil)))))))
    (ss_one (ss_ret (se_var (i := 7) rfl (by first | exact Or.inl rfl | exact Or.inr (Or.inl rfl) | exact Or.inr (Or.inr rfl))))))))))))
theorem ok_continued {a : Addr} {fd : FuncData} (D0 : DefAt K mg "continued" s_continued ["lines", "replaces"] a fd) (B : Bi K mg) : FnOk P w K mg base (L2.CX P w) 1 a fd ["lines", "replaces"] (spF K mg 2 d_continued) := by
  refine fn_ok (N := N_continued) (ps := ["lines", "replaces"]) (k := 0) (body := b_continued) D0.F sc_continued (fun cdv A outer s H E hr => ?_)
  exact (ss_cons (ss_for (passes_of rfl) rfl (si_of (se_var (i := 0) rfl (by first | exact Or.inl rfl | exact Or.inr (Or.inl rfl) | exact Or.inr (Or.inr rfl)))) (sg_name (i := 2) sc_continued.nd rfl (by first | exact Or.inl rfl | exact Or.inr rfl)) (ss_one (ss_if (sw_and (st_cmp bo_isnt op_dIsnt (se_idx (se_var (i := 2) rfl (by first | exact Or.inl rfl | exact Or.inr (Or.inl rfl) | exact Or.inr (Or.inr rfl))) se_int ix_dIdx) se_non (by first | exact nomark _ | rfl)) (sw_and1 (st_cmp bo_in (op_dIn (u61 hr)) (se_idx (se_var (i := 2) rfl (by first | exact Or.inl rfl | exact Or.inr (Or.inl rfl) | exact Or.inr (Or.inr rfl))) se_int ix_dIdx) (se_var (i := 1) rfl (by first | exact Or.inl rfl | exact Or.inr (Or.inl rfl) | exact Or.inr (Or.inr rfl))) (by first | exact nomark _ | rfl)))).pt (ss_one (ss_ret (se_idx (se_var (i := 2) rfl (by first | exact Or.inl rfl | exact Or.inr (Or.inl rfl) | exact Or.inr (Or.inr rfl))) se_int ix_dIdx))) ss_nil)))
    (ss_one (ss_ret se_non)))
theorem ok_new_line {a : Addr} {fd : FuncData} (D0 : DefAt K mg "new_line" s_new_line ["lines", "edit_id", "place", "content", "meant"] a fd) (B : Bi K mg) {a_find_line : Addr} {f_find_line : FuncData} (D_find_line : DefAt K mg "find_line" s_find_line ["lines", "line_id"] a_find_line f_find_line) (G_find_line : FnOk P w K mg base (L2.CX P w) 1 a_find_line f_find_line ["lines", "line_id"] (spF K mg 2 d_find_line)) {a_settle : Addr} {f_settle : FuncData} (D_settle : DefAt K mg "settle" s_settle ["lines", "place"] a_settle f_settle) (G_settle : FnOk P w K mg base (L2.CX P w) 3 a_settle f_settle ["lines", "place"] (spF K mg 2 d_settle)) : FnOk P w K mg base (L2.CX P w) 4 a fd ["lines", "edit_id", "place", "content", "meant"] (spF K mg 5 d_new_line) := by
  refine fn_ok (N := N_new_line) (ps := ["lines", "edit_id", "place", "content", "meant"]) (k := 3) (body := b_new_line) D0.F sc_new_line (fun cdv A outer s H E hr => ?_)
  exact (ss_cons (ss_asg se_non (sg_name (i := 5) sc_new_line.nd rfl (by first | exact Or.inl rfl | exact Or.inr rfl)))
    (ss_cons (ss_if (st_cmp bo_isnt op_dIsnt (se_var (i := 4) rfl (by first | exact Or.inl rfl | exact Or.inr (Or.inl rfl) | exact Or.inr (Or.inr rfl))) se_non (by first | exact nomark _ | rfl)) (ss_one (ss_asg (se_def callP (.inr (.inl rfl)) (takes_of rfl rfl rfl rfl) D_find_line G_find_line hr (sa_cons (se_var (i := 0) rfl (by first | exact Or.inl rfl | exact Or.inr (Or.inl rfl) | exact Or.inr (Or.inr rfl))) (sa_cons (se_var (i := 4) rfl (by first | exact Or.inl rfl | exact Or.inr (Or.inl rfl) | exact Or.inr (Or.inr rfl))) sa_nil))) (sg_name (i := 5) sc_new_line.nd rfl (by first | exact Or.inl rfl | exact Or.inr rfl)))) ss_nil)
    (ss_cons (ss_if (st_cmp bo_isnt op_dIsnt (se_var (i := 5) rfl (by first | exact Or.inl rfl | exact Or.inr (Or.inl rfl) | exact Or.inr (Or.inr rfl))) se_non (by first | exact nomark _ | rfl)) (ss_one (ss_ret (se_tup (sa_cons (se_var (i := 1) rfl (by first | exact Or.inl rfl | exact Or.inr (Or.inl rfl) | exact Or.inr (Or.inr rfl))) (sa_cons (se_var (i := 1) rfl (by first | exact Or.inl rfl | exact Or.inr (Or.inl rfl) | exact Or.inr (Or.inr rfl))) (sa_cons (se_idx (se_var (i := 5) rfl (by first | exact Or.inl rfl | exact Or.inr (Or.inl rfl) | exact Or.inr (Or.inr rfl))) se_int ix_dIdx) (sa_cons (se_idx (se_var (i := 5) rfl (by first | exact Or.inl rfl | exact Or.inr (Or.inl rfl) | exact Or.inr (Or.inr rfl))) se_int ix_dIdx) (sa_cons (se_var (i := 3) rfl (by first | exact Or.inl rfl | exact Or.inr (Or.inl rfl) | exact Or.inr (Or.inr rfl))) sa_nil)))))))) ss_nil)
    (ss_cons (ss_asg (se_def callP (.inr (.inl rfl)) (takes_of rfl rfl rfl rfl) D_settle G_settle hr (sa_cons (se_var (i := 0) rfl (by first | exact Or.inl rfl | exact Or.inr (Or.inl rfl) | exact Or.inr (Or.inr rfl))) (sa_cons (se_var (i := 2) rfl (by first | exact Or.inl rfl | exact Or.inr (Or.inl rfl) | exact Or.inr (Or.inr rfl))) sa_nil))) (sg_tup rfl (sg_cons (sg_name (i := 6) sc_new_line.nd rfl (by first | exact Or.inl rfl | exact Or.inr rfl)) (sg_cons (sg_name (i := 7) sc_new_line.nd rfl (by first | exact Or.inl rfl | exact Or.inr rfl)) sg_nil)) (gl_cons (gl_cons gl_nil))))
    (ss_one (ss_ret (se_tup (sa_cons (se_var (i := 1) rfl (by first | exact Or.inl rfl | exact Or.inr (Or.inl rfl) | exact Or.inr (Or.inr rfl))) (sa_cons (se_var (i := 1) rfl (by first | exact Or.inl rfl | exact Or.inr (Or.inl rfl) | exact Or.inr (Or.inr rfl))) (sa_cons (se_var (i := 6) rfl (by first | exact Or.inl rfl | exact Or.inr (Or.inl rfl) | exact Or.inr (Or.inr rfl))) (sa_cons (se_var (i := 7) rfl (by first | exact Or.inl rfl | exact Or.inr (Or.inl rfl) | exact Or.inr (Or.inr rfl))) (sa_cons (se_var (i := 3) rfl (by first | exact Or.inl rfl | exact Or.inr (Or.inl rfl) | exact Or.inr (Or.inr rfl))) sa_nil))))))))))))
theorem ok_write_lines {a : Addr} {fd : FuncData} (D0 : DefAt K mg "write_lines" s_write_lines ["lines", "edit"] a fd) (B : Bi K mg) {a_continued : Addr} {f_continued : FuncData} (D_continued : DefAt K mg "continued" s_continued ["lines", "replaces"] a_continued f_continued) (G_continued : FnOk P w K mg base (L2.CX P w) 1 a_continued f_continued ["lines", "replaces"] (spF K mg 2 d_continued)) {a_end_heads : Addr} {f_end_heads : FuncData} (D_end_heads : DefAt K mg "end_heads" s_end_heads ["lines", "heads"] a_end_heads f_end_heads) (G_end_heads : FnOk P w K mg base (L2.CX P w) 2 a_end_heads f_end_heads ["lines", "heads"] (spF K mg 2 d_end_heads)) {a_new_line : Addr} {f_new_line : FuncData} (D_new_line : DefAt K mg "new_line" s_new_line ["lines", "edit_id", "place", "content", "meant"] a_new_line f_new_line) (G_new_line : FnOk P w K mg base (L2.CX P w) 4 a_new_line f_new_line ["lines", "edit_id", "place", "content", "meant"] (spF K mg 5 d_new_line)) : FnOk P w K mg base (L2.CX P w) 5 a fd ["lines", "edit"] (spF K mg 2 d_write_lines) := by
  refine fn_ok (N := N_write_lines) (ps := ["lines", "edit"]) (k := 4) (body := b_write_lines) D0.F sc_write_lines (fun cdv A outer s H E hr => ?_)
  exact (ss_cons (ss_asg (se_var (i := 1) rfl (by first | exact Or.inl rfl | exact Or.inr (Or.inl rfl) | exact Or.inr (Or.inr rfl))) (sg_tup rfl (sg_cons (sg_name (i := 2) sc_write_lines.nd rfl (by first | exact Or.inl rfl | exact Or.inr rfl)) (sg_cons (sg_name (i := 3) sc_write_lines.nd rfl (by first | exact Or.inl rfl | exact Or.inr rfl)) (sg_cons (sg_name (i := 4) sc_write_lines.nd rfl (by first | exact Or.inl rfl | exact Or.inr rfl)) (sg_cons (sg_name (i := 5) sc_write_lines.nd rfl (by first | exact Or.inl rfl | exact Or.inr rfl)) (sg_cons (sg_name (i := 6) sc_write_lines.nd rfl (by first | exact Or.inl rfl | exact Or.inr rfl)) (sg_cons (sg_name (i := 7) sc_write_lines.nd rfl (by first | exact Or.inl rfl | exact Or.inr rfl)) sg_nil)))))) (gl_cons (gl_cons (gl_cons (gl_cons (gl_cons (gl_cons gl_nil))))))))
    (ss_cons (ss_asg se_non (sg_name (i := 8) sc_write_lines.nd rfl (by first | exact Or.inl rfl | exact Or.inr rfl)))
    (ss_cons (ss_if (st_cmp bo_isnt op_dIsnt (se_var (i := 5) rfl (by first | exact Or.inl rfl | exact Or.inr (Or.inl rfl) | exact Or.inr (Or.inr rfl))) se_non (by first | exact nomark _ | rfl)) (ss_one (ss_asg (se_def callP (.inr (.inl rfl)) (takes_of rfl rfl rfl rfl) D_continued G_continued hr (sa_cons (se_var (i := 0) rfl (by first | exact Or.inl rfl | exact Or.inr (Or.inl rfl) | exact Or.inr (Or.inr rfl))) (sa_cons (se_var (i := 7) rfl (by first | exact Or.inl rfl | exact Or.inr (Or.inl rfl) | exact Or.inr (Or.inr rfl))) sa_nil))) (sg_name (i := 8) sc_write_lines.nd rfl (by first | exact Or.inl rfl | exact Or.inr rfl)))) ss_nil)
    (ss_cons (ss_asg (se_new sa_nil) (sg_name (i := 9) sc_write_lines.nd rfl (by first | exact Or.inl rfl | exact Or.inr rfl)))
    (ss_cons (ss_for (passes_of rfl) rfl (si_of (se_var (i := 0) rfl (by first | exact Or.inl rfl | exact Or.inr (Or.inl rfl) | exact Or.inr (Or.inr rfl)))) (sg_name (i := 10) sc_write_lines.nd rfl (by first | exact Or.inl rfl | exact Or.inr rfl)) (ss_one (ss_if (st_cmp bo_eq (op_dEq (u60 hr)) (se_idx (se_var (i := 10) rfl (by first | exact Or.inl rfl | exact Or.inr (Or.inl rfl) | exact Or.inr (Or.inr rfl))) se_int ix_dIdx) (se_var (i := 8) rfl (by first | exact Or.inl rfl | exact Or.inr (Or.inl rfl) | exact Or.inr (Or.inr rfl))) (by first | exact nomark _ | rfl)) (ss_one (ss_expr (se_app (se_var (i := 9) rfl (by first | exact Or.inl rfl | exact Or.inr (Or.inl rfl) | exact Or.inr (Or.inr rfl))) (sa_cons (se_tup (sa_cons (se_idx (se_var (i := 10) rfl (by first | exact Or.inl rfl | exact Or.inr (Or.inl rfl) | exact Or.inr (Or.inr rfl))) se_int ix_dIdx) (sa_cons (se_var (i := 3) rfl (by first | exact Or.inl rfl | exact Or.inr (Or.inl rfl) | exact Or.inr (Or.inr rfl))) (sa_cons (se_idx (se_var (i := 10) rfl (by first | exact Or.inl rfl | exact Or.inr (Or.inl rfl) | exact Or.inr (Or.inr rfl))) se_int ix_dIdx) (sa_cons (se_idx (se_var (i := 10) rfl (by first | exact Or.inl rfl | exact Or.inr (Or.inl rfl) | exact Or.inr (Or.inr rfl))) se_int ix_dIdx) (sa_cons (se_var (i := 5) rfl (by first | exact Or.inl rfl | exact Or.inr (Or.inl rfl) | exact Or.inr (Or.inr rfl))) sa_nil)))))) sa_nil)))) (ss_one (ss_expr (se_app (se_var (i := 9) rfl (by first | exact Or.inl rfl | exact Or.inr (Or.inl rfl) | exact Or.inr (Or.inr rfl))) (sa_cons (se_var (i := 10) rfl (by first | exact Or.inl rfl | exact Or.inr (Or.inl rfl) | exact Or.inr (Or.inr rfl))) sa_nil)))))))
    (ss_cons (ss_if (st_cmp bo_is op_dIs (se_var (i := 8) rfl (by first | exact Or.inl rfl | exact Or.inr (Or.inl rfl) | exact Or.inr (Or.inr rfl))) se_non (by first | exact nomark _ | rfl)) (ss_one (ss_expr (se_app (se_var (i := 9) rfl (by first | exact Or.inl rfl | exact Or.inr (Or.inl rfl) | exact Or.inr (Or.inr rfl))) (sa_cons (se_def callP (.inr (.inl rfl)) (takes_of rfl rfl rfl rfl) D_new_line G_new_line hr (sa_cons (se_var (i := 0) rfl (by first | exact Or.inl rfl | exact Or.inr (Or.inl rfl) | exact Or.inr (Or.inr rfl))) (sa_cons (se_var (i := 3) rfl (by first | exact Or.inl rfl | exact Or.inr (Or.inl rfl) | exact Or.inr (Or.inr rfl))) (sa_cons (se_var (i := 4) rfl (by first | exact Or.inl rfl | exact Or.inr (Or.inl rfl) | exact Or.inr (Or.inr rfl))) (sa_cons (se_var (i := 5) rfl (by first | exact Or.inl rfl | exact Or.inr (Or.inl rfl) | exact Or.inr (Or.inr rfl))) (sa_cons (se_var (i := 6) rfl (by first | exact Or.inl rfl | exact Or.inr (Or.inl rfl) | exact Or.inr (Or.inr rfl))) sa_nil)))))) sa_nil)))) ss_nil)
    (ss_one (ss_ret (se_def callH (.inl rfl) (takes_of rfl rfl rfl rfl) D_end_heads G_end_heads hr (sa_cons (se_var (i := 9) rfl (by first | exact Or.inl rfl | exact Or.inr (Or.inl rfl) | exact Or.inr (Or.inr rfl))) (sa_cons (se_var (i := 7) rfl (by first | exact Or.inl rfl | exact Or.inr (Or.inl rfl) | exact Or.inr (Or.inr rfl))) sa_nil)))))))))))
theorem ok_lines_after {a : Addr} {fd : FuncData} (D0 : DefAt K mg "lines_after" s_lines_after ["lines", "edit"] a fd) (B : Bi K mg) {a_end_heads : Addr} {f_end_heads : FuncData} (D_end_heads : DefAt K mg "end_heads" s_end_heads ["lines", "heads"] a_end_heads f_end_heads) (G_end_heads : FnOk P w K mg base (L2.CX P w) 2 a_end_heads f_end_heads ["lines", "heads"] (spF K mg 2 d_end_heads)) {a_move_line : Addr} {f_move_line : FuncData} (D_move_line : DefAt K mg "move_line" s_move_line ["lines", "head", "line_id", "place"] a_move_line f_move_line) (G_move_line : FnOk P w K mg base (L2.CX P w) 4 a_move_line f_move_line ["lines", "head", "line_id", "place"] (spF K mg 4 d_move_line)) {a_write_lines : Addr} {f_write_lines : FuncData} (D_write_lines : DefAt K mg "write_lines" s_write_lines ["lines", "edit"] a_write_lines f_write_lines) (G_write_lines : FnOk P w K mg base (L2.CX P w) 5 a_write_lines f_write_lines ["lines", "edit"] (spF K mg 2 d_write_lines)) : FnOk P w K mg base (L2.CX P w) 6 a fd ["lines", "edit"] (spF K mg 2 d_lines_after) := by
  refine fn_ok (N := N_lines_after) (ps := ["lines", "edit"]) (k := 5) (body := b_lines_after) D0.F sc_lines_after (fun cdv A outer s H E hr => ?_)
  exact (ss_cons (ss_if (st_cmp bo_eq (op_dEq (u60 hr)) (se_idx (se_var (i := 1) rfl (by first | exact Or.inl rfl | exact Or.inr (Or.inl rfl) | exact Or.inr (Or.inr rfl))) se_int ix_dIdx) se_str (by first | exact nomark _ | rfl)) (ss_one (ss_ret (sb_listC B.list (sa_cons (se_def callP (.inr (.inl rfl)) (takes_of rfl rfl rfl rfl) D_write_lines G_write_lines hr (sa_cons (se_var (i := 0) rfl (by first | exact Or.inl rfl | exact Or.inr (Or.inl rfl) | exact Or.inr (Or.inr rfl))) (sa_cons (se_var (i := 1) rfl (by first | exact Or.inl rfl | exact Or.inr (Or.inl rfl) | exact Or.inr (Or.inr rfl))) sa_nil))) sa_nil)))) ss_nil)
    (ss_cons (ss_if (st_cmp bo_eq (op_dEq (u60 hr)) (se_idx (se_var (i := 1) rfl (by first | exact Or.inl rfl | exact Or.inr (Or.inl rfl) | exact Or.inr (Or.inr rfl))) se_int ix_dIdx) se_str (by first | exact nomark _ | rfl)) (ss_one (ss_ret (sb_listC B.list (sa_cons (se_def callP (.inr (.inl rfl)) (takes_of rfl rfl rfl rfl) D_end_heads G_end_heads hr (sa_cons (se_var (i := 0) rfl (by first | exact Or.inl rfl | exact Or.inr (Or.inl rfl) | exact Or.inr (Or.inr rfl))) (sa_cons (se_idx (se_var (i := 1) rfl (by first | exact Or.inl rfl | exact Or.inr (Or.inl rfl) | exact Or.inr (Or.inr rfl))) se_int ix_dIdx) sa_nil))) sa_nil)))) ss_nil)
    (ss_cons (ss_for (passes_of rfl) rfl (si_of (se_idx (se_var (i := 1) rfl (by first | exact Or.inl rfl | exact Or.inr (Or.inl rfl) | exact Or.inr (Or.inr rfl))) se_int ix_dIdx)) (sg_tup rfl (sg_cons (sg_name (i := 2) sc_lines_after.nd rfl (by first | exact Or.inl rfl | exact Or.inr rfl)) (sg_cons (sg_name (i := 3) sc_lines_after.nd rfl (by first | exact Or.inl rfl | exact Or.inr rfl)) (sg_cons (sg_name (i := 4) sc_lines_after.nd rfl (by first | exact Or.inl rfl | exact Or.inr rfl)) sg_nil))) (gl_cons (gl_cons (gl_cons gl_nil)))) (ss_one (ss_asg (se_def callP (.inr (.inl rfl)) (takes_of rfl rfl rfl rfl) D_move_line G_move_line hr (sa_cons (se_var (i := 0) rfl (by first | exact Or.inl rfl | exact Or.inr (Or.inl rfl) | exact Or.inr (Or.inr rfl))) (sa_cons (se_var (i := 2) rfl (by first | exact Or.inl rfl | exact Or.inr (Or.inl rfl) | exact Or.inr (Or.inr rfl))) (sa_cons (se_var (i := 3) rfl (by first | exact Or.inl rfl | exact Or.inr (Or.inl rfl) | exact Or.inr (Or.inr rfl))) (sa_cons (se_var (i := 4) rfl (by first | exact Or.inl rfl | exact Or.inr (Or.inl rfl) | exact Or.inr (Or.inr rfl))) sa_nil))))) (sg_name (i := 0) sc_lines_after.nd rfl (by first | exact Or.inl rfl | exact Or.inr rfl)))))
    (ss_one (ss_ret (sb_listC B.list (sa_cons (se_var (i := 0) rfl (by first | exact Or.inl rfl | exact Or.inr (Or.inl rfl) | exact Or.inr (Or.inr rfl))) sa_nil)))))))
theorem ok_ascending {a : Addr} {fd : FuncData} (D0 : DefAt K mg "ascending" s_ascending ["ids"] a fd) (B : Bi K mg) : FnOk P w K mg base (L2.CX P w) 1 a fd ["ids"] (spF K mg 1 d_ascending) := by
  refine fn_ok (N := N_ascending) (ps := ["ids"]) (k := 0) (body := b_ascending) D0.F sc_ascending (fun cdv A outer s H E hr => ?_)
  exact (ss_cons (ss_for (passes_of rfl) rfl (si_range2 rfl B.range (sa_cons se_int (sa_cons (sb_len  B.len (sa_cons (se_var (i := 0) rfl (by first | exact Or.inl rfl | exact Or.inr (Or.inl rfl) | exact Or.inr (Or.inr rfl))) sa_nil)) sa_nil))) (sg_name (i := 1) sc_ascending.nd rfl (by first | exact Or.inl rfl | exact Or.inr rfl)) (ss_one (ss_if (st_not (st_cmp bo_lt (op_dLt (u0 hr)) (se_idx (se_var (i := 0) rfl (by first | exact Or.inl rfl | exact Or.inr (Or.inl rfl) | exact Or.inr (Or.inr rfl))) (se_op op_dSub (se_var (i := 1) rfl (by first | exact Or.inl rfl | exact Or.inr (Or.inl rfl) | exact Or.inr (Or.inr rfl))) se_int) ix_dIdx) (se_idx (se_var (i := 0) rfl (by first | exact Or.inl rfl | exact Or.inr (Or.inl rfl) | exact Or.inr (Or.inr rfl))) (se_var (i := 1) rfl (by first | exact Or.inl rfl | exact Or.inr (Or.inl rfl) | exact Or.inr (Or.inr rfl))) ix_dIdx) (by first | exact nomark _ | rfl))) (ss_one (ss_ret se_bl)) ss_nil)))
    (ss_one (ss_ret se_bl)))
theorem ok_is_rooted {a : Addr} {fd : FuncData} (D0 : DefAt K mg "is_rooted" s_is_rooted ["lines", "inside"] a fd) (B : Bi K mg) {a_find_folder : Addr} {f_find_folder : FuncData} (D_find_folder : DefAt K mg "find_folder" s_find_folder ["lines", "line_id"] a_find_folder f_find_folder) (G_find_folder : FnOk P w K mg base (L2.CX P w) 2 a_find_folder f_find_folder ["lines", "line_id"] (spF K mg 2 d_find_folder)) : FnOk P w K mg base (L2.CX P w) 3 a fd ["lines", "inside"] (spF K mg 2 d_is_rooted) := by
  refine fn_ok (N := N_is_rooted) (ps := ["lines", "inside"]) (k := 2) (body := b_is_rooted) D0.F sc_is_rooted (fun cdv A outer s H E hr => ?_)
  exact (ss_cons (ss_for (passes_of rfl) rfl (si_range1 rfl B.range (sa_cons (se_op op_dAdd (sb_len  B.len (sa_cons (se_var (i := 0) rfl (by first | exact Or.inl rfl | exact Or.inr (Or.inl rfl) | exact Or.inr (Or.inr rfl))) sa_nil)) se_int) sa_nil)) (sg_name (i := 2) sc_is_rooted.nd rfl (by first | exact Or.inl rfl | exact Or.inr rfl)) (ss_cons (ss_if (st_cmp bo_is op_dIs (se_var (i := 1) rfl (by first | exact Or.inl rfl | exact Or.inr (Or.inl rfl) | exact Or.inr (Or.inr rfl))) se_non (by first | exact nomark _ | rfl)) (ss_one (ss_ret se_bl)) ss_nil)
    (ss_cons (ss_asg (se_def callP (.inr (.inl rfl)) (takes_of rfl rfl rfl rfl) D_find_folder G_find_folder hr (sa_cons (se_var (i := 0) rfl (by first | exact Or.inl rfl | exact Or.inr (Or.inl rfl) | exact Or.inr (Or.inr rfl))) (sa_cons (se_var (i := 1) rfl (by first | exact Or.inl rfl | exact Or.inr (Or.inl rfl) | exact Or.inr (Or.inr rfl))) sa_nil))) (sg_name (i := 3) sc_is_rooted.nd rfl (by first | exact Or.inl rfl | exact Or.inr rfl)))
    (ss_cons (ss_if (st_cmp bo_is op_dIs (se_var (i := 3) rfl (by first | exact Or.inl rfl | exact Or.inr (Or.inl rfl) | exact Or.inr (Or.inr rfl))) se_non (by first | exact nomark _ | rfl)) (ss_one (ss_ret se_bl)) ss_nil)
    (ss_one (ss_asg (se_idx (se_var (i := 3) rfl (by first | exact Or.inl rfl | exact Or.inr (Or.inl rfl) | exact Or.inr (Or.inr rfl))) se_int ix_dIdx) (sg_name (i := 1) sc_is_rooted.nd rfl (by first | exact Or.inl rfl | exact Or.inr rfl))))))))
    (ss_one (ss_ret se_bl)))
theorem ok_lines_sound {a : Addr} {fd : FuncData} (D0 : DefAt K mg "lines_sound" s_lines_sound ["lines"] a fd) (B : Bi K mg) {a_ascending : Addr} {f_ascending : FuncData} (D_ascending : DefAt K mg "ascending" s_ascending ["ids"] a_ascending f_ascending) (G_ascending : FnOk P w K mg base (L2.CX P w) 1 a_ascending f_ascending ["ids"] (spF K mg 1 d_ascending)) {a_is_rooted : Addr} {f_is_rooted : FuncData} (D_is_rooted : DefAt K mg "is_rooted" s_is_rooted ["lines", "inside"] a_is_rooted f_is_rooted) (G_is_rooted : FnOk P w K mg base (L2.CX P w) 3 a_is_rooted f_is_rooted ["lines", "inside"] (spF K mg 2 d_is_rooted)) : FnOk P w K mg base (L2.CX P w) 4 a fd ["lines"] (spF K mg 1 d_lines_sound) := by
  refine fn_ok (N := N_lines_sound) (ps := ["lines"]) (k := 3) (body := b_lines_sound) D0.F sc_lines_sound (fun cdv A outer s H E hr => ?_)
  exact (ss_cons (ss_if (st_not (st_truth (se_def callP (.inr (.inl rfl)) (takes_of rfl rfl rfl rfl) D_ascending G_ascending hr (sa_cons (se_lc (fin := lcEnd) (own := [("line", 7)]) (vs := [7]) (.inl rfl) rfl sc_lines_sound.nd (si_of (se_var (i := 0) rfl (by first | exact Or.inl rfl | exact Or.inr (Or.inl rfl) | exact Or.inr (Or.inr rfl)))) (blkOk_by (N := N_lines_sound) (sc := defScope s_lines_sound) (own := [("line", 7)]) (by decide +kernel)) (fun _ _ _ _ _ => (sg_name (i := 7) sc_lines_sound.nd rfl (by first | exact Or.inl rfl | exact Or.inr rfl))) (fun _ _ _ _ _ => sl_yes) (fun _ _ _ _ _ => (se_idx (se_var (i := 7) rfl (by first | exact Or.inl rfl | exact Or.inr (Or.inl rfl) | exact Or.inr (Or.inr rfl))) se_int ix_dIdx)) (by decide)) sa_nil)))) (ss_one (ss_ret se_bl)) ss_nil)
    (ss_cons (ss_setLc (i := 1) (fin := lcEnd) (own := [("line", 7)]) (vs := [7]) (.inl rfl) rfl sc_lines_sound.nd rfl rfl (sw_true rfl rfl rfl (by decide +kernel)) (si_of (se_var (i := 0) rfl (by first | exact Or.inl rfl | exact Or.inr (Or.inl rfl) | exact Or.inr (Or.inr rfl)))) (blkOk_by (N := N_lines_sound) (sc := defScope s_lines_sound) (own := [("line", 7)]) (by decide +kernel)) (fun _ _ _ _ _ => (sg_name (i := 7) sc_lines_sound.nd rfl (by first | exact Or.inl rfl | exact Or.inr rfl))) (fun _ _ _ _ _ => sl_yes) (fun _ _ _ _ _ => (se_idx (se_var (i := 7) rfl (by first | exact Or.inl rfl | exact Or.inr (Or.inl rfl) | exact Or.inr (Or.inr rfl))) se_int ix_dIdx)) (by decide))
    (ss_cons (ss_if (st_cmp bo_ne (op_dNe (u60 hr)) (se_lenSet rfl B.len B.set hr (se_var (i := 1) rfl (by first | exact Or.inl rfl | exact Or.inr (Or.inl rfl) | exact Or.inr (Or.inr rfl)))) (sb_len  B.len (sa_cons (se_var (i := 1) rfl (by first | exact Or.inl rfl | exact Or.inr (Or.inl rfl) | exact Or.inr (Or.inr rfl))) sa_nil)) (by first | exact nomark _ | rfl)) (ss_one (ss_ret se_bl)) ss_nil)
    (ss_cons (ss_for (passes_of rfl) rfl (si_of (se_var (i := 0) rfl (by first | exact Or.inl rfl | exact Or.inr (Or.inl rfl) | exact Or.inr (Or.inr rfl)))) (sg_tup rfl (sg_cons (sg_name (i := 2) sc_lines_sound.nd rfl (by first | exact Or.inl rfl | exact Or.inr rfl)) (sg_cons (sg_name (i := 3) sc_lines_sound.nd rfl (by first | exact Or.inl rfl | exact Or.inr rfl)) (sg_cons (sg_name (i := 4) sc_lines_sound.nd rfl (by first | exact Or.inl rfl | exact Or.inr rfl)) (sg_cons (sg_name (i := 5) sc_lines_sound.nd rfl (by first | exact Or.inl rfl | exact Or.inr rfl)) (sg_cons (sg_name (i := 6) sc_lines_sound.nd rfl (by first | exact Or.inl rfl | exact Or.inr rfl)) sg_nil))))) (gl_cons (gl_cons (gl_cons (gl_cons (gl_cons gl_nil)))))) (ss_cons (ss_if (sw_or (st_cmp bo_eq (op_dEq (u60 hr)) (sb_len  B.len (sa_cons (se_var (i := 5) rfl (by first | exact Or.inl rfl | exact Or.inr (Or.inl rfl) | exact Or.inr (Or.inr rfl))) sa_nil)) se_int (by first | exact nomark _ | rfl)) (sw_or1 (st_not (st_truth (se_def callP (.inr (.inl rfl)) (takes_of rfl rfl rfl rfl) D_is_rooted G_is_rooted hr (sa_cons (se_var (i := 0) rfl (by first | exact Or.inl rfl | exact Or.inr (Or.inl rfl) | exact Or.inr (Or.inr rfl))) (sa_cons (se_var (i := 4) rfl (by first | exact Or.inl rfl | exact Or.inr (Or.inl rfl) | exact Or.inr (Or.inr rfl))) sa_nil))))))).pt (ss_one (ss_ret se_bl)) ss_nil)
    (ss_one (ss_if (sw_and (st_cmp bo_is op_dIs (se_var (i := 6) rfl (by first | exact Or.inl rfl | exact Or.inr (Or.inl rfl) | exact Or.inr (Or.inr rfl))) se_non (by first | exact nomark _ | rfl)) (sw_and1 (st_cmp bo_ne (op_dNe (u60 hr)) (se_var (i := 3) rfl (by first | exact Or.inl rfl | exact Or.inr (Or.inl rfl) | exact Or.inr (Or.inr rfl))) (se_var (i := 2) rfl (by first | exact Or.inl rfl | exact Or.inr (Or.inl rfl) | exact Or.inr (Or.inr rfl))) (by first | exact nomark _ | rfl)))).pt (ss_one (ss_ret se_bl)) ss_nil))))
    (ss_one (ss_ret se_bl))))))
theorem ok_law {a : Addr} {fd : FuncData} (D0 : DefAt K mg "law" s_law ["_law_script"] a fd) (B : Bi K mg) {a_l_edits : Addr} {f_l_edits : FuncData} (D_l_edits : DefAt K mg "_law_edits" s_l_edits ["_law_script", "_law_count"] a_l_edits f_l_edits) (G_l_edits : FnOk P w K mg base (L2.CX P w) 4 a_l_edits f_l_edits ["_law_script", "_law_count"] (spF K mg 2 d_l_edits)) {a_l_replaced : Addr} {f_l_replaced : FuncData} (D_l_replaced : DefAt K mg "_law_replaced" s_l_replaced ["_law_edit_here"] a_l_replaced f_l_replaced) (G_l_replaced : FnOk P w K mg base (L2.CX P w) 1 a_l_replaced f_l_replaced ["_law_edit_here"] (spF K mg 1 d_l_replaced)) {a_l_wrong : Addr} {f_l_wrong : FuncData} (D_l_wrong : DefAt K mg "_law_wrong" s_l_wrong ["_law_lines", "_law_k"] a_l_wrong f_l_wrong) (G_l_wrong : FnOk P w K mg base (L2.CX P w) 2 a_l_wrong f_l_wrong ["_law_lines", "_law_k"] (spF K mg 2 d_l_wrong)) {a_lines_after : Addr} {f_lines_after : FuncData} (D_lines_after : DefAt K mg "lines_after" s_lines_after ["lines", "edit"] a_lines_after f_lines_after) (G_lines_after : FnOk P w K mg base (L2.CX P w) 6 a_lines_after f_lines_after ["lines", "edit"] (spF K mg 2 d_lines_after)) {a_lines_sound : Addr} {f_lines_sound : FuncData} (D_lines_sound : DefAt K mg "lines_sound" s_lines_sound ["lines"] a_lines_sound f_lines_sound) (G_lines_sound : FnOk P w K mg base (L2.CX P w) 4 a_lines_sound f_lines_sound ["lines"] (spF K mg 1 d_lines_sound)) : FnOk P w K mg base (L2.CX P w) 7 a fd ["_law_script"] (spF K mg 1 d_law) := by
  refine fn_ok (N := N_law) (ps := ["_law_script"]) (k := 6) (body := b_law) D0.F sc_law (fun cdv A outer s H E hr => ?_)
  exact (ss_cons (ss_asg (se_lst sa_nil) (sg_name (i := 1) sc_law.nd rfl (by first | exact Or.inl rfl | exact Or.inr rfl)))
    (ss_cons (ss_for (passes_of rfl) rfl (si_of (se_def callP (.inr (.inl rfl)) (takes_of rfl rfl rfl rfl) D_l_edits G_l_edits hr (sa_cons (se_var (i := 0) rfl (by first | exact Or.inl rfl | exact Or.inr (Or.inl rfl) | exact Or.inr (Or.inr rfl))) (sa_cons se_int sa_nil)))) (sg_name (i := 2) sc_law.nd rfl (by first | exact Or.inl rfl | exact Or.inr rfl)) (ss_cons (ss_asg (se_def callP (.inr (.inl rfl)) (takes_of rfl rfl rfl rfl) D_lines_after G_lines_after hr (sa_cons (se_var (i := 1) rfl (by first | exact Or.inl rfl | exact Or.inr (Or.inl rfl) | exact Or.inr (Or.inr rfl))) (sa_cons (se_var (i := 2) rfl (by first | exact Or.inl rfl | exact Or.inr (Or.inl rfl) | exact Or.inr (Or.inr rfl))) sa_nil))) (sg_name (i := 1) sc_law.nd rfl (by first | exact Or.inl rfl | exact Or.inr rfl)))
    (ss_cons (ss_asg (se_lc (fin := lcEnd) (own := [("_law_line", 6)]) (vs := [6]) (.inl rfl) rfl sc_law.nd (si_of (se_var (i := 1) rfl (by first | exact Or.inl rfl | exact Or.inr (Or.inl rfl) | exact Or.inr (Or.inr rfl)))) (blkOk_by (N := N_law) (sc := defScope s_law) (own := [("_law_line", 6)]) (by decide +kernel)) (fun _ _ _ _ _ => (sg_name (i := 6) sc_law.nd rfl (by first | exact Or.inl rfl | exact Or.inr rfl))) (fun _ _ _ _ _ => sl_yes) (fun _ _ _ _ _ => (se_idx (se_var (i := 6) rfl (by first | exact Or.inl rfl | exact Or.inr (Or.inl rfl) | exact Or.inr (Or.inr rfl))) se_int ix_dIdx)) (by decide)) (sg_name (i := 3) sc_law.nd rfl (by first | exact Or.inl rfl | exact Or.inr rfl)))
    (ss_cons (ss_if (sw_or (st_not (st_truth (se_def callP (.inr (.inl rfl)) (takes_of rfl rfl rfl rfl) D_lines_sound G_lines_sound hr (sa_cons (se_var (i := 1) rfl (by first | exact Or.inl rfl | exact Or.inr (Or.inl rfl) | exact Or.inr (Or.inr rfl))) sa_nil)))) (sw_or1 (st_truth (sb_any rfl B.any (sa_cons (se_lc (fin := lcEnd) (own := [("_law_head", 7)]) (vs := [7]) (.inl rfl) rfl sc_law.nd (si_of (se_def callP (.inr (.inl rfl)) (takes_of rfl rfl rfl rfl) D_l_replaced G_l_replaced hr (sa_cons (se_var (i := 2) rfl (by first | exact Or.inl rfl | exact Or.inr (Or.inl rfl) | exact Or.inr (Or.inr rfl))) sa_nil))) (blkOk_by (N := N_law) (sc := defScope s_law) (own := [("_law_head", 7)]) (by decide +kernel)) (fun _ _ _ _ _ => (sg_name (i := 7) sc_law.nd rfl (by first | exact Or.inl rfl | exact Or.inr rfl))) (fun _ _ _ _ _ => sl_yes) (fun _ _ _ _ _ => (se_cmp (op_dIn (u61 hr)) (se_var (i := 7) rfl (by first | exact Or.inl rfl | exact Or.inr (Or.inl rfl) | exact Or.inr (Or.inr rfl))) (se_var (i := 3) rfl (by first | exact Or.inl rfl | exact Or.inr (Or.inl rfl) | exact Or.inr (Or.inr rfl))) (by first | exact nomark _ | rfl))) (by decide)) sa_nil))))).pt (ss_one (ss_ret se_bl)) ss_nil)
    (ss_one (ss_if (sw_and (st_cmp bo_eq (op_dEq (u60 hr)) (se_idx (se_var (i := 2) rfl (by first | exact Or.inl rfl | exact Or.inr (Or.inl rfl) | exact Or.inr (Or.inr rfl))) se_int ix_dIdx) se_str (by first | exact nomark _ | rfl)) (sw_and1 (st_cmp bo_notIn (op_dNotIn (u61 hr)) (se_idx (se_var (i := 2) rfl (by first | exact Or.inl rfl | exact Or.inr (Or.inl rfl) | exact Or.inr (Or.inr rfl))) se_int ix_dIdx) (se_var (i := 3) rfl (by first | exact Or.inl rfl | exact Or.inr (Or.inl rfl) | exact Or.inr (Or.inr rfl))) (by first | exact nomark _ | rfl)))).pt (ss_one (ss_ret se_bl)) ss_nil))))))
    (ss_cons (ss_for (passes_of rfl) rfl (si_range1 rfl B.range (sa_cons (sb_len  B.len (sa_cons (se_var (i := 1) rfl (by first | exact Or.inl rfl | exact Or.inr (Or.inl rfl) | exact Or.inr (Or.inr rfl))) sa_nil)) sa_nil)) (sg_name (i := 4) sc_law.nd rfl (by first | exact Or.inl rfl | exact Or.inr rfl)) (ss_one (ss_for (passes_of rfl) rfl (si_of (se_def callP (.inr (.inl rfl)) (takes_of rfl rfl rfl rfl) D_l_wrong G_l_wrong hr (sa_cons (se_var (i := 1) rfl (by first | exact Or.inl rfl | exact Or.inr (Or.inl rfl) | exact Or.inr (Or.inr rfl))) (sa_cons (se_var (i := 4) rfl (by first | exact Or.inl rfl | exact Or.inr (Or.inl rfl) | exact Or.inr (Or.inr rfl))) sa_nil)))) (sg_name (i := 5) sc_law.nd rfl (by first | exact Or.inl rfl | exact Or.inr rfl)) (ss_one (ss_if (st_truth (se_def callP (.inr (.inl rfl)) (takes_of rfl rfl rfl rfl) D_lines_sound G_lines_sound hr (sa_cons (se_var (i := 5) rfl (by first | exact Or.inl rfl | exact Or.inr (Or.inl rfl) | exact Or.inr (Or.inr rfl))) sa_nil))) (ss_one (ss_ret se_bl)) ss_nil)))))
    (ss_one (ss_ret (se_def callP (.inr (.inl rfl)) (takes_of rfl rfl rfl rfl) D_lines_sound G_lines_sound hr (sa_cons (se_tup sa_nil) sa_nil)))))))
end
theorem all_mk {l : PySem.W.OpenLaw} {w : World} {K : PySem.W.Frag} {h : Heap} {mg : Str → Option Value} {fa : Addr} (X : K.In h) (G : h.Ns mainGlobals mg) (hfa : mg "law" = some (.ref fa))
    {a0 : Addr} {od0 an0 : Option Addr} {sl0 : Array (Option Value)} {oc0 dc0 pm0 cd0 ct0 : Value} {kV0 : Value}
    (n0 : PySem.W.nsIn K mainGlobals "_law_pick" = some (some (.ref a0)))
    (l0 : K.lookup a0 = some ⟨oc0, od0, .func (PySem.W.fnOf "_law_pick" "_law_pick" (defArgs s_l_pick) (defBody s_l_pick) (defScope s_l_pick) .none kV0 dc0 pm0 an0 cd0 ct0), sl0⟩)
    (c0 : PySem.W.codeIn K cd0 "_law_pick" = true)
    (k0 : PySem.W.keepIn K (.ref a0) = true)
    {a1 : Addr} {od1 an1 : Option Addr} {sl1 : Array (Option Value)} {oc1 dc1 pm1 cd1 ct1 : Value} {kV1 : Value}
    (n1 : PySem.W.nsIn K mainGlobals "_law_heads" = some (some (.ref a1)))
    (l1 : K.lookup a1 = some ⟨oc1, od1, .func (PySem.W.fnOf "_law_heads" "_law_heads" (defArgs s_l_heads) (defBody s_l_heads) (defScope s_l_heads) .none kV1 dc1 pm1 an1 cd1 ct1), sl1⟩)
    (c1 : PySem.W.codeIn K cd1 "_law_heads" = true)
    (k1 : PySem.W.keepIn K (.ref a1) = true)
    {a2 : Addr} {od2 an2 : Option Addr} {sl2 : Array (Option Value)} {oc2 dc2 pm2 cd2 ct2 : Value} {kV2 : Value}
    (n2 : PySem.W.nsIn K mainGlobals "_law_path" = some (some (.ref a2)))
    (l2 : K.lookup a2 = some ⟨oc2, od2, .func (PySem.W.fnOf "_law_path" "_law_path" (defArgs s_l_path) (defBody s_l_path) (defScope s_l_path) .none kV2 dc2 pm2 an2 cd2 ct2), sl2⟩)
    (c2 : PySem.W.codeIn K cd2 "_law_path" = true)
    (k2 : PySem.W.keepIn K (.ref a2) = true)
    {a3 : Addr} {od3 an3 : Option Addr} {sl3 : Array (Option Value)} {oc3 dc3 pm3 cd3 ct3 : Value} {kV3 : Value}
    (n3 : PySem.W.nsIn K mainGlobals "_law_place" = some (some (.ref a3)))
    (l3 : K.lookup a3 = some ⟨oc3, od3, .func (PySem.W.fnOf "_law_place" "_law_place" (defArgs s_l_place) (defBody s_l_place) (defScope s_l_place) .none kV3 dc3 pm3 an3 cd3 ct3), sl3⟩)
    (c3 : PySem.W.codeIn K cd3 "_law_place" = true)
    (k3 : PySem.W.keepIn K (.ref a3) = true)
    {a4 : Addr} {od4 an4 : Option Addr} {sl4 : Array (Option Value)} {oc4 dc4 pm4 cd4 ct4 : Value} {kV4 : Value}
    (n4 : PySem.W.nsIn K mainGlobals "_law_edit" = some (some (.ref a4)))
    (l4 : K.lookup a4 = some ⟨oc4, od4, .func (PySem.W.fnOf "_law_edit" "_law_edit" (defArgs s_l_edit) (defBody s_l_edit) (defScope s_l_edit) .none kV4 dc4 pm4 an4 cd4 ct4), sl4⟩)
    (c4 : PySem.W.codeIn K cd4 "_law_edit" = true)
    (k4 : PySem.W.keepIn K (.ref a4) = true)
    {a5 : Addr} {od5 an5 : Option Addr} {sl5 : Array (Option Value)} {oc5 dc5 pm5 cd5 ct5 : Value} {kV5 : Value}
    (n5 : PySem.W.nsIn K mainGlobals "_law_rows" = some (some (.ref a5)))
    (l5 : K.lookup a5 = some ⟨oc5, od5, .func (PySem.W.fnOf "_law_rows" "_law_rows" (defArgs s_l_rows) (defBody s_l_rows) (defScope s_l_rows) .none kV5 dc5 pm5 an5 cd5 ct5), sl5⟩)
    (c5 : PySem.W.codeIn K cd5 "_law_rows" = true)
    (k5 : PySem.W.keepIn K (.ref a5) = true)
    {a6 : Addr} {od6 an6 : Option Addr} {sl6 : Array (Option Value)} {oc6 dc6 pm6 cd6 ct6 : Value} {kV6 : Value}
    (n6 : PySem.W.nsIn K mainGlobals "_law_edits" = some (some (.ref a6)))
    (l6 : K.lookup a6 = some ⟨oc6, od6, .func (PySem.W.fnOf "_law_edits" "_law_edits" (defArgs s_l_edits) (defBody s_l_edits) (defScope s_l_edits) .none kV6 dc6 pm6 an6 cd6 ct6), sl6⟩)
    (c6 : PySem.W.codeIn K cd6 "_law_edits" = true)
    (k6 : PySem.W.keepIn K (.ref a6) = true)
    {a7 : Addr} {od7 an7 : Option Addr} {sl7 : Array (Option Value)} {oc7 dc7 pm7 cd7 ct7 : Value} {kV7 : Value}
    (n7 : PySem.W.nsIn K mainGlobals "_law_replaced" = some (some (.ref a7)))
    (l7 : K.lookup a7 = some ⟨oc7, od7, .func (PySem.W.fnOf "_law_replaced" "_law_replaced" (defArgs s_l_replaced) (defBody s_l_replaced) (defScope s_l_replaced) .none kV7 dc7 pm7 an7 cd7 ct7), sl7⟩)
    (c7 : PySem.W.codeIn K cd7 "_law_replaced" = true)
    (k7 : PySem.W.keepIn K (.ref a7) = true)
    {a8 : Addr} {od8 an8 : Option Addr} {sl8 : Array (Option Value)} {oc8 dc8 pm8 cd8 ct8 : Value} {kV8 : Value}
    (n8 : PySem.W.nsIn K mainGlobals "_law_with" = some (some (.ref a8)))
    (l8 : K.lookup a8 = some ⟨oc8, od8, .func (PySem.W.fnOf "_law_with" "_law_with" (defArgs s_l_with) (defBody s_l_with) (defScope s_l_with) .none kV8 dc8 pm8 an8 cd8 ct8), sl8⟩)
    (c8 : PySem.W.codeIn K cd8 "_law_with" = true)
    (k8 : PySem.W.keepIn K (.ref a8) = true)
    {a9 : Addr} {od9 an9 : Option Addr} {sl9 : Array (Option Value)} {oc9 dc9 pm9 cd9 ct9 : Value} {kV9 : Value}
    (n9 : PySem.W.nsIn K mainGlobals "_law_wrong" = some (some (.ref a9)))
    (l9 : K.lookup a9 = some ⟨oc9, od9, .func (PySem.W.fnOf "_law_wrong" "_law_wrong" (defArgs s_l_wrong) (defBody s_l_wrong) (defScope s_l_wrong) .none kV9 dc9 pm9 an9 cd9 ct9), sl9⟩)
    (c9 : PySem.W.codeIn K cd9 "_law_wrong" = true)
    (k9 : PySem.W.keepIn K (.ref a9) = true)
    {a10 : Addr} {od10 an10 : Option Addr} {sl10 : Array (Option Value)} {oc10 dc10 pm10 cd10 ct10 : Value} {kV10 : Value}
    (n10 : PySem.W.nsIn K mainGlobals "end_line" = some (some (.ref a10)))
    (l10 : K.lookup a10 = some ⟨oc10, od10, .func (PySem.W.fnOf "end_line" "end_line" (defArgs s_end_line) (defBody s_end_line) (defScope s_end_line) .none kV10 dc10 pm10 an10 cd10 ct10), sl10⟩)
    (c10 : PySem.W.codeIn K cd10 "end_line" = true)
    (k10 : PySem.W.keepIn K (.ref a10) = true)
    {a11 : Addr} {od11 an11 : Option Addr} {sl11 : Array (Option Value)} {oc11 dc11 pm11 cd11 ct11 : Value} {kV11 : Value}
    (n11 : PySem.W.nsIn K mainGlobals "find_head" = some (some (.ref a11)))
    (l11 : K.lookup a11 = some ⟨oc11, od11, .func (PySem.W.fnOf "find_head" "find_head" (defArgs s_find_head) (defBody s_find_head) (defScope s_find_head) .none kV11 dc11 pm11 an11 cd11 ct11), sl11⟩)
    (c11 : PySem.W.codeIn K cd11 "find_head" = true)
    (k11 : PySem.W.keepIn K (.ref a11) = true)
    {a12 : Addr} {od12 an12 : Option Addr} {sl12 : Array (Option Value)} {oc12 dc12 pm12 cd12 ct12 : Value} {kV12 : Value}
    (n12 : PySem.W.nsIn K mainGlobals "end_heads" = some (some (.ref a12)))
    (l12 : K.lookup a12 = some ⟨oc12, od12, .func (PySem.W.fnOf "end_heads" "end_heads" (defArgs s_end_heads) (defBody s_end_heads) (defScope s_end_heads) .none kV12 dc12 pm12 an12 cd12 ct12), sl12⟩)
    (c12 : PySem.W.codeIn K cd12 "end_heads" = true)
    (k12 : PySem.W.keepIn K (.ref a12) = true)
    {a13 : Addr} {od13 an13 : Option Addr} {sl13 : Array (Option Value)} {oc13 dc13 pm13 cd13 ct13 : Value} {kV13 : Value}
    (n13 : PySem.W.nsIn K mainGlobals "find_line" = some (some (.ref a13)))
    (l13 : K.lookup a13 = some ⟨oc13, od13, .func (PySem.W.fnOf "find_line" "find_line" (defArgs s_find_line) (defBody s_find_line) (defScope s_find_line) .none kV13 dc13 pm13 an13 cd13 ct13), sl13⟩)
    (c13 : PySem.W.codeIn K cd13 "find_line" = true)
    (k13 : PySem.W.keepIn K (.ref a13) = true)
    {a14 : Addr} {od14 an14 : Option Addr} {sl14 : Array (Option Value)} {oc14 dc14 pm14 cd14 ct14 : Value} {kV14 : Value}
    (n14 : PySem.W.nsIn K mainGlobals "find_folder" = some (some (.ref a14)))
    (l14 : K.lookup a14 = some ⟨oc14, od14, .func (PySem.W.fnOf "find_folder" "find_folder" (defArgs s_find_folder) (defBody s_find_folder) (defScope s_find_folder) .none kV14 dc14 pm14 an14 cd14 ct14), sl14⟩)
    (c14 : PySem.W.codeIn K cd14 "find_folder" = true)
    (k14 : PySem.W.keepIn K (.ref a14) = true)
    {a15 : Addr} {od15 an15 : Option Addr} {sl15 : Array (Option Value)} {oc15 dc15 pm15 cd15 ct15 : Value} {kV15 : Value}
    (n15 : PySem.W.nsIn K mainGlobals "settle" = some (some (.ref a15)))
    (l15 : K.lookup a15 = some ⟨oc15, od15, .func (PySem.W.fnOf "settle" "settle" (defArgs s_settle) (defBody s_settle) (defScope s_settle) .none kV15 dc15 pm15 an15 cd15 ct15), sl15⟩)
    (c15 : PySem.W.codeIn K cd15 "settle" = true)
    (k15 : PySem.W.keepIn K (.ref a15) = true)
    {a16 : Addr} {od16 an16 : Option Addr} {sl16 : Array (Option Value)} {oc16 dc16 pm16 cd16 ct16 : Value} {kV16 : Value}
    (n16 : PySem.W.nsIn K mainGlobals "stands_in" = some (some (.ref a16)))
    (l16 : K.lookup a16 = some ⟨oc16, od16, .func (PySem.W.fnOf "stands_in" "stands_in" (defArgs s_stands_in) (defBody s_stands_in) (defScope s_stands_in) .none kV16 dc16 pm16 an16 cd16 ct16), sl16⟩)
    (c16 : PySem.W.codeIn K cd16 "stands_in" = true)
    (k16 : PySem.W.keepIn K (.ref a16) = true)
    {a17 : Addr} {od17 an17 : Option Addr} {sl17 : Array (Option Value)} {oc17 dc17 pm17 cd17 ct17 : Value} {kV17 : Value}
    (n17 : PySem.W.nsIn K mainGlobals "move_line" = some (some (.ref a17)))
    (l17 : K.lookup a17 = some ⟨oc17, od17, .func (PySem.W.fnOf "move_line" "move_line" (defArgs s_move_line) (defBody s_move_line) (defScope s_move_line) .none kV17 dc17 pm17 an17 cd17 ct17), sl17⟩)
    (c17 : PySem.W.codeIn K cd17 "move_line" = true)
    (k17 : PySem.W.keepIn K (.ref a17) = true)
    {a18 : Addr} {od18 an18 : Option Addr} {sl18 : Array (Option Value)} {oc18 dc18 pm18 cd18 ct18 : Value} {kV18 : Value}
    (n18 : PySem.W.nsIn K mainGlobals "continued" = some (some (.ref a18)))
    (l18 : K.lookup a18 = some ⟨oc18, od18, .func (PySem.W.fnOf "continued" "continued" (defArgs s_continued) (defBody s_continued) (defScope s_continued) .none kV18 dc18 pm18 an18 cd18 ct18), sl18⟩)
    (c18 : PySem.W.codeIn K cd18 "continued" = true)
    (k18 : PySem.W.keepIn K (.ref a18) = true)
    {a19 : Addr} {od19 an19 : Option Addr} {sl19 : Array (Option Value)} {oc19 dc19 pm19 cd19 ct19 : Value} {kV19 : Value}
    (n19 : PySem.W.nsIn K mainGlobals "new_line" = some (some (.ref a19)))
    (l19 : K.lookup a19 = some ⟨oc19, od19, .func (PySem.W.fnOf "new_line" "new_line" (defArgs s_new_line) (defBody s_new_line) (defScope s_new_line) .none kV19 dc19 pm19 an19 cd19 ct19), sl19⟩)
    (c19 : PySem.W.codeIn K cd19 "new_line" = true)
    (k19 : PySem.W.keepIn K (.ref a19) = true)
    {a20 : Addr} {od20 an20 : Option Addr} {sl20 : Array (Option Value)} {oc20 dc20 pm20 cd20 ct20 : Value} {kV20 : Value}
    (n20 : PySem.W.nsIn K mainGlobals "write_lines" = some (some (.ref a20)))
    (l20 : K.lookup a20 = some ⟨oc20, od20, .func (PySem.W.fnOf "write_lines" "write_lines" (defArgs s_write_lines) (defBody s_write_lines) (defScope s_write_lines) .none kV20 dc20 pm20 an20 cd20 ct20), sl20⟩)
    (c20 : PySem.W.codeIn K cd20 "write_lines" = true)
    (k20 : PySem.W.keepIn K (.ref a20) = true)
    {a21 : Addr} {od21 an21 : Option Addr} {sl21 : Array (Option Value)} {oc21 dc21 pm21 cd21 ct21 : Value} {kV21 : Value}
    (n21 : PySem.W.nsIn K mainGlobals "lines_after" = some (some (.ref a21)))
    (l21 : K.lookup a21 = some ⟨oc21, od21, .func (PySem.W.fnOf "lines_after" "lines_after" (defArgs s_lines_after) (defBody s_lines_after) (defScope s_lines_after) .none kV21 dc21 pm21 an21 cd21 ct21), sl21⟩)
    (c21 : PySem.W.codeIn K cd21 "lines_after" = true)
    (k21 : PySem.W.keepIn K (.ref a21) = true)
    {a22 : Addr} {od22 an22 : Option Addr} {sl22 : Array (Option Value)} {oc22 dc22 pm22 cd22 ct22 : Value} {kV22 : Value}
    (n22 : PySem.W.nsIn K mainGlobals "ascending" = some (some (.ref a22)))
    (l22 : K.lookup a22 = some ⟨oc22, od22, .func (PySem.W.fnOf "ascending" "ascending" (defArgs s_ascending) (defBody s_ascending) (defScope s_ascending) .none kV22 dc22 pm22 an22 cd22 ct22), sl22⟩)
    (c22 : PySem.W.codeIn K cd22 "ascending" = true)
    (k22 : PySem.W.keepIn K (.ref a22) = true)
    {a23 : Addr} {od23 an23 : Option Addr} {sl23 : Array (Option Value)} {oc23 dc23 pm23 cd23 ct23 : Value} {kV23 : Value}
    (n23 : PySem.W.nsIn K mainGlobals "is_rooted" = some (some (.ref a23)))
    (l23 : K.lookup a23 = some ⟨oc23, od23, .func (PySem.W.fnOf "is_rooted" "is_rooted" (defArgs s_is_rooted) (defBody s_is_rooted) (defScope s_is_rooted) .none kV23 dc23 pm23 an23 cd23 ct23), sl23⟩)
    (c23 : PySem.W.codeIn K cd23 "is_rooted" = true)
    (k23 : PySem.W.keepIn K (.ref a23) = true)
    {a24 : Addr} {od24 an24 : Option Addr} {sl24 : Array (Option Value)} {oc24 dc24 pm24 cd24 ct24 : Value} {kV24 : Value}
    (n24 : PySem.W.nsIn K mainGlobals "lines_sound" = some (some (.ref a24)))
    (l24 : K.lookup a24 = some ⟨oc24, od24, .func (PySem.W.fnOf "lines_sound" "lines_sound" (defArgs s_lines_sound) (defBody s_lines_sound) (defScope s_lines_sound) .none kV24 dc24 pm24 an24 cd24 ct24), sl24⟩)
    (c24 : PySem.W.codeIn K cd24 "lines_sound" = true)
    (k24 : PySem.W.keepIn K (.ref a24) = true)
    {a25 : Addr} {od25 an25 : Option Addr} {sl25 : Array (Option Value)} {oc25 dc25 pm25 cd25 ct25 : Value} {kV25 : Value}
    (n25 : PySem.W.nsIn K mainGlobals "law" = some (some (.ref a25)))
    (l25 : K.lookup a25 = some ⟨oc25, od25, .func (PySem.W.fnOf "law" "law" (defArgs s_law) (defBody s_law) (defScope s_law) .none kV25 dc25 pm25 an25 cd25 ct25), sl25⟩)
    (c25 : PySem.W.codeIn K cd25 "law" = true)
    (k25 : PySem.W.keepIn K (.ref a25) = true)
    (z_any : PySem.W.nsIn K mainGlobals "any" = some none)
    (z_int : PySem.W.nsIn K mainGlobals "int" = some none)
    (z_len : PySem.W.nsIn K mainGlobals "len" = some none)
    (z_list : PySem.W.nsIn K mainGlobals "list" = some none)
    (z_min : PySem.W.nsIn K mainGlobals "min" = some none)
    (z_range : PySem.W.nsIn K mainGlobals "range" = some none)
    (z_set : PySem.W.nsIn K mainGlobals "set" = some none)
    (z_tuple : PySem.W.nsIn K mainGlobals "tuple" = some none)
    : ∃ fd : FuncData, (∀ (s : Shared) (v : Value), BindsTo s fd ⟨[v], []⟩ [("_law_script", v)]) ∧ ∀ base : Heap, K.In base → base.Ns mainGlobals mg → FnOk l.prog w K mg base (L2.CX l.prog w) 7 fa fd ["_law_script"] (spF K mg 1 d_law) := by
  have e := hfa.symm.trans (PySem.W.mg_of X G n25)
  cases e
  have B : Bi K mg := ⟨PySem.W.mg_none_of X G z_any, PySem.W.mg_none_of X G z_int, PySem.W.mg_none_of X G z_len, PySem.W.mg_none_of X G z_list, PySem.W.mg_none_of X G z_min, PySem.W.mg_none_of X G z_range, PySem.W.mg_none_of X G z_set, PySem.W.mg_none_of X G z_tuple⟩
  have F0 := fun_mk (st := s_l_pick) l0 c0 k0
  have D0 : DefAt K mg "_law_pick" s_l_pick ["_law_row", "_law_ids"] a0 _ := ⟨F0, PySem.W.mg_of X G n0, F0.binds (ps := ["_law_row", "_law_ids"]) fun _ _ _ _ _ _ us hl => match us, hl with | [_, _], _ => rfl⟩
  have F1 := fun_mk (st := s_l_heads) l1 c1 k1
  have D1 : DefAt K mg "_law_heads" s_l_heads ["_law_row", "_law_ids"] a1 _ := ⟨F1, PySem.W.mg_of X G n1, F1.binds (ps := ["_law_row", "_law_ids"]) fun _ _ _ _ _ _ us hl => match us, hl with | [_, _], _ => rfl⟩
  have F2 := fun_mk (st := s_l_path) l2 c2 k2
  have D2 : DefAt K mg "_law_path" s_l_path ["_law_row", "_law_most"] a2 _ := ⟨F2, PySem.W.mg_of X G n2, F2.binds (ps := ["_law_row", "_law_most"]) fun _ _ _ _ _ _ us hl => match us, hl with | [_, _], _ => rfl⟩
  have F3 := fun_mk (st := s_l_place) l3 c3 k3
  have D3 : DefAt K mg "_law_place" s_l_place ["_law_row", "_law_ids"] a3 _ := ⟨F3, PySem.W.mg_of X G n3, F3.binds (ps := ["_law_row", "_law_ids"]) fun _ _ _ _ _ _ us hl => match us, hl with | [_, _], _ => rfl⟩
  have F4 := fun_mk (st := s_l_edit) l4 c4 k4
  have D4 : DefAt K mg "_law_edit" s_l_edit ["_law_row", "_law_edit_id", "_law_ids"] a4 _ := ⟨F4, PySem.W.mg_of X G n4, F4.binds (ps := ["_law_row", "_law_edit_id", "_law_ids"]) fun _ _ _ _ _ _ us hl => match us, hl with | [_, _, _], _ => rfl⟩
  have F5 := fun_mk (st := s_l_rows) l5 c5 k5
  have D5 : DefAt K mg "_law_rows" s_l_rows ["_law_script", "_law_count"] a5 _ := ⟨F5, PySem.W.mg_of X G n5, F5.binds (ps := ["_law_script", "_law_count"]) fun _ _ _ _ _ _ us hl => match us, hl with | [_, _], _ => rfl⟩
  have F6 := fun_mk (st := s_l_edits) l6 c6 k6
  have D6 : DefAt K mg "_law_edits" s_l_edits ["_law_script", "_law_count"] a6 _ := ⟨F6, PySem.W.mg_of X G n6, F6.binds (ps := ["_law_script", "_law_count"]) fun _ _ _ _ _ _ us hl => match us, hl with | [_, _], _ => rfl⟩
  have F7 := fun_mk (st := s_l_replaced) l7 c7 k7
  have D7 : DefAt K mg "_law_replaced" s_l_replaced ["_law_edit_here"] a7 _ := ⟨F7, PySem.W.mg_of X G n7, F7.binds (ps := ["_law_edit_here"]) fun _ _ _ _ _ _ us hl => match us, hl with | [_], _ => rfl⟩
  have F8 := fun_mk (st := s_l_with) l8 c8 k8
  have D8 : DefAt K mg "_law_with" s_l_with ["_law_lines", "_law_k", "_law_line"] a8 _ := ⟨F8, PySem.W.mg_of X G n8, F8.binds (ps := ["_law_lines", "_law_k", "_law_line"]) fun _ _ _ _ _ _ us hl => match us, hl with | [_, _, _], _ => rfl⟩
  have F9 := fun_mk (st := s_l_wrong) l9 c9 k9
  have D9 : DefAt K mg "_law_wrong" s_l_wrong ["_law_lines", "_law_k"] a9 _ := ⟨F9, PySem.W.mg_of X G n9, F9.binds (ps := ["_law_lines", "_law_k"]) fun _ _ _ _ _ _ us hl => match us, hl with | [_, _], _ => rfl⟩
  have F10 := fun_mk (st := s_end_line) l10 c10 k10
  have D10 : DefAt K mg "end_line" s_end_line ["lines", "gone"] a10 _ := ⟨F10, PySem.W.mg_of X G n10, F10.binds (ps := ["lines", "gone"]) fun _ _ _ _ _ _ us hl => match us, hl with | [_, _], _ => rfl⟩
  have F11 := fun_mk (st := s_find_head) l11 c11 k11
  have D11 : DefAt K mg "find_head" s_find_head ["lines", "head"] a11 _ := ⟨F11, PySem.W.mg_of X G n11, F11.binds (ps := ["lines", "head"]) fun _ _ _ _ _ _ us hl => match us, hl with | [_, _], _ => rfl⟩
  have F12 := fun_mk (st := s_end_heads) l12 c12 k12
  have D12 : DefAt K mg "end_heads" s_end_heads ["lines", "heads"] a12 _ := ⟨F12, PySem.W.mg_of X G n12, F12.binds (ps := ["lines", "heads"]) fun _ _ _ _ _ _ us hl => match us, hl with | [_, _], _ => rfl⟩
  have F13 := fun_mk (st := s_find_line) l13 c13 k13
  have D13 : DefAt K mg "find_line" s_find_line ["lines", "line_id"] a13 _ := ⟨F13, PySem.W.mg_of X G n13, F13.binds (ps := ["lines", "line_id"]) fun _ _ _ _ _ _ us hl => match us, hl with | [_, _], _ => rfl⟩
  have F14 := fun_mk (st := s_find_folder) l14 c14 k14
  have D14 : DefAt K mg "find_folder" s_find_folder ["lines", "line_id"] a14 _ := ⟨F14, PySem.W.mg_of X G n14, F14.binds (ps := ["lines", "line_id"]) fun _ _ _ _ _ _ us hl => match us, hl with | [_, _], _ => rfl⟩
  have F15 := fun_mk (st := s_settle) l15 c15 k15
  have D15 : DefAt K mg "settle" s_settle ["lines", "place"] a15 _ := ⟨F15, PySem.W.mg_of X G n15, F15.binds (ps := ["lines", "place"]) fun _ _ _ _ _ _ us hl => match us, hl with | [_, _], _ => rfl⟩
  have F16 := fun_mk (st := s_stands_in) l16 c16 k16
  have D16 : DefAt K mg "stands_in" s_stands_in ["lines", "inside", "line_id"] a16 _ := ⟨F16, PySem.W.mg_of X G n16, F16.binds (ps := ["lines", "inside", "line_id"]) fun _ _ _ _ _ _ us hl => match us, hl with | [_, _, _], _ => rfl⟩
  have F17 := fun_mk (st := s_move_line) l17 c17 k17
  have D17 : DefAt K mg "move_line" s_move_line ["lines", "head", "line_id", "place"] a17 _ := ⟨F17, PySem.W.mg_of X G n17, F17.binds (ps := ["lines", "head", "line_id", "place"]) fun _ _ _ _ _ _ us hl => match us, hl with | [_, _, _, _], _ => rfl⟩
  have F18 := fun_mk (st := s_continued) l18 c18 k18
  have D18 : DefAt K mg "continued" s_continued ["lines", "replaces"] a18 _ := ⟨F18, PySem.W.mg_of X G n18, F18.binds (ps := ["lines", "replaces"]) fun _ _ _ _ _ _ us hl => match us, hl with | [_, _], _ => rfl⟩
  have F19 := fun_mk (st := s_new_line) l19 c19 k19
  have D19 : DefAt K mg "new_line" s_new_line ["lines", "edit_id", "place", "content", "meant"] a19 _ := ⟨F19, PySem.W.mg_of X G n19, F19.binds (ps := ["lines", "edit_id", "place", "content", "meant"]) fun _ _ _ _ _ _ us hl => match us, hl with | [_, _, _, _, _], _ => rfl⟩
  have F20 := fun_mk (st := s_write_lines) l20 c20 k20
  have D20 : DefAt K mg "write_lines" s_write_lines ["lines", "edit"] a20 _ := ⟨F20, PySem.W.mg_of X G n20, F20.binds (ps := ["lines", "edit"]) fun _ _ _ _ _ _ us hl => match us, hl with | [_, _], _ => rfl⟩
  have F21 := fun_mk (st := s_lines_after) l21 c21 k21
  have D21 : DefAt K mg "lines_after" s_lines_after ["lines", "edit"] a21 _ := ⟨F21, PySem.W.mg_of X G n21, F21.binds (ps := ["lines", "edit"]) fun _ _ _ _ _ _ us hl => match us, hl with | [_, _], _ => rfl⟩
  have F22 := fun_mk (st := s_ascending) l22 c22 k22
  have D22 : DefAt K mg "ascending" s_ascending ["ids"] a22 _ := ⟨F22, PySem.W.mg_of X G n22, F22.binds (ps := ["ids"]) fun _ _ _ _ _ _ us hl => match us, hl with | [_], _ => rfl⟩
  have F23 := fun_mk (st := s_is_rooted) l23 c23 k23
  have D23 : DefAt K mg "is_rooted" s_is_rooted ["lines", "inside"] a23 _ := ⟨F23, PySem.W.mg_of X G n23, F23.binds (ps := ["lines", "inside"]) fun _ _ _ _ _ _ us hl => match us, hl with | [_, _], _ => rfl⟩
  have F24 := fun_mk (st := s_lines_sound) l24 c24 k24
  have D24 : DefAt K mg "lines_sound" s_lines_sound ["lines"] a24 _ := ⟨F24, PySem.W.mg_of X G n24, F24.binds (ps := ["lines"]) fun _ _ _ _ _ _ us hl => match us, hl with | [_], _ => rfl⟩
  have F25 := fun_mk (st := s_law) l25 c25 k25
  have D25 : DefAt K mg "law" s_law ["_law_script"] fa _ := ⟨F25, PySem.W.mg_of X G n25, F25.binds (ps := ["_law_script"]) fun _ _ _ _ _ _ us hl => match us, hl with | [_], _ => rfl⟩
  refine ⟨PySem.W.fnOf "law" "law" (defArgs s_law) (defBody s_law) (defScope s_law) .none kV25 dc25 pm25 an25 cd25 ct25, fun s v => .of_eq rfl, fun base _ _ => ?_⟩
  have G0 := ok_l_pick (P := l.prog) (w := w) (base := base) D0 B
  have G1 := ok_l_heads (P := l.prog) (w := w) (base := base) D1 B D0 G0
  have G2 := ok_l_path (P := l.prog) (w := w) (base := base) D2 B
  have G3 := ok_l_place (P := l.prog) (w := w) (base := base) D3 B D2 G2 D0 G0
  have G4 := ok_l_edit (P := l.prog) (w := w) (base := base) D4 B D1 G1 D0 G0 D3 G3
  have G5 := ok_l_rows (P := l.prog) (w := w) (base := base) D5 B
  have G6 := ok_l_edits (P := l.prog) (w := w) (base := base) D6 B D4 G4 D5 G5
  have G7 := ok_l_replaced (P := l.prog) (w := w) (base := base) D7 B
  have G8 := ok_l_with (P := l.prog) (w := w) (base := base) D8 B
  have G9 := ok_l_wrong (P := l.prog) (w := w) (base := base) D9 B D8 G8
  have G10 := ok_end_line (P := l.prog) (w := w) (base := base) D10 B
  have G11 := ok_find_head (P := l.prog) (w := w) (base := base) D11 B
  have G12 := ok_end_heads (P := l.prog) (w := w) (base := base) D12 B D10 G10 D11 G11
  have G13 := ok_find_line (P := l.prog) (w := w) (base := base) D13 B
  have G14 := ok_find_folder (P := l.prog) (w := w) (base := base) D14 B D13 G13
  have G15 := ok_settle (P := l.prog) (w := w) (base := base) D15 B D14 G14
  have G16 := ok_stands_in (P := l.prog) (w := w) (base := base) D16 B D14 G14
  have G17 := ok_move_line (P := l.prog) (w := w) (base := base) D17 B D11 G11 D13 G13 D15 G15 D16 G16
  have G18 := ok_continued (P := l.prog) (w := w) (base := base) D18 B
  have G19 := ok_new_line (P := l.prog) (w := w) (base := base) D19 B D13 G13 D15 G15
  have G20 := ok_write_lines (P := l.prog) (w := w) (base := base) D20 B D18 G18 D12 G12 D19 G19
  have G21 := ok_lines_after (P := l.prog) (w := w) (base := base) D21 B D12 G12 D17 G17 D20 G20
  have G22 := ok_ascending (P := l.prog) (w := w) (base := base) D22 B
  have G23 := ok_is_rooted (P := l.prog) (w := w) (base := base) D23 B D14 G14
  have G24 := ok_lines_sound (P := l.prog) (w := w) (base := base) D24 B D22 G22 D23 G23
  have G25 := ok_law (P := l.prog) (w := w) (base := base) D25 B D6 G6 D7 G7 D9 G9 D21 G21 D24 G24
  exact G25
end FK
open PySem PySem.W PyProof.Rows
set_option maxRecDepth 100000 in
set_option maxHeartbeats 0 in
theorem PySem.Challenge.cw_foldkeep_k14_lines_stay_sound_holds : PySem.Challenge.rw_foldkeep_k14_lines_stay_sound.Holds := by
  w_on; o_law; k_head; (case hw => w_witness2)
  k_fill
  refine FK.law_walk (l := PySem.Challenge.rw_foldkeep_k14_lines_stay_sound) (k := 7) (x := "_law_script") (F := FK.d_law) rfl rfl ⟨rfl, by decide, by decide⟩ (fun w h Y => PySem.W.kIn_of Y) ?F FK.law_true
  case F =>
    intro w mg fa h KX G hmg
    refine' FK.all_mk KX G hmg ?n0 ?l0 ?c0 ?k0 ?n1 ?l1 ?c1 ?k1 ?n2 ?l2 ?c2 ?k2 ?n3 ?l3 ?c3 ?k3 ?n4 ?l4 ?c4 ?k4 ?n5 ?l5 ?c5 ?k5 ?n6 ?l6 ?c6 ?k6 ?n7 ?l7 ?c7 ?k7 ?n8 ?l8 ?c8 ?k8 ?n9 ?l9 ?c9 ?k9 ?n10 ?l10 ?c10 ?k10 ?n11 ?l11 ?c11 ?k11 ?n12 ?l12 ?c12 ?k12 ?n13 ?l13 ?c13 ?k13 ?n14 ?l14 ?c14 ?k14 ?n15 ?l15 ?c15 ?k15 ?n16 ?l16 ?c16 ?k16 ?n17 ?l17 ?c17 ?k17 ?n18 ?l18 ?c18 ?k18 ?n19 ?l19 ?c19 ?k19 ?n20 ?l20 ?c20 ?k20 ?n21 ?l21 ?c21 ?k21 ?n22 ?l22 ?c22 ?k22 ?n23 ?l23 ?c23 ?k23 ?n24 ?l24 ?c24 ?k24 ?n25 ?l25 ?c25 ?k25 ?z_any ?z_int ?z_len ?z_list ?z_min ?z_range ?z_set ?z_tuple
    (case n0 => k_is)
    (case l0 => k_is)
    (case c0 => k_is)
    (case k0 => k_is)
    (case n1 => k_is)
    (case l1 => k_is)
    (case c1 => k_is)
    (case k1 => k_is)
    (case n2 => k_is)
    (case l2 => k_is)
    (case c2 => k_is)
    (case k2 => k_is)
    (case n3 => k_is)
    (case l3 => k_is)
    (case c3 => k_is)
    (case k3 => k_is)
    (case n4 => k_is)
    (case l4 => k_is)
    (case c4 => k_is)
    (case k4 => k_is)
    (case n5 => k_is)
    (case l5 => k_is)
    (case c5 => k_is)
    (case k5 => k_is)
    (case n6 => k_is)
    (case l6 => k_is)
    (case c6 => k_is)
    (case k6 => k_is)
    (case n7 => k_is)
    (case l7 => k_is)
    (case c7 => k_is)
    (case k7 => k_is)
    (case n8 => k_is)
    (case l8 => k_is)
    (case c8 => k_is)
    (case k8 => k_is)
    (case n9 => k_is)
    (case l9 => k_is)
    (case c9 => k_is)
    (case k9 => k_is)
    (case n10 => k_is)
    (case l10 => k_is)
    (case c10 => k_is)
    (case k10 => k_is)
    (case n11 => k_is)
    (case l11 => k_is)
    (case c11 => k_is)
    (case k11 => k_is)
    (case n12 => k_is)
    (case l12 => k_is)
    (case c12 => k_is)
    (case k12 => k_is)
    (case n13 => k_is)
    (case l13 => k_is)
    (case c13 => k_is)
    (case k13 => k_is)
    (case n14 => k_is)
    (case l14 => k_is)
    (case c14 => k_is)
    (case k14 => k_is)
    (case n15 => k_is)
    (case l15 => k_is)
    (case c15 => k_is)
    (case k15 => k_is)
    (case n16 => k_is)
    (case l16 => k_is)
    (case c16 => k_is)
    (case k16 => k_is)
    (case n17 => k_is)
    (case l17 => k_is)
    (case c17 => k_is)
    (case k17 => k_is)
    (case n18 => k_is)
    (case l18 => k_is)
    (case c18 => k_is)
    (case k18 => k_is)
    (case n19 => k_is)
    (case l19 => k_is)
    (case c19 => k_is)
    (case k19 => k_is)
    (case n20 => k_is)
    (case l20 => k_is)
    (case c20 => k_is)
    (case k20 => k_is)
    (case n21 => k_is)
    (case l21 => k_is)
    (case c21 => k_is)
    (case k21 => k_is)
    (case n22 => k_is)
    (case l22 => k_is)
    (case c22 => k_is)
    (case k22 => k_is)
    (case n23 => k_is)
    (case l23 => k_is)
    (case c23 => k_is)
    (case k23 => k_is)
    (case n24 => k_is)
    (case l24 => k_is)
    (case c24 => k_is)
    (case k24 => k_is)
    (case n25 => k_is)
    (case l25 => k_is)
    (case c25 => k_is)
    (case k25 => k_is)
    (case z_any => k_is)
    (case z_int => k_is)
    (case z_len => k_is)
    (case z_list => k_is)
    (case z_min => k_is)
    (case z_range => k_is)
    (case z_set => k_is)
    (case z_tuple => k_is)
#print axioms PySem.Challenge.cw_foldkeep_k14_lines_stay_sound_holds

