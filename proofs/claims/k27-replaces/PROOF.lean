import PyProof.Rows.All
import Wide.All
import OpenK.AllK
import Wide.FinOn
import HandS.ForExc
import HandS.ForMost
import HandS.Flow
import HandS.Lambda
import KE.KDictKeyed
import HandS.TupAny
import HandS.Codes
import HandS.StrMore
import HandS.Strs
import HandS.Deep
import HandS.CallSlots
import KE.DataCmp
import HandS.IsInst
import HandS.MakeKw
import HandS.MakeKwOnly
import HandS.Defaults
import HandS.TupSets
import HandS.List
import PySem.Challenge.RW_foldkeep_k27_what_a_write_replaces
/-! part: FK1 -/
set_option Elab.async false
set_option linter.all false
set_option maxRecDepth 100000
set_option maxHeartbeats 4000000
/-! FK1: plain data D, a small heap of cells, how they lie in the abstract heap, what a run must show. -/
namespace FK
open PySem PySem.Spec L2

/-- plain data; ref n is the n-th cell; scr: a list that is read alone (the script, a module's own) -/
inductive D where
  | non | bl (b : Bool) | int (i : Int) | str (x : Str)
  | tup (xs : List D) | lst (xs : List D) | scr (xs : List D) | obj (c : Str) (ns : List Str) (xs : List D) | ref (n : Nat)
inductive Cell where
  | lst (xs : List D) | ins (c : Str) (ns : List Str) (xs : List D)
  /-- the table of code objects of the def q; a dict by texts; a dict by tuples of ints and bools -/
  | tab (q : Str) | dS (ks : List Str) (xs : List D) | dM (ks : List D) (xs : List D)
abbrev CH := List Cell
/-- a run's end -/
inductive R (α : Type) where
  | ok (a : α) (h : CH) | exc (c : Str) (h : CH) | bad
abbrev M (α : Type) := CH → R α
def M.pure {α : Type} (a : α) : M α := fun h => .ok a h
def M.bind {α β : Type} (x : M α) (f : α → M β) : M β := fun h =>
  match x h with
  | .ok a h1 => f a h1
  | .exc c h1 => .exc c h1
  | .bad => .bad
def M.bad {α : Type} : M α := fun _ => .bad
abbrev Env := List (Option D)
/-- how a statement ends -/
inductive Fl where
  | nx | bk | ct | rt (d : D)
inductive RS where
  | ok (f : Fl) (ρ : Env) (h : CH) | exc (c : Str) (ρ : Env) (h : CH) | bad
abbrev ED := Env → M D
abbrev BD := Env → M Bool
abbrev AD := Env → M (List D)
abbrev SD := Env → CH → RS

/-- ints and bools, as the ints that they are equal to -/
def numsM : List D → Option (List Int)
  | [] => some []
  | .int i :: r => (numsM r).map (i :: ·)
  | .bl b :: r => (numsM r).map ((if b = true then 1 else 0) :: ·)
  | _ => none
def nsOf : D → List Int
  | .tup xs => (numsM xs).getD []
  | _ => []
/-- the hash of a tuple of ints -/
def hM (ns : List Int) : Int := reduceHash (Builtin.Tuple.tupleHashOf (ns.map hashInt))

/-- the heap without some addresses -/
def hide (Z : List Addr) (H : Hp) : Hp := fun a => if a ∈ Z then none else H a
theorem hide_some {Z : List Addr} {H : Hp} {a : Addr} {o : HO} (h : hide Z H a = some o) : a ∉ Z ∧ H a = some o := by
  unfold hide at h
  by_cases z : a ∈ Z
  · rw [if_pos z] at h; cases h
  · rw [if_neg z] at h; exact ⟨z, h⟩
theorem hide_of {Z : List Addr} {H : Hp} {a : Addr} {o : HO} (z : a ∉ Z) (h : H a = some o) : hide Z H a = some o := by
  unfold hide; rw [if_neg z]; exact h
def Sub (H H' : Hp) : Prop := ∀ a o, H a = some o → H' a = some o
theorem Sub.refl {H : Hp} : Sub H H := fun _ _ h => h
theorem Sub.trans {A B C : Hp} (x : Sub A B) (y : Sub B C) : Sub A C := fun a o h => y a o (x a o h)
theorem hide_sub {Z : List Addr} {H : Hp} : Sub (hide Z H) H := fun _ _ h => (hide_some h).2
theorem Sub.rd {H H' : Hp} (s : Sub H H') {a : Addr} {u : HO} (h : Rd H a u) : Rd H' a u := by
  rcases h with h | ⟨o, h⟩
  · exact .inl (s _ _ h)
  · exact .inr ⟨o, s _ _ h⟩
theorem Sub.sql {K : PySem.W.Frag} {H H' : Hp} (s : Sub H H') {a : Addr} {xs : List V} (h : SqL K H a xs) : SqL K H' a xs := by
  rcases h with h | h
  · exact .inl (s.rd h)
  · exact .inr h
theorem Sub.sqt {K : PySem.W.Frag} {H H' : Hp} (s : Sub H H') {a : Addr} {xs : List V} (h : SqT K H a xs) : SqT K H' a xs := by
  rcases h with h | h
  · exact .inl (s.rd h)
  · exact .inr h

section
variable (K : PySem.W.Frag) (mg : Str → Option Value)
mutual
/-- the value v is the datum d; m: the cells' addresses, S: what stands still -/
def Rep (m : List Addr) (S : Hp) : D → V → Prop
  | .non, v => v = .non
  | .bl b, v => v = .bl b
  | .int i, v => v = .int i
  | .str x, v => v = .str x ∧ PyData.strOk x = true
  | .tup xs, v => ∃ a vs, v = .ref a ∧ SqT K S a vs ∧ RepL m S xs vs
  | .lst xs, v => ∃ a vs, v = .ref a ∧ S a = some (.lst vs) ∧ RepL m S xs vs
  | .scr xs, v => ∃ a vs, v = .ref a ∧ SqL K S a vs ∧ RepL m S xs vs
  | .obj c ns xs, v => ∃ a C dx fs, v = .ref a ∧ S a = some (.ins C dx fs) ∧ mg c = some (.ref C) ∧ fs.map (·.1) = ns ∧ RepL m S xs (fs.map (·.2))
  | .ref n, v => ∃ a, m[n]? = some a ∧ v = .ref a
def RepL (m : List Addr) (S : Hp) : List D → List V → Prop
  | [], vs => vs = []
  | d :: ds, vs => ∃ v r, vs = v :: r ∧ Rep m S d v ∧ RepL m S ds r
end
/-- a dict's entries -/
def EntR (m : List Addr) (S : Hp) : List D → List D → List DictEntry → Prop
  | [], [], es => es = []
  | k :: ks, x :: xs, es => ∃ (b : Addr) (vs : List V) (kd : List D) (ns : List Int) (v : V) (u : Value) (r : List DictEntry), es = ⟨hM ns, .ref b, u⟩ :: r ∧ k = .tup kd ∧ numsM kd = some ns ∧ SqT K S b vs ∧ RepL K mg m S kd vs ∧ RelV v u ∧ Rep K mg m S x v ∧ EntR m S ks xs r
  | _, _, _ => False
def CellR (m : List Addr) (S H : Hp) (a : Addr) : Cell → Prop
  | .lst xs => ∃ vs, H a = some (.lst vs) ∧ RepL K mg m S xs vs
  | .ins c ns xs => ∃ C dx fs, H a = some (.ins C dx fs) ∧ mg c = some (.ref C) ∧ fs.map (·.1) = ns ∧ RepL K mg m S xs (fs.map (·.2))
  | .tab q => ∃ (c : Addr) (ps : Array Value), PySem.W.tabIn K q = some (c, a) ∧ H a = some (.tbl ps) ∧ TriplesOk ps.toList ∧ ∀ (pos : Pos) (cv : Value), codeAmong pos ps.toList = some cv → ∃ c', cv = .ref c' ∧ S c' = some (LamX.CodeO c' (q ++ ".<locals>." ++ "<lambda>"))
  | .dS ks xs => ∃ vs, H a = some (.dK ((ks.map Sum.inr).zip vs)) ∧ vs.length = ks.length ∧ RepL K mg m S xs vs ∧ ∀ k ∈ ks, PyData.strOk k = true
  | .dM ks xs => ∃ (o : Obj) (es : Array DictEntry) (ep : Nat), H a = some (.ext fun h => h.get? a = some o) ∧ (a == sysModules) = false ∧ o.ExactDict ∧ o.data = .dict es ep ∧ EntR K mg m S ks xs es.toList ∧ (ks.map nsOf).Nodup
/-- the cells lie at m, apart from Z -/
structure HeapOk (Z m : List Addr) (h : CH) (H : Hp) : Prop where
  len : m.length = h.length
  nd : m.Nodup
  dj : ∀ a ∈ m, a ∉ Z
  ex : ∀ a ∈ Z, ∃ o, H a = some o
  cell : ∀ (n : Nat) c a, h[n]? = some c → m[n]? = some a → CellR K mg m (hide (Z ++ m) H) H a c
/-- from (m, H) to (m', H'): more cells, what stood still stands, Z is as it was -/
structure Ext (Z m : List Addr) (H : Hp) (m' : List Addr) (H' : Hp) : Prop where
  pre : ∀ (n : Nat) a, m[n]? = some a → m'[n]? = some a
  st : Sub (hide (Z ++ m) H) (hide (Z ++ m') H')
  zs : ∀ a ∈ Z, H' a = H a
/-- slots -/
def REnv (m : List Addr) (S : Hp) : Env → St → Prop
  | [], σ => σ = []
  | o :: ρ, σ => ∃ p r, σ = p :: r ∧ (∀ d, o = some d → ∃ v, p = some v ∧ Rep K mg m S d v) ∧ REnv m S ρ r
/-- what a run must show; rel: how its end lies in the heap -/
def PostG {α β : Type} (rel : List Addr → Hp → α → β → Prop) (W : WX) (σ : St) (Z m : List Addr) (H : Hp) (r : R α) (Q : β → Hp → Prop) : Prop :=
  match r with
  | .ok d h => ∀ v m' H', Ext Z m H m' H' → HeapOk K mg Z m' h H' → rel m' (hide (Z ++ m') H') d v → Q v H'
  | .exc c h => ∀ m' H' cls, Ext Z m H m' H' → HeapOk K mg Z m' h H' → mg c = some cls → W cls none σ H'
  | .bad => False
abbrev Post (W : WX) (σ : St) (Z m : List Addr) (H : Hp) (r : R D) (Q : VK) : Prop := PostG K mg (Rep K mg) W σ Z m H r Q
abbrev PostL (W : WX) (σ : St) (Z m : List Addr) (H : Hp) (r : R (List D)) (Q : List V → Hp → Prop) : Prop := PostG K mg (RepL K mg) W σ Z m H r Q
abbrev PostB (W : WX) (σ : St) (Z m : List Addr) (H : Hp) (r : R Bool) (Q : Bool → Hp → Prop) : Prop := PostG K mg (fun _ _ a b => b = a) W σ Z m H r Q
def PostS (W : WX) (Z m : List Addr) (H : Hp) (r : RS) (E : Ends) : Prop :=
  match r with
  | .ok .nx ρ h => ∀ σ' m' H', Ext Z m H m' H' → HeapOk K mg Z m' h H' → REnv K mg m' (hide (Z ++ m') H') ρ σ' → E.nx σ' H'
  | .ok .bk ρ h => ∀ σ' m' H', Ext Z m H m' H' → HeapOk K mg Z m' h H' → REnv K mg m' (hide (Z ++ m') H') ρ σ' → E.bk σ' H'
  | .ok .ct ρ h => ∀ σ' m' H', Ext Z m H m' H' → HeapOk K mg Z m' h H' → REnv K mg m' (hide (Z ++ m') H') ρ σ' → E.ct σ' H'
  | .ok (.rt d) _ h => ∀ v m' H', Ext Z m H m' H' → HeapOk K mg Z m' h H' → Rep K mg m' (hide (Z ++ m') H') d v → E.rt v H'
  | .exc c ρ h => ∀ σ' m' H' cls, Ext Z m H m' H' → HeapOk K mg Z m' h H' → REnv K mg m' (hide (Z ++ m') H') ρ σ' → mg c = some cls → W cls none σ' H'
  | .bad => False
/-- where a run stands -/
structure At (Z m : List Addr) (ρ : Env) (h : CH) (σ : St) (H : Hp) : Prop where
  hk : HeapOk K mg Z m h H
  en : REnv K mg m (hide (Z ++ m) H) ρ σ
def tD (W : WX) (f : ED) : TE := fun σ H Q => ∃ Z m ρ h, At K mg Z m ρ h σ H ∧ Post K mg W σ Z m H (f ρ h) Q
def tDL (W : WX) (f : AD) : TA := fun σ H Q => ∃ Z m ρ h, At K mg Z m ρ h σ H ∧ PostL K mg W σ Z m H (f ρ h) Q
def tDB (W : WX) (f : BD) : TT := fun σ H Q => ∃ Z m ρ h, At K mg Z m ρ h σ H ∧ PostB K mg W σ Z m H (f ρ h) Q
def tDS (W : WX) (f : SD) : TS := fun E σ H => ∃ Z m ρ h, At K mg Z m ρ h σ H ∧ PostS K mg W Z m H (f ρ h) E
end

section
variable {K : PySem.W.Frag} {mg : Str → Option Value} {m m' : List Addr} {S S' : Hp}
mutual
theorem Rep.mono (hm : ∀ (n : Nat) a, m[n]? = some a → m'[n]? = some a) (hs : Sub S S') : ∀ (d : D) (v : V), Rep K mg m S d v → Rep K mg m' S' d v
  | .non, v, h => by simpa [Rep] using h
  | .bl b, v, h => by simpa [Rep] using h
  | .int b, v, h => by simpa [Rep] using h
  | .str b, v, h => by simpa [Rep] using h
  | .tup xs, v, h => by
    unfold Rep at h ⊢
    obtain ⟨a, vs, e, q, r⟩ := h
    exact ⟨a, vs, e, hs.sqt q, RepL.mono hm hs xs vs r⟩
  | .lst xs, v, h => by
    unfold Rep at h ⊢
    obtain ⟨a, vs, e, q, r⟩ := h
    exact ⟨a, vs, e, hs _ _ q, RepL.mono hm hs xs vs r⟩
  | .scr xs, v, h => by
    unfold Rep at h ⊢
    obtain ⟨a, vs, e, q, r⟩ := h
    exact ⟨a, vs, e, hs.sql q, RepL.mono hm hs xs vs r⟩
  | .obj c ns xs, v, h => by
    unfold Rep at h ⊢
    obtain ⟨a, C, dx, fs, e, q, e2, e3, r⟩ := h
    exact ⟨a, C, dx, fs, e, hs _ _ q, e2, e3, RepL.mono hm hs xs _ r⟩
  | .ref n, v, h => by
    unfold Rep at h ⊢
    obtain ⟨a, e, q⟩ := h
    exact ⟨a, hm n a e, q⟩
theorem RepL.mono (hm : ∀ (n : Nat) a, m[n]? = some a → m'[n]? = some a) (hs : Sub S S') : ∀ (ds : List D) (vs : List V), RepL K mg m S ds vs → RepL K mg m' S' ds vs
  | [], vs, h => by simpa [RepL] using h
  | d :: ds, vs, h => by
    unfold RepL at h ⊢
    obtain ⟨v, r, e, a, b⟩ := h
    exact ⟨v, r, e, Rep.mono hm hs d v a, RepL.mono hm hs ds r b⟩
end
theorem RepL.length : ∀ {ds : List D} {vs : List V}, RepL K mg m S ds vs → vs.length = ds.length
  | [], vs, h => by unfold RepL at h; subst h; rfl
  | d :: ds, vs, h => by
    unfold RepL at h
    obtain ⟨v, r, rfl, _, b⟩ := h
    rw [List.length_cons, List.length_cons, RepL.length b]
theorem RepL.get : ∀ {ds : List D} {vs : List V} {i : Nat} {d : D}, RepL K mg m S ds vs → ds[i]? = some d → ∃ v, vs[i]? = some v ∧ Rep K mg m S d v
  | [], _, _, _, _, e => by simp at e
  | x :: ds, vs, 0, d, h, e => by
    unfold RepL at h
    obtain ⟨v, r, rfl, a, b⟩ := h
    simp at e
    subst e
    exact ⟨v, rfl, a⟩
  | x :: ds, vs, i + 1, d, h, e => by
    unfold RepL at h
    obtain ⟨v, r, rfl, a, b⟩ := h
    obtain ⟨u, h1, h2⟩ := RepL.get b (i := i) (d := d) (by simpa using e)
    exact ⟨u, by simpa using h1, h2⟩
theorem RepL.append : ∀ {ds es : List D} {vs us : List V}, RepL K mg m S ds vs → RepL K mg m S es us → RepL K mg m S (ds ++ es) (vs ++ us)
  | [], es, vs, us, h, h2 => by unfold RepL at h; subst h; exact h2
  | d :: ds, es, vs, us, h, h2 => by
    unfold RepL at h
    obtain ⟨v, r, rfl, a, b⟩ := h
    show RepL K mg m S (d :: (ds ++ es)) (v :: (r ++ us))
    unfold RepL
    exact ⟨v, _, rfl, a, RepL.append b h2⟩
theorem RepL.one {d : D} {v : V} (h : Rep K mg m S d v) : RepL K mg m S [d] [v] := by
  unfold RepL
  exact ⟨v, [], rfl, h, by unfold RepL; rfl⟩
theorem RepL.nil : RepL K mg m S [] [] := by unfold RepL; rfl
theorem RepL.cons {d : D} {v : V} {ds : List D} {vs : List V} (h : Rep K mg m S d v) (t : RepL K mg m S ds vs) : RepL K mg m S (d :: ds) (v :: vs) := by
  unfold RepL
  exact ⟨v, vs, rfl, h, t⟩
theorem RepL.of_cons {d : D} {vs : List V} {ds : List D} (h : RepL K mg m S (d :: ds) vs) : ∃ v r, vs = v :: r ∧ Rep K mg m S d v ∧ RepL K mg m S ds r := by
  unfold RepL at h; exact h
theorem RepL.of_nil {vs : List V} (h : RepL K mg m S [] vs) : vs = [] := by unfold RepL at h; exact h
theorem RepL.take : ∀ {ds : List D} {vs : List V} (n : Nat), RepL K mg m S ds vs → RepL K mg m S (ds.take n) (vs.take n)
  | [], vs, n, h => by rw [h.of_nil]; simp [RepL]
  | d :: ds, vs, 0, h => by simp [RepL]
  | d :: ds, vs, n + 1, h => by
    obtain ⟨v, r, rfl, a, b⟩ := h.of_cons
    exact RepL.cons a (RepL.take n b)
theorem RepL.drop : ∀ {ds : List D} {vs : List V} (n : Nat), RepL K mg m S ds vs → RepL K mg m S (ds.drop n) (vs.drop n)
  | [], vs, n, h => by rw [h.of_nil]; simp [RepL]
  | d :: ds, vs, 0, h => by simpa using h
  | d :: ds, vs, n + 1, h => by
    obtain ⟨v, r, rfl, a, b⟩ := h.of_cons
    simpa using RepL.drop n b
theorem RepL.set {d : D} {v : V} (q : Rep K mg m S d v) : ∀ {ds : List D} {vs : List V} (n : Nat), RepL K mg m S ds vs → RepL K mg m S (ds.set n d) (vs.set n v)
  | [], vs, n, h => by rw [h.of_nil]; simp [RepL]
  | x :: ds, vs, 0, h => by
    obtain ⟨u, r, rfl, a, b⟩ := h.of_cons
    exact RepL.cons q b
  | x :: ds, vs, n + 1, h => by
    obtain ⟨u, r, rfl, a, b⟩ := h.of_cons
    exact RepL.cons a (RepL.set q n b)
theorem REnv.mono (hm : ∀ (n : Nat) a, m[n]? = some a → m'[n]? = some a) (hs : Sub S S') : ∀ (ρ : Env) (σ : St), REnv K mg m S ρ σ → REnv K mg m' S' ρ σ
  | [], σ, h => h
  | o :: ρ, σ, h => by
    obtain ⟨p, r, e, a, b⟩ := h
    exact ⟨p, r, e, fun d hd => let ⟨v, h1, h2⟩ := a d hd; ⟨v, h1, Rep.mono hm hs d v h2⟩, REnv.mono hm hs ρ r b⟩
theorem REnv.get : ∀ {ρ : Env} {σ : St} {i : Nat} {d : D}, REnv K mg m S ρ σ → ρ[i]? = some (some d) → ∃ v, σ[i]? = some (some v) ∧ Rep K mg m S d v
  | [], _, _, _, _, e => by simp at e
  | o :: ρ, σ, 0, d, h, e => by
    obtain ⟨p, r, rfl, a, b⟩ := h
    simp at e
    obtain ⟨v, h1, h2⟩ := a d e
    subst h1
    exact ⟨v, rfl, h2⟩
  | o :: ρ, σ, i + 1, d, h, e => by
    obtain ⟨p, r, rfl, a, b⟩ := h
    obtain ⟨v, h1, h2⟩ := REnv.get b (i := i) (d := d) (by simpa using e)
    exact ⟨v, by simpa using h1, h2⟩
theorem REnv.set {d : D} {v : V} (q : Rep K mg m S d v) : ∀ {ρ : Env} {σ : St} (i : Nat), REnv K mg m S ρ σ → REnv K mg m S (ρ.set i (some d)) (σ.set i (some v))
  | [], σ, i, h => by
    have e : σ = [] := h
    subst e
    exact h
  | o :: ρ, σ, 0, h => by
    obtain ⟨p, r, rfl, a, b⟩ := h
    exact ⟨some v, r, rfl, fun d' e => ⟨v, rfl, by cases e; exact q⟩, b⟩
  | o :: ρ, σ, i + 1, h => by
    obtain ⟨p, r, rfl, a, b⟩ := h
    exact ⟨p, r.set i (some v), rfl, a, REnv.set q i b⟩
theorem REnv.unset : ∀ {ρ : Env} {σ : St} (i : Nat), REnv K mg m S ρ σ → REnv K mg m S (ρ.set i none) (σ.set i none)
  | [], σ, i, h => by
    have e : σ = [] := h
    subst e
    exact h
  | o :: ρ, σ, 0, h => by
    obtain ⟨p, r, rfl, a, b⟩ := h
    exact ⟨none, r, rfl, (fun d' e => by cases e), b⟩
  | o :: ρ, σ, i + 1, h => by
    obtain ⟨p, r, rfl, a, b⟩ := h
    exact ⟨p, r.set i none, rfl, a, REnv.unset i b⟩
theorem REnv.start : ∀ {ds : List D} {vs : List V} (n : Nat), RepL K mg m S ds vs → REnv K mg m S (ds.map some ++ List.replicate n none) (vs.map some ++ List.replicate n none)
  | [], vs, n, h => by
    rw [h.of_nil]
    show REnv K mg m S (List.replicate n none) (List.replicate n none)
    induction n with
    | zero => rfl
    | succ n ih => exact ⟨none, _, rfl, (fun d' e => by cases e), ih⟩
  | d :: ds, vs, n, h => by
    obtain ⟨v, r, rfl, a, b⟩ := h.of_cons
    exact ⟨some v, _, rfl, fun d' e => ⟨v, rfl, by cases e; exact a⟩, REnv.start n b⟩
theorem EntR.mono (hm : ∀ (n : Nat) a, m[n]? = some a → m'[n]? = some a) (hs : Sub S S') : ∀ {ks xs : List D} {es : List DictEntry}, EntR K mg m S ks xs es → EntR K mg m' S' ks xs es
  | [], [], es, h => h
  | k :: ks, x :: xs, es, h => by
    obtain ⟨b, vs, kd, ns, v, u, r, h1, h2, h3, h4, h5, h6, h7, h8⟩ := h
    exact ⟨b, vs, kd, ns, v, u, r, h1, h2, h3, hs.sqt h4, RepL.mono hm hs _ _ h5, h6, Rep.mono hm hs _ _ h7, EntR.mono hm hs h8⟩
  | [], _ :: _, es, h => h.elim
  | _ :: _, [], es, h => h.elim
theorem CellR.there {H : Hp} {a : Addr} : ∀ {c : Cell}, CellR K mg m S H a c → ∃ o, H a = some o
  | .lst xs, h => let ⟨vs, h1, _⟩ := h; ⟨_, h1⟩
  | .ins c ns xs, h => let ⟨_, _, _, h1, _⟩ := h; ⟨_, h1⟩
  | .tab q, h => let ⟨_, _, _, h1, _⟩ := h; ⟨_, h1⟩
  | .dS ks xs, h => let ⟨_, h1, _⟩ := h; ⟨_, h1⟩
  | .dM ks xs, h => let ⟨_, _, _, h1, _⟩ := h; ⟨_, h1⟩
theorem CellR.mono (hm : ∀ (n : Nat) a, m[n]? = some a → m'[n]? = some a) (hs : Sub S S') {H H' : Hp} {a : Addr} (e : H' a = H a) : ∀ {c : Cell}, CellR K mg m S H a c → CellR K mg m' S' H' a c
  | .lst xs, h => by
    obtain ⟨vs, h1, h2⟩ := h
    exact ⟨vs, by rw [e]; exact h1, RepL.mono hm hs _ _ h2⟩
  | .ins c ns xs, h => by
    obtain ⟨C, dx, fs, h1, h2, h3, h4⟩ := h
    exact ⟨C, dx, fs, by rw [e]; exact h1, h2, h3, RepL.mono hm hs _ _ h4⟩
  | .tab q, h => by
    obtain ⟨c, ps, h1, h2, h3, h4⟩ := h
    exact ⟨c, ps, h1, by rw [e]; exact h2, h3, fun pos cv hc => let ⟨c', e1, e2⟩ := h4 pos cv hc; ⟨c', e1, hs _ _ e2⟩⟩
  | .dS ks xs, h => by
    obtain ⟨vs, h1, h2, h3, h4⟩ := h
    exact ⟨vs, by rw [e]; exact h1, h2, RepL.mono hm hs _ _ h3, h4⟩
  | .dM ks xs, h => by
    obtain ⟨o, es, ep, h1, h2, h3, h4, h5, h6⟩ := h
    exact ⟨o, es, ep, by rw [e]; exact h1, h2, h3, h4, EntR.mono hm hs h5, h6⟩
/-- of a cell: no tuple, nothing that is known whole -/
theorem CellR.what {H : Hp} {a : Addr} : ∀ {c : Cell}, CellR K mg m S H a c → (∀ vs, H a ≠ some (.tup vs)) ∧ ∀ o u, H a ≠ some (.frz o u)
  | .lst xs, h => let ⟨vs, h1, _⟩ := h; ⟨fun vs e => (by rw [h1] at e; cases e), fun o u e => (by rw [h1] at e; cases e)⟩
  | .ins c ns xs, h => let ⟨_, _, _, h1, _⟩ := h; ⟨fun vs e => (by rw [h1] at e; cases e), fun o u e => (by rw [h1] at e; cases e)⟩
  | .tab q, h => let ⟨_, _, _, h1, _⟩ := h; ⟨fun vs e => (by rw [h1] at e; cases e), fun o u e => (by rw [h1] at e; cases e)⟩
  | .dS ks xs, h => let ⟨_, h1, _⟩ := h; ⟨fun vs e => (by rw [h1] at e; cases e), fun o u e => (by rw [h1] at e; cases e)⟩
  | .dM ks xs, h => let ⟨_, _, _, h1, _⟩ := h; ⟨fun vs e => (by rw [h1] at e; cases e), fun o u e => (by rw [h1] at e; cases e)⟩
end

section
variable {K : PySem.W.Frag} {mg : Str → Option Value} {Z m m1 m2 : List Addr} {H H1 H2 : Hp} {h h1 : CH}
theorem Ext.refl : Ext Z m H m H := ⟨fun _ _ e => e, Sub.refl, fun _ _ => rfl⟩
theorem Ext.trans (a : Ext Z m H m1 H1) (b : Ext Z m1 H1 m2 H2) : Ext Z m H m2 H2 :=
  ⟨fun n x e => b.pre n x (a.pre n x e), a.st.trans b.st, fun x hx => (b.zs x hx).trans (a.zs x hx)⟩
theorem Ext.rep (e : Ext Z m H m1 H1) {d : D} {v : V} (r : Rep K mg m (hide (Z ++ m) H) d v) : Rep K mg m1 (hide (Z ++ m1) H1) d v := Rep.mono e.pre e.st d v r
theorem Ext.repL (e : Ext Z m H m1 H1) {d : List D} {v : List V} (r : RepL K mg m (hide (Z ++ m) H) d v) : RepL K mg m1 (hide (Z ++ m1) H1) d v := RepL.mono e.pre e.st d v r
theorem Ext.env (e : Ext Z m H m1 H1) {ρ : Env} {σ : St} (r : REnv K mg m (hide (Z ++ m) H) ρ σ) : REnv K mg m1 (hide (Z ++ m1) H1) ρ σ := REnv.mono e.pre e.st ρ σ r
theorem HeapOk.at (x : HeapOk K mg Z m h H) {n : Nat} {c : Cell} (e : h[n]? = some c) : ∃ a, m[n]? = some a ∧ CellR K mg m (hide (Z ++ m) H) H a c := by
  have hn : n < m.length := by
    rw [x.len]
    exact (List.getElem?_eq_some_iff.mp e).1
  exact ⟨m[n], List.getElem?_eq_getElem hn, x.cell n c _ e (List.getElem?_eq_getElem hn)⟩
theorem HeapOk.there (x : HeapOk K mg Z m h H) {a : Addr} (ha : a ∈ Z ++ m) : ∃ o, H a = some o := by
  rcases List.mem_append.mp ha with z | z
  · exact x.ex a z
  · obtain ⟨n, hn, e⟩ := List.mem_iff_getElem.mp z
    have hc : n < h.length := by rw [← x.len]; exact hn
    have q := x.cell n _ a (List.getElem?_eq_getElem hc) (by rw [List.getElem?_eq_getElem hn, e])
    exact q.there
theorem HeapOk.out (x : HeapOk K mg Z m h H) {p : Addr} (hp : H p = none) : p ∉ Z ++ m := fun z => by
  obtain ⟨o, e⟩ := x.there z
  rw [hp] at e; cases e
/-- a new thing that stands still -/
theorem Ext.laid (x : HeapOk K mg Z m h H) {p : Addr} {o : HO} (hp : H p = none) : Ext Z m H m (upd H p o) := by
  refine ⟨fun _ _ e => e, fun a u e => ?_, fun a ha => upd_ne fun z => ?_⟩
  · obtain ⟨h1, h2⟩ := hide_some e
    exact hide_of h1 (by rw [upd_ne (ne_of_none h2 hp)]; exact h2)
  · subst z
    exact x.out hp (List.mem_append_left _ ha)
theorem HeapOk.laid (x : HeapOk K mg Z m h H) {p : Addr} {o : HO} (hp : H p = none) : HeapOk K mg Z m h (upd H p o) := by
  have ex := Ext.laid (o := o) x hp
  have out := x.out hp
  refine ⟨x.len, x.nd, x.dj, fun a ha => ?_, fun n c a h1 h2 => ?_⟩
  · rw [ex.zs a ha]; exact x.ex a ha
  · have ne : a ≠ p := fun z => out (List.mem_append_right _ (by rw [← z]; exact List.mem_of_getElem? h2))
    exact CellR.mono (fun _ _ e => e) ex.st (upd_ne ne) (x.cell n c a h1 h2)
/-- .. and is read as it was laid -/
theorem HeapOk.seen (x : HeapOk K mg Z m h H) {p : Addr} {o : HO} (hp : H p = none) : hide (Z ++ m) (upd H p o) p = some o := hide_of (x.out hp) upd_same

section
variable {α β γ δ : Type} {relA : List Addr → Hp → α → γ → Prop} {relB : List Addr → Hp → β → δ → Prop} {W : WX} {σ : St}
/-- what comes first, then what follows -/
theorem PostG.bind {x : M α} {f : α → M β} {Q : δ → Hp → Prop} (p : PostG K mg relB W σ Z m H (M.bind x f h) Q) :
    PostG K mg relA W σ Z m H (x h) (fun v H' => ∃ d m' h', Ext Z m H m' H' ∧ HeapOk K mg Z m' h' H' ∧ relA m' (hide (Z ++ m') H') d v ∧ x h = .ok d h' ∧ PostG K mg relB W σ Z m' H' (f d h') Q) := by
  unfold M.bind at p
  cases e : x h with
  | ok d h1 =>
    rw [e] at p
    intro v m' H' ex hk r
    refine ⟨d, m', h1, ex, hk, r, rfl, ?_⟩
    have p : PostG K mg relB W σ Z m H (f d h1) Q := p
    cases e2 : f d h1 with
    | ok d2 h2 => rw [e2] at p; exact fun v' m'' H'' ex' hk' r' => p v' m'' H'' (ex.trans ex') hk' r'
    | exc c h2 => rw [e2] at p; exact fun m'' H'' cls ex' hk' hc => p m'' H'' cls (ex.trans ex') hk' hc
    | bad => rw [e2] at p; exact p
  | exc c h1 => rw [e] at p; exact p
  | bad => rw [e] at p; exact p
theorem PostG.imp {r : R α} {Q Q' : γ → Hp → Prop} (p : PostG K mg relA W σ Z m H r Q) (i : ∀ v H', Q v H' → Q' v H') : PostG K mg relA W σ Z m H r Q' := by
  cases r with
  | ok d h1 => exact fun v m' H' ex hk r => i _ _ (p v m' H' ex hk r)
  | exc c h1 => exact p
  | bad => exact p
/-- shift the start -/
theorem PostG.from {r : R α} {Q : γ → Hp → Prop} (ex : Ext Z m H m1 H1) (p : PostG K mg relA W σ Z m H r Q) : PostG K mg relA W σ Z m1 H1 r Q := by
  cases r with
  | ok d h1 => exact fun v m' H' ex' hk r => p v m' H' (ex.trans ex') hk r
  | exc c h1 => exact fun m' H' cls ex' hk hc => p m' H' cls (ex.trans ex') hk hc
  | bad => exact p
end
end
end FK

/-! part: FK2 -/
set_option Elab.async false
set_option linter.all false
set_option maxRecDepth 100000
set_option maxHeartbeats 4000000
/-! FK2: operators on data, expressions. -/
namespace FK
open PySem PySem.Spec L2

/-! ### the data's own functions -/
mutual
def D.py : D → PyData
  | .non => .none
  | .bl b => .bool b
  | .int i => .int i
  | .str x => .str x
  | .tup xs => .tuple (D.pyL xs)
  | .lst xs => .list (D.pyL xs)
  | .scr xs => .list (D.pyL xs)
  | .obj _ _ _ => .none
  | .ref _ => .none
def D.pyL : List D → List PyData
  | [] => []
  | d :: ds => D.py d :: D.pyL ds
end
mutual
/-- no objects, no cells in it -/
def D.dat : D → Bool
  | .tup xs => D.datL xs
  | .lst xs => D.datL xs
  | .scr xs => D.datL xs
  | .obj _ _ _ => false
  | .ref _ => false
  | _ => true
def D.datL : List D → Bool
  | [] => true
  | d :: ds => D.dat d && D.datL ds
end
mutual
def D.dep : D → Nat
  | .tup xs => D.depL xs + 1
  | .lst xs => D.depL xs + 1
  | .scr xs => D.depL xs + 1
  | _ => 0
def D.depL : List D → Nat
  | [] => 0
  | d :: ds => max (D.dep d) (D.depL ds)
end
def D.eqb (x y : D) : Bool := PyData.eqv x.py y.py
mutual
theorem D.dep_py : ∀ d : D, d.dat = true → d.py.depth = d.dep
  | .non, _ => rfl
  | .bl _, _ => rfl
  | .int _, _ => rfl
  | .str _, _ => rfl
  | .tup xs, h => by
    show PyData.depthAll (D.pyL xs) + 1 = D.depL xs + 1
    rw [D.depL_py xs (by simpa [D.dat] using h)]
  | .lst xs, h => by
    show PyData.depthAll (D.pyL xs) + 1 = D.depL xs + 1
    rw [D.depL_py xs (by simpa [D.dat] using h)]
  | .scr xs, h => by
    show PyData.depthAll (D.pyL xs) + 1 = D.depL xs + 1
    rw [D.depL_py xs (by simpa [D.dat] using h)]
  | .obj _ _ _, h => by simp [D.dat] at h
  | .ref _, h => by simp [D.dat] at h
theorem D.depL_py : ∀ ds : List D, D.datL ds = true → PyData.depthAll (D.pyL ds) = D.depL ds
  | [], _ => rfl
  | d :: ds, h => by
    have h' : d.dat = true ∧ D.datL ds = true := by simpa [D.datL] using h
    show max (PyData.depth d.py) (PyData.depthAll (D.pyL ds)) = max (D.dep d) (D.depL ds)
    rw [D.dep_py d h'.1, D.depL_py ds h'.2]
end
section
variable {K : PySem.W.Frag} {mg : Str → Option Value} {m : List Addr} {S H : Hp}
mutual
theorem Rep.dp (hs : Sub S H) : ∀ (d : D) (v : V), Rep K mg m S d v → d.dat = true → Dp K H v d.py
  | .non, v, h, _ => by simp [Rep] at h; subst h; exact .non
  | .bl b, v, h, _ => by simp [Rep] at h; subst h; exact .bl b
  | .int i, v, h, _ => by simp [Rep] at h; subst h; exact .int i
  | .str x, v, h, _ => by simp [Rep] at h; obtain ⟨rfl, _⟩ := h; exact .str x
  | .tup xs, v, h, q => by
    unfold Rep at h
    obtain ⟨a, vs, rfl, h1, h2⟩ := h
    exact .tup (hs.sqt h1) (RepL.dp hs xs vs h2 (by simpa [D.dat] using q))
  | .lst xs, v, h, q => by
    unfold Rep at h
    obtain ⟨a, vs, rfl, h1, h2⟩ := h
    exact .lst (SqL.of (hs _ _ h1)) (RepL.dp hs xs vs h2 (by simpa [D.dat] using q))
  | .scr xs, v, h, q => by
    unfold Rep at h
    obtain ⟨a, vs, rfl, h1, h2⟩ := h
    exact .lst (hs.sql h1) (RepL.dp hs xs vs h2 (by simpa [D.dat] using q))
  | .obj _ _ _, _, _, q => by simp [D.dat] at q
  | .ref _, _, _, q => by simp [D.dat] at q
theorem RepL.dp (hs : Sub S H) : ∀ (ds : List D) (vs : List V), RepL K mg m S ds vs → D.datL ds = true → DpAll K H vs (D.pyL ds)
  | [], vs, h, _ => by rw [h.of_nil]; exact .nil
  | d :: ds, vs, h, q => by
    obtain ⟨v, r, rfl, h1, h2⟩ := h.of_cons
    have q' : d.dat = true ∧ D.datL ds = true := by simpa [D.datL] using q
    exact .cons (Rep.dp hs d v h1 q'.1) (RepL.dp hs ds r h2 q'.2)
end
mutual
theorem Rep.lay : ∀ (d : D) (v : V), Rep K mg m S d v → d.dat = true → d.py.canLay0 = true
  | .non, v, h, _ => rfl
  | .bl b, v, h, _ => rfl
  | .int i, v, h, _ => rfl
  | .str x, v, h, _ => by simp [Rep] at h; exact h.2
  | .tup xs, v, h, q => by
    unfold Rep at h
    obtain ⟨a, vs, rfl, h1, h2⟩ := h
    exact RepL.lay xs vs h2 (by simpa [D.dat] using q)
  | .lst xs, v, h, q => by
    unfold Rep at h
    obtain ⟨a, vs, rfl, h1, h2⟩ := h
    exact RepL.lay xs vs h2 (by simpa [D.dat] using q)
  | .scr xs, v, h, q => by
    unfold Rep at h
    obtain ⟨a, vs, rfl, h1, h2⟩ := h
    exact RepL.lay xs vs h2 (by simpa [D.dat] using q)
  | .obj _ _ _, _, _, q => by simp [D.dat] at q
  | .ref _, _, _, q => by simp [D.dat] at q
theorem RepL.lay : ∀ (ds : List D) (vs : List V), RepL K mg m S ds vs → D.datL ds = true → PyData.canLayAll0 (D.pyL ds) = true
  | [], vs, h, _ => rfl
  | d :: ds, vs, h, q => by
    obtain ⟨v, r, rfl, h1, h2⟩ := h.of_cons
    have q' : d.dat = true ∧ D.datL ds = true := by simpa [D.datL] using q
    show (PyData.canLay0 d.py && PyData.canLayAll0 (D.pyL ds)) = true
    rw [Rep.lay d v h1 q'.1, RepL.lay ds r h2 q'.2]
    rfl
end
end
/-- a cell that is a list is read as one -/
def vw (h : CH) : D → D
  | .ref n => match h[n]? with
    | some (.lst xs) => .lst xs
    | _ => .ref n
  | d => d
/-- what may be walked, counted, indexed -/
def seq (h : CH) (d : D) : Option (List D) :=
  match vw h d with
  | .tup xs => some xs
  | .lst xs => some xs
  | .scr xs => some xs
  | _ => none
/-- lists that are tracked -/
def lstOf (h : CH) (d : D) : Option (List D) :=
  match vw h d with
  | .lst xs => some xs
  | _ => none
section
variable {K : PySem.W.Frag} {mg : Str → Option Value} {Z m : List Addr} {H : Hp} {h : CH}
/-- a list as it stands in H -/
theorem HeapOk.rlst (x : HeapOk K mg Z m h H) {d : D} {v : V} (r : Rep K mg m (hide (Z ++ m) H) d v) {xs : List D} (e : vw h d = .lst xs) :
    ∃ a vs, v = .ref a ∧ H a = some (.lst vs) ∧ RepL K mg m (hide (Z ++ m) H) xs vs := by
  cases d with
  | ref n =>
    unfold Rep at r
    obtain ⟨a, h1, rfl⟩ := r
    have e : (match h[n]? with | some (.lst xs) => D.lst xs | _ => .ref n) = .lst xs := e
    cases hc : h[n]? with
    | none => rw [hc] at e; cases e
    | some c =>
      rw [hc] at e
      cases c with
      | lst ys =>
        cases e
        obtain ⟨vs, g1, g2⟩ := x.cell n _ a hc h1
        exact ⟨a, vs, rfl, g1, g2⟩
      | _ => cases e
  | lst ys =>
    cases e
    unfold Rep at r
    obtain ⟨a, vs, e1, h1, h2⟩ := r
    exact ⟨a, vs, e1, (hide_some h1).2, h2⟩
  | _ => cases e
theorem HeapOk.rtup {d : D} {v : V} (r : Rep K mg m (hide (Z ++ m) H) d v) {xs : List D} (e : vw h d = .tup xs) :
    ∃ a vs, v = .ref a ∧ SqT K H a vs ∧ RepL K mg m (hide (Z ++ m) H) xs vs := by
  cases d with
  | ref n =>
    have e : (match h[n]? with | some (.lst xs) => D.lst xs | _ => .ref n) = .tup xs := e
    split at e <;> cases e
  | tup ys =>
    cases e
    unfold Rep at r
    obtain ⟨a, vs, e1, h1, h2⟩ := r
    exact ⟨a, vs, e1, hide_sub.sqt h1, h2⟩
  | _ => cases e
theorem HeapOk.rscr {d : D} {v : V} (r : Rep K mg m (hide (Z ++ m) H) d v) {xs : List D} (e : vw h d = .scr xs) :
    ∃ a vs, v = .ref a ∧ SqL K H a vs ∧ RepL K mg m (hide (Z ++ m) H) xs vs := by
  cases d with
  | ref n =>
    have e : (match h[n]? with | some (.lst xs) => D.lst xs | _ => .ref n) = .scr xs := e
    split at e <;> cases e
  | scr ys =>
    cases e
    unfold Rep at r
    obtain ⟨a, vs, e1, h1, h2⟩ := r
    exact ⟨a, vs, e1, hide_sub.sql h1, h2⟩
  | _ => cases e
theorem HeapOk.rseq (x : HeapOk K mg Z m h H) {d : D} {v : V} (r : Rep K mg m (hide (Z ++ m) H) d v) {xs : List D} (e : seq h d = some xs) :
    ∃ a vs, v = .ref a ∧ (SqL K H a vs ∨ SqT K H a vs) ∧ RepL K mg m (hide (Z ++ m) H) xs vs := by
  unfold seq at e
  cases hv : vw h d with
  | tup ys =>
    rw [hv] at e; cases e
    obtain ⟨a, vs, e1, h1, h2⟩ := HeapOk.rtup r hv
    exact ⟨a, vs, e1, .inr h1, h2⟩
  | lst ys =>
    rw [hv] at e; cases e
    obtain ⟨a, vs, e1, h1, h2⟩ := x.rlst r hv
    exact ⟨a, vs, e1, .inl (SqL.of h1), h2⟩
  | scr ys =>
    rw [hv] at e; cases e
    obtain ⟨a, vs, e1, h1, h2⟩ := HeapOk.rscr r hv
    exact ⟨a, vs, e1, .inl h1, h2⟩
  | _ => rw [hv] at e; cases e
theorem HeapOk.rlstOf (x : HeapOk K mg Z m h H) {d : D} {v : V} (r : Rep K mg m (hide (Z ++ m) H) d v) {xs : List D} (e : lstOf h d = some xs) :
    ∃ a vs, v = .ref a ∧ H a = some (.lst vs) ∧ RepL K mg m (hide (Z ++ m) H) xs vs := by
  unfold lstOf at e
  cases hv : vw h d with
  | lst ys => rw [hv] at e; cases e; exact x.rlst r hv
  | _ => rw [hv] at e; cases e
/-- as data, in H -/
theorem HeapOk.dp (x : HeapOk K mg Z m h H) {d : D} {v : V} (r : Rep K mg m (hide (Z ++ m) H) d v) (q : (vw h d).dat = true) : Dp K H v (vw h d).py ∧ (vw h d).py.canLay0 = true := by
  cases hv : vw h d with
  | lst xs =>
    obtain ⟨a, vs, rfl, h1, h2⟩ := x.rlst r hv
    rw [hv] at q
    have q' : D.datL xs = true := by simpa [D.dat] using q
    exact ⟨.lst (SqL.of h1) (RepL.dp hide_sub xs vs h2 q'), RepL.lay xs vs h2 q'⟩
  | ref n => rw [hv] at q; simp [D.dat] at q
  | obj c ns xs => rw [hv] at q; simp [D.dat] at q
  | _ =>
    have e : vw h d = d := by
      cases d with
      | ref n =>
        exfalso
        have hv' : (match h[n]? with | some (.lst xs) => D.lst xs | _ => .ref n) = _ := hv
        split at hv' <;> cases hv'
      | _ => rfl
    obtain rfl := hv.symm.trans e
    exact ⟨Rep.dp hide_sub _ v r q, Rep.lay _ v r q⟩
end

/-! ### operators, by data -/
def dAdd (x y : D) : M D := fun h =>
  match x, y with
  | .int i, .int j => .ok (.int (i + j)) h
  | .str a, .str b => if a.length + b.length ≤ sizeLine then .ok (.str (a ++ b)) h else .bad
  | .tup xs, .tup ys => if xs.length + ys.length ≤ sizeLine then .ok (.tup (xs ++ ys)) h else .bad
  | x, y => match lstOf h x, lstOf h y with
    | some xs, some ys => if xs.length + ys.length ≤ sizeLine then .ok (.lst (xs ++ ys)) h else .bad
    | _, _ => .bad
def dSub (x y : D) : M D := fun h =>
  match x, y with
  | .int i, .int j => .ok (.int (i - j)) h
  | _, _ => .bad
/-- bounds are asked with a classical instance: the kernel then never counts down from a bound -/
noncomputable def dMul (x y : D) : M D := fun h =>
  match x, y with
  | .int i, .int j => @ite _ ((-(2 ^ 64) < i ∧ i < 2 ^ 64) ∨ (-(2 ^ 64) < j ∧ j < 2 ^ 64)) (Classical.propDecidable _) (.ok (.int (i * j)) h) .bad
  | .str a, .int n => @ite _ (n < 2 ^ 31 ∧ -(2 ^ 31) < n ∧ a.length * n.toNat ≤ sizeLine) (Classical.propDecidable _) (.ok (.str (Txt.mul a n)) h) .bad
  | _, _ => .bad
noncomputable def dFdiv (x y : D) : M D := fun h =>
  match x, y with
  | .int i, .int j => @ite _ (0 < j ∧ j < 1073741824) (Classical.propDecidable _) (.ok (.int (i / j)) h) .bad
  | _, _ => .bad
def dMod (x y : D) : M D := fun h =>
  match x, y with
  | .int i, .int j => if 0 < j then .ok (.int (i % j)) h else .bad
  | _, _ => .bad
def dEq (x y : D) : M D := fun h =>
  if (vw h x).dat = true ∧ (vw h y).dat = true ∧ min (vw h x).dep (vw h y).dep ≤ 60 then .ok (.bl ((vw h x).eqb (vw h y))) h else .bad
def dNe (x y : D) : M D := fun h =>
  if (vw h x).dat = true ∧ (vw h y).dat = true ∧ min (vw h x).dep (vw h y).dep ≤ 60 then .ok (.bl (!(vw h x).eqb (vw h y))) h else .bad
/-- tuples of ints -/
def intsD : List D → Option (List Int)
  | [] => some []
  | .int i :: r => (intsD r).map (i :: ·)
  | _ => none
def dLt (x y : D) : M D := fun h =>
  match x, y with
  | .int i, .int j => .ok (.bl (decide (i < j))) h
  | .str a, .str b => .ok (.bl (decide (a.cps.toList < b.cps.toList))) h
  | .tup xs, .tup ys => match intsD xs, intsD ys with
    | some ns, some ms => .ok (.bl (HT.lexLt ns ms)) h
    | _, _ => .bad
  | _, _ => .bad
def dLe (x y : D) : M D := fun h =>
  match x, y with
  | .int i, .int j => .ok (.bl (decide (i ≤ j))) h
  | _, _ => .bad
def dGt (x y : D) : M D := fun h =>
  match x, y with
  | .int i, .int j => .ok (.bl (decide (j < i))) h
  | _, _ => .bad
def dGe (x y : D) : M D := fun h =>
  match x, y with
  | .int i, .int j => .ok (.bl (decide (j ≤ i))) h
  | _, _ => .bad
def D.isNon : D → Bool
  | .non => true
  | _ => false
def dIs (x y : D) : M D := fun h =>
  match y with
  | .non => .ok (.bl x.isNon) h
  | _ => .bad
def dIsnt (x y : D) : M D := fun h =>
  match y with
  | .non => .ok (.bl (!x.isNon)) h
  | _ => .bad
def inb (x : D) (ys : List D) : Bool := ys.any fun y => D.eqb y x
def dIn (x c : D) : M D := fun h =>
  match seq h c with
  | some ys => if (vw h x).dat = true ∧ D.datL ys = true ∧ (vw h x).dep ≤ 60 then .ok (.bl (inb (vw h x) ys)) h else .bad
  | none => .bad
def dNotIn (x c : D) : M D := fun h =>
  match seq h c with
  | some ys => if (vw h x).dat = true ∧ D.datL ys = true ∧ (vw h x).dep ≤ 60 then .ok (.bl (!inb (vw h x) ys)) h else .bad
  | none => .bad
def dIdx (x i : D) : M D := fun h =>
  match i with
  | .int k => match x with
    | .str a => match atI a.cps.toList k with
      | some c => if a.length ≤ sizeLine then .ok (.str ⟨#[c]⟩) h else .bad
      | none => .bad
    | x => match seq h x with
      | some xs => match atI xs k with
        | some d => .ok d h
        | none => .bad
      | none => .bad
  | _ => .bad

/-! ### the canonical readings -/
section
variable (K : PySem.W.Frag) (mg : Str → Option Value) (W : WX)
def rD2 (op : D → D → M D) : R2 := fun vx vy H Q => ∃ Z m h σ x y, HeapOk K mg Z m h H ∧ Rep K mg m (hide (Z ++ m) H) x vx ∧ Rep K mg m (hide (Z ++ m) H) y vy ∧ Post K mg W σ Z m H (op x y h) Q
def rD1 (op : D → M D) : V → Hp → VK → Prop := fun vx H Q => ∃ Z m h σ x, HeapOk K mg Z m h H ∧ Rep K mg m (hide (Z ++ m) H) x vx ∧ Post K mg W σ Z m H (op x h) Q
def rDL (op : List D → M D) : List V → Hp → VK → Prop := fun vs H Q => ∃ Z m h σ ds, HeapOk K mg Z m h H ∧ RepL K mg m (hide (Z ++ m) H) ds vs ∧ Post K mg W σ Z m H (op ds h) Q
def rDM (op : D → List D → M D) : V → List V → Hp → VK → Prop := fun vx vs H Q => ∃ Z m h σ x ds, HeapOk K mg Z m h H ∧ Rep K mg m (hide (Z ++ m) H) x vx ∧ RepL K mg m (hide (Z ++ m) H) ds vs ∧ Post K mg W σ Z m H (op x ds h) Q
end
def e1 (op : D → M D) (f : ED) : ED := fun ρ => M.bind (f ρ) op
def e2 (op : D → D → M D) (f g : ED) : ED := fun ρ => M.bind (f ρ) fun x => M.bind (g ρ) fun y => op x y
def eC (d : D) : ED := fun _ => M.pure d
def eVar (i : Nat) : ED := fun ρ h =>
  match ρ[i]? with
  | some (some d) => .ok d h
  | _ => .bad

section
variable {X : Cx} {W : WX} {e a b : Expr} {f g : ED} {pos : Pos}
/-- a reading is chosen state by state -/
theorem pick {t : TE} (h : ∀ σ H Q, t σ H Q → ∃ t', PE X e t' ∧ t' σ H Q) : PE X e t := ⟨fun pins s σ H Q I q => by
  obtain ⟨t', p, q'⟩ := h σ H Q q
  exact p.run pins s σ H Q I q'⟩
theorem den1 {r : V → Hp → VK → Prop} {op : D → M D} {K : PySem.W.Frag} {mg : Str → Option Value} {σ : L2.St} {H : Hp} {Q : VK} (h : tD K mg W (e1 op f) σ H Q) (hr : ∀ v H Q, rD1 K mg W op v H Q → r v H Q) :
    tD K mg W f σ H (fun x H1 => r x H1 Q) := by
  obtain ⟨Z, m, ρ, c, at', p⟩ := h
  refine ⟨Z, m, ρ, c, at', (PostG.bind p).imp fun v H' ⟨d, m', h', ex, hk, rp, _, q⟩ => hr _ _ _ ⟨Z, m', h', σ, d, hk, rp, q⟩⟩
theorem den2 {r : R2} {op : D → D → M D} {K : PySem.W.Frag} {mg : Str → Option Value} {σ : L2.St} {H : Hp} {Q : VK} (h : tD K mg W (e2 op f g) σ H Q) (hr : ∀ v u H Q, rD2 K mg W op v u H Q → r v u H Q) : tOp r (tD K mg W f) (tD K mg W g) σ H Q := by
  obtain ⟨Z, m, ρ, c, at', p⟩ := h
  refine ⟨Z, m, ρ, c, at', (PostG.bind p).imp fun v H1 ⟨d, m1, h1, ex, hk, rp, _, q⟩ => ?_⟩
  refine ⟨Z, m1, ρ, h1, ⟨hk, ex.env at'.en⟩, (PostG.bind q).imp fun u H2 ⟨d2, m2, h2, ex2, hk2, rp2, _, q2⟩ => ?_⟩
  exact hr _ _ _ _ ⟨Z, m2, h2, σ, d, d2, hk2, ex2.rep rp, rp2, q2⟩
theorem se_op {op : Operator} {o : D → D → M D} (ho : OpR X (binaryOp op) (rD2 X.K X.mg W o)) (ha : PE X a (tD X.K X.mg W f)) (hb : PE X b (tD X.K X.mg W g)) : PE X (.BinOp a op b pos) (tD X.K X.mg W (e2 o f g)) :=
  pick fun σ H Q h => ⟨_, pe_op ho ha hb, den2 h fun _ _ _ _ q => q⟩
theorem se_cmp {op : CmpOp} {o : D → D → M D} (ho : OpR X (compareOp op) (rD2 X.K X.mg W o)) (ha : PE X a (tD X.K X.mg W f)) (hb : PE X b (tD X.K X.mg W g)) (hm : behindInMarks op b = false) : PE X (.Compare a [op] [b] pos) (tD X.K X.mg W (e2 o f g)) :=
  pick fun σ H Q h => ⟨_, pe_cmpR ho ha hb hm, den2 h fun _ _ _ _ q => q⟩
theorem se_idx (ha : PE X a (tD X.K X.mg W f)) (hb : PE X b (tD X.K X.mg W g)) (ho : IxR X (rD2 X.K X.mg W dIdx)) (hs : PlainIx b := by exact fun _ _ => rfl) : PE X (.Subscript a b pos) (tD X.K X.mg W (e2 dIdx f g)) :=
  pick fun σ H Q h => ⟨_, pe_ix ho ha hb hs, den2 h fun _ _ _ _ q => q⟩

/-! ### names and constants -/
theorem se_var {i : Nat} {x : Str} (hN : X.N[i]? = some x) (hv : Vis X.env.scope x) (hd : (x == ("__debug__" : Str)) = false := by decide) (hcd : (x == ("__classdict__" : Str)) = false := by decide) : PE X (.Name x pos) (tD X.K X.mg W (eVar i)) :=
  pick fun σ H Q ⟨Z, m, ρ, c, at', p⟩ => ⟨_, pe_var hN hv hd hcd, by
    unfold eVar at p
    cases e : ρ[i]? with
    | none => rw [e] at p; exact p.elim
    | some o =>
      cases o with
      | none => rw [e] at p; exact p.elim
      | some d =>
        rw [e] at p
        obtain ⟨v, h1, h2⟩ := at'.en.get e
        exact ⟨v, h1, p v m H Ext.refl at'.hk h2⟩⟩
theorem tC_of {K : PySem.W.Frag} {mg : Str → Option Value} {d : D} {v : V} {σ : L2.St} {H : Hp} {Q : VK} (h : tD K mg W (eC d) σ H Q) (hr : ∀ m S, Rep K mg m S d v) : tC v σ H Q := by
  obtain ⟨Z, m, ρ, c, at', p⟩ := h
  exact p v m H Ext.refl at'.hk (hr _ _)
theorem se_int {i j} : PE X (.Constant (.int i) j pos) (tD X.K X.mg W (eC (.int i))) := pick fun σ H Q h => ⟨_, pe_int, tC_of h fun _ _ => by unfold Rep; rfl⟩
theorem se_bl {i j} : PE X (.Constant (.bool i) j pos) (tD X.K X.mg W (eC (.bl i))) := pick fun σ H Q h => ⟨_, pe_bl, tC_of h fun _ _ => by unfold Rep; rfl⟩
theorem se_non {j} : PE X (.Constant .none j pos) (tD X.K X.mg W (eC .non)) := pick fun σ H Q h => ⟨_, pe_non, tC_of h fun _ _ => by unfold Rep; rfl⟩
theorem se_str {x : Str} {j} (hx : PyData.strOk x = true := by decide +kernel) : PE X (.Constant (.str x) j pos) (tD X.K X.mg W (eC (.str x))) := pick fun σ H Q h => ⟨_, pe_str, tC_of h fun _ _ => by unfold Rep; exact ⟨rfl, hx⟩⟩
end
end FK

/-! part: FK3 -/
set_option Elab.async false
set_option linter.all false
set_option maxRecDepth 100000
set_option maxHeartbeats 4000000
/-! FK3: each operator on data is the model's. -/
namespace FK
open PySem PySem.Spec L2

/-! ### texts that stay texts -/
theorem ok_app {a b : Str} (ha : PyData.strOk a = true) (hb : PyData.strOk b = true) : PyData.strOk (a ++ b) = true := by
  unfold PyData.strOk at *
  show (a.cps ++ b.cps).all _ = true
  rw [Array.all_append, ha, hb]
  rfl
theorem ok_iff {a : Str} : PyData.strOk a = true ↔ ∀ c ∈ a.cps.toList, c < 0x110000 := by
  unfold PyData.strOk
  rw [Array.all_eq_true_iff_forall_mem]
  simp
theorem ok_one {a : Str} (ha : PyData.strOk a = true) {c : Nat} (h : c ∈ a.cps.toList) : PyData.strOk ⟨#[c]⟩ = true := by
  rw [ok_iff] at *
  intro x hx
  simp at hx
  subst hx
  exact ha _ h
section
variable {K : PySem.W.Frag} {mg : Str → Option Value} {m : List Addr} {S : Hp}
theorem RepL.eq_nil : ∀ {ds : List D}, RepL K mg m S ds [] → ds = []
  | [], _ => rfl
  | d :: ds, h => by
    obtain ⟨v, r, e, _⟩ := h.of_cons
    cases e
theorem rep_int {i : Int} {v : V} (h : Rep K mg m S (.int i) v) : v = .int i := by unfold Rep at h; exact h
theorem rep_bl {i : Bool} {v : V} (h : Rep K mg m S (.bl i) v) : v = .bl i := by unfold Rep at h; exact h
theorem rep_non {v : V} (h : Rep K mg m S .non v) : v = .non := by unfold Rep at h; exact h
theorem rep_str {x : Str} {v : V} (h : Rep K mg m S (.str x) v) : v = .str x ∧ PyData.strOk x = true := by unfold Rep at h; exact h
theorem rep_tup {xs : List D} {v : V} (h : Rep K mg m S (.tup xs) v) : ∃ a vs, v = .ref a ∧ SqT K S a vs ∧ RepL K mg m S xs vs := by unfold Rep at h; exact h
theorem mk_int (i : Int) : Rep K mg m S (.int i) (.int i) := by unfold Rep; rfl
theorem mk_bl (i : Bool) : Rep K mg m S (.bl i) (.bl i) := by unfold Rep; rfl
theorem mk_non : Rep K mg m S .non .non := by unfold Rep; rfl
theorem mk_str {x : Str} (h : PyData.strOk x = true) : Rep K mg m S (.str x) (.str x) := by unfold Rep; exact ⟨rfl, h⟩
end
section
variable {K : PySem.W.Frag} {mg : Str → Option Value} {Z m : List Addr} {H : Hp} {h : CH} {W : WX} {σ : L2.St} {Q : VK}
/-- a new tuple -/
theorem put_tup (hk : HeapOk K mg Z m h H) {ds : List D} {vs : List V} (r : RepL K mg m (hide (Z ++ m) H) ds vs) (p : Post K mg W σ Z m H (.ok (.tup ds) h) Q) : ∀ l, H l = none → Q (.ref l) (upd H l (.tup vs)) := fun l hl => by
  have ex := Ext.laid (o := .tup vs) hk hl
  refine p _ m _ ex (hk.laid hl) ?_
  unfold Rep
  exact ⟨l, vs, rfl, SqT.of (hk.seen hl), ex.repL r⟩
/-- a new list that stands still -/
theorem put_lst (hk : HeapOk K mg Z m h H) {ds : List D} {vs : List V} (r : RepL K mg m (hide (Z ++ m) H) ds vs) (p : Post K mg W σ Z m H (.ok (.lst ds) h) Q) : ∀ l, H l = none → Q (.ref l) (upd H l (.lst vs)) := fun l hl => by
  have ex := Ext.laid (o := .lst vs) hk hl
  refine p _ m _ ex (hk.laid hl) ?_
  unfold Rep
  exact ⟨l, vs, rfl, hk.seen hl, ex.repL r⟩
theorem put_int (hk : HeapOk K mg Z m h H) {i : Int} (p : Post K mg W σ Z m H (.ok (.int i) h) Q) : Q (.int i) H := p _ m H Ext.refl hk (mk_int i)
theorem put_bl (hk : HeapOk K mg Z m h H) {i : Bool} (p : Post K mg W σ Z m H (.ok (.bl i) h) Q) : Q (.bl i) H := p _ m H Ext.refl hk (mk_bl i)
theorem put_non (hk : HeapOk K mg Z m h H) (p : Post K mg W σ Z m H (.ok .non h) Q) : Q .non H := p _ m H Ext.refl hk mk_non
theorem put_str (hk : HeapOk K mg Z m h H) {x : Str} (hx : PyData.strOk x = true) (p : Post K mg W σ Z m H (.ok (.str x) h) Q) : Q (.str x) H := p _ m H Ext.refl hk (mk_str hx)
theorem put_old (hk : HeapOk K mg Z m h H) {d : D} {v : V} (r : Rep K mg m (hide (Z ++ m) H) d v) (p : Post K mg W σ Z m H (.ok d h) Q) : Q v H := p _ m H Ext.refl hk r
end

/-! ### arithmetic -/
section
variable {X : Cx} {W : WX}
theorem op_dAdd : OpR X (binaryOp .Add) (rD2 X.K X.mg W dAdd) := by
  intro pins s σ H vx vy v u Q I rx ry ⟨Z, m, h, σ', x, y, hk, r1, r2, p⟩
  unfold dAdd at p
  split at p
  · obtain rfl := rep_int r1
    obtain rfl := rep_int r2
    exact op_add pins s σ H _ _ v u Q I rx ry ⟨_, _, rfl, rfl, put_int hk p⟩
  · obtain ⟨rfl, k1⟩ := rep_str r1
    obtain ⟨rfl, k2⟩ := rep_str r2
    split at p
    · rename_i hz
      exact op_add_str pins s σ H _ _ v u Q I rx ry ⟨_, _, rfl, rfl, hz, put_str hk (ok_app k1 k2) p⟩
    · exact p.elim
  · obtain ⟨a, xs, rfl, g1, g2⟩ := rep_tup r1
    obtain ⟨b, ys, rfl, g3, g4⟩ := rep_tup r2
    split at p
    · rename_i hz
      refine op_catA pins s σ H _ _ v u Q I rx ry ⟨a, b, xs, ys, rfl, rfl, hide_sub.sqt g1, hide_sub.sqt g3, by rw [g2.length, g4.length]; exact hz, fun e => ?_, fun e1 e2 => ?_, fun e1 e2 => put_tup hk (g2.append g4) p⟩
      · subst e
        have e' := g2.eq_nil
        subst e'
        exact put_old hk r2 p
      · subst e2
        have e' := g4.eq_nil
        subst e'
        rw [List.append_nil] at p
        exact put_old hk r1 p
    · exact p.elim
  · split at p
    · rename_i h1 h2
      obtain ⟨a, xs, rfl, g1, g2⟩ := hk.rlstOf r1 h1
      obtain ⟨b, ys, rfl, g3, g4⟩ := hk.rlstOf r2 h2
      split at p
      · rename_i hz
        exact op_cat pins s σ H _ _ v u Q I rx ry ⟨a, b, xs, ys, rfl, rfl, g1, g3, by rw [g2.length, g4.length]; exact hz, put_lst hk (g2.append g4) p⟩
      · exact p.elim
    · exact p.elim
theorem op_dSub : OpR X (binaryOp .Sub) (rD2 X.K X.mg W dSub) := by
  intro pins s σ H vx vy v u Q I rx ry ⟨Z, m, h, σ', x, y, hk, r1, r2, p⟩
  unfold dSub at p
  split at p
  · obtain rfl := rep_int r1
    obtain rfl := rep_int r2
    exact op_sub pins s σ H _ _ v u Q I rx ry ⟨_, _, rfl, rfl, put_int hk p⟩
  · exact p.elim
theorem op_dFdiv : OpR X (binaryOp .FloorDiv) (rD2 X.K X.mg W dFdiv) := by
  intro pins s σ H vx vy v u Q I rx ry ⟨Z, m, h, σ', x, y, hk, r1, r2, p⟩
  unfold dFdiv at p
  split at p
  · obtain rfl := rep_int r1
    obtain rfl := rep_int r2
    split at p
    · rename_i hz
      exact op_fdiv pins s σ H _ _ v u Q I rx ry ⟨_, _, rfl, rfl, hz, put_int hk p⟩
    · exact p.elim
  · exact p.elim
theorem op_dMod : OpR X (binaryOp .Mod) (rD2 X.K X.mg W dMod) := by
  intro pins s σ H vx vy v u Q I rx ry ⟨Z, m, h, σ', x, y, hk, r1, r2, p⟩
  unfold dMod at p
  split at p
  · obtain rfl := rep_int r1
    obtain rfl := rep_int r2
    split at p
    · rename_i hz
      exact op_mod pins s σ H _ _ v u Q I rx ry ⟨_, _, rfl, rfl, hz, put_int hk p⟩
    · exact p.elim
  · exact p.elim
theorem foldl_cps (x : Array Nat) : ∀ (k : Nat) (acc : Array Nat), ((List.replicate k x).foldl (· ++ ·) acc).toList = acc.toList ++ (List.replicate k x.toList).flatten
  | 0, acc => by simp
  | k + 1, acc => by
    rw [List.replicate_succ, List.foldl_cons, foldl_cps x k (acc ++ x)]
    simp [List.replicate_succ]
/-- a text k times -/
theorem mul_list (x : Str) (n : Int) : (Txt.mul x n).cps.toList = (List.replicate n.toNat x.cps.toList).flatten := by
  unfold Txt.mul
  by_cases h1 : n < 1
  · rw [if_pos h1]
    have e : n.toNat = 0 := by omega
    rw [e]
    rfl
  · rw [if_neg h1]
    by_cases h2 : (n == 1 || x.length == 0) = true
    · rw [if_pos h2]
      simp only [Bool.or_eq_true, beq_iff_eq] at h2
      rcases h2 with h2 | h2
      · subst h2; simp
      · have e : x.cps.toList = [] := by
          have h3 : x.cps.size = 0 := h2
          have := Array.eq_empty_of_size_eq_zero h3
          rw [this]
        rw [e]
        simp
    · rw [if_neg h2]
      show ((List.replicate n.toNat x.cps).foldl (· ++ ·) #[]).toList = _
      rw [foldl_cps]
      rfl
theorem ok_mul {x : Str} (hx : PyData.strOk x = true) (n : Int) : PyData.strOk (Txt.mul x n) = true := by
  rw [ok_iff] at *
  rw [mul_list]
  intro c hc
  rw [List.mem_flatten] at hc
  obtain ⟨l, h1, h2⟩ := hc
  have e := List.eq_of_mem_replicate h1
  subst e
  exact hx c h2
theorem mul_room {x : Str} {n : Int} (h1 : n < 2 ^ 31) (h2 : -(2 ^ 31) < n) (h3 : x.length * n.toNat ≤ sizeLine) : MulOk x n := by
  have hs : sizeLine = 16777216 := sizeLine_eq
  refine ⟨?_, fun h4 h5 => ?_, fun h4 h5 => ?_⟩
  · rw [Bool.or_eq_false_iff]
    exact ⟨decide_eq_false (by omega), decide_eq_false (by omega)⟩
  · intro h6
    have hn : 0 < n := by omega
    have h7 : (2 ^ 63 - 1) / n ≥ 16777216 := by
      have : (16777216 : Int) * n ≤ 2 ^ 63 - 1 := by omega
      exact (Int.le_ediv_iff_mul_le hn).mpr this
    have h8 : x.length ≤ x.length * n.toNat := Nat.le_mul_of_pos_right _ (by omega)
    omega
  · unfold Builtin.Str.tooLong
    have : x.length * n.toNat ≤ 16777216 := by omega
    first
      | exact decide_eq_false (by omega)
      | (simp; omega)
theorem op_dMul : OpR X (binaryOp .Mult) (rD2 X.K X.mg W dMul) := by
  intro pins s σ H vx vy v u Q I rx ry ⟨Z, m, h, σ', x, y, hk, r1, r2, p⟩
  unfold dMul at p
  split at p
  · obtain rfl := rep_int r1
    obtain rfl := rep_int r2
    split at p
    · rename_i hz
      exact op_mul pins s σ H _ _ v u Q I rx ry ⟨_, _, rfl, rfl, hz, put_int hk p⟩
    · exact p.elim
  · obtain ⟨rfl, k1⟩ := rep_str r1
    obtain rfl := rep_int r2
    split at p
    · rename_i hz
      obtain ⟨t, rfl⟩ := rx
      obtain ⟨t', rfl⟩ := ry
      exact SB.mul (mul_room hz.1 hz.2.1 hz.2.2) fun t' k => ⟨.str _, H, I.tok _, ⟨_, rfl⟩, put_str hk (ok_mul k1 _) p⟩
    · exact p.elim
  · exact p.elim

/-! ### comparisons -/
theorem op_dEq (hu : X.A.units + 60 < cLine) : OpR X (compareOp .Eq) (rD2 X.K X.mg W dEq) := by
  intro pins s σ H vx vy v u Q I rx ry ⟨Z, m, h, σ', x, y, hk, r1, r2, p⟩
  unfold dEq at p
  split at p
  · rename_i hz
    obtain ⟨d1, d2, d3⟩ := hz
    obtain ⟨p1, l1⟩ := hk.dp r1 d1
    obtain ⟨p2, l2⟩ := hk.dp r2 d2
    obtain ⟨as, q1⟩ := Dp.reads I _ _ v p1 rx
    obtain ⟨bs, q2⟩ := Dp.reads I _ _ u p2 ry
    exact SeqAt.compareEq_reads q1 q2 l1 l2 (by rw [D.dep_py _ d1, D.dep_py _ d2]; omega) ⟨.bl _, H, I, rfl, put_bl hk p⟩
  · exact p.elim
theorem op_dNe (hu : X.A.units + 60 < cLine) : OpR X (compareOp .NotEq) (rD2 X.K X.mg W dNe) := by
  intro pins s σ H vx vy v u Q I rx ry ⟨Z, m, h, σ', x, y, hk, r1, r2, p⟩
  unfold dNe at p
  split at p
  · rename_i hz
    obtain ⟨d1, d2, d3⟩ := hz
    obtain ⟨p1, l1⟩ := hk.dp r1 d1
    obtain ⟨p2, l2⟩ := hk.dp r2 d2
    obtain ⟨as, q1⟩ := Dp.reads I _ _ v p1 rx
    obtain ⟨bs, q2⟩ := Dp.reads I _ _ u p2 ry
    exact SeqAt.compareNe_reads q1 q2 l1 l2 (by rw [D.dep_py _ d1, D.dep_py _ d2]; omega) ⟨.bl _, H, I, rfl, put_bl hk p⟩
  · exact p.elim
theorem repL_ints {K : PySem.W.Frag} {mg : Str → Option Value} {m : List Addr} {S : Hp} : ∀ {ds : List D} {vs : List V} {ns : List Int}, RepL K mg m S ds vs → intsD ds = some ns → vs = ns.map V.int
  | [], vs, ns, r, e => by
    rw [r.of_nil]
    have e : some [] = some ns := e
    cases e
    rfl
  | d :: ds, vs, ns, r, e => by
    obtain ⟨v, t, rfl, a, b⟩ := r.of_cons
    cases d with
    | int i =>
      have e : (intsD ds).map (i :: ·) = some ns := e
      cases q : intsD ds with
      | none => rw [q] at e; cases e
      | some ks =>
        rw [q] at e
        cases e
        rw [rep_int a, repL_ints b q]
        rfl
    | _ => cases e
theorem op_dLt (hu : X.A.units < cLine) : OpR X (compareOp .Lt) (rD2 X.K X.mg W dLt) := by
  intro pins s σ H vx vy v u Q I rx ry ⟨Z, m, h, σ', x, y, hk, r1, r2, p⟩
  unfold dLt at p
  split at p
  · obtain rfl := rep_int r1
    obtain rfl := rep_int r2
    exact op_lt pins s σ H _ _ v u Q I rx ry ⟨_, _, rfl, rfl, put_bl hk p⟩
  · obtain ⟨rfl, k1⟩ := rep_str r1
    obtain ⟨rfl, k2⟩ := rep_str r2
    exact op_lt_str pins s σ H _ _ v u Q I rx ry ⟨_, _, rfl, rfl, put_bl hk p⟩
  · obtain ⟨a, xs, rfl, g1, g2⟩ := rep_tup r1
    obtain ⟨b, ys, rfl, g3, g4⟩ := rep_tup r2
    split at p
    · rename_i h1 h2
      have e1 := repL_ints g2 h1
      have e2 := repL_ints g4 h2
      subst e1 e2
      exact op_ltT hu pins s σ H _ _ v u Q I rx ry ⟨a, b, _, _, rfl, rfl, hide_sub.sqt g1, hide_sub.sqt g3, put_bl hk p⟩
    · exact p.elim
  · exact p.elim
theorem op_dLe : OpR X (compareOp .LtE) (rD2 X.K X.mg W dLe) := by
  intro pins s σ H vx vy v u Q I rx ry ⟨Z, m, h, σ', x, y, hk, r1, r2, p⟩
  unfold dLe at p
  split at p
  · obtain rfl := rep_int r1
    obtain rfl := rep_int r2
    exact op_le pins s σ H _ _ v u Q I rx ry ⟨_, _, rfl, rfl, put_bl hk p⟩
  · exact p.elim
theorem op_dGt : OpR X (compareOp .Gt) (rD2 X.K X.mg W dGt) := by
  intro pins s σ H vx vy v u Q I rx ry ⟨Z, m, h, σ', x, y, hk, r1, r2, p⟩
  unfold dGt at p
  split at p
  · obtain rfl := rep_int r1
    obtain rfl := rep_int r2
    exact op_gt pins s σ H _ _ v u Q I rx ry ⟨_, _, rfl, rfl, put_bl hk p⟩
  · exact p.elim
theorem op_dGe : OpR X (compareOp .GtE) (rD2 X.K X.mg W dGe) := by
  intro pins s σ H vx vy v u Q I rx ry ⟨Z, m, h, σ', x, y, hk, r1, r2, p⟩
  unfold dGe at p
  split at p
  · obtain rfl := rep_int r1
    obtain rfl := rep_int r2
    exact op_ge pins s σ H _ _ v u Q I rx ry ⟨_, _, rfl, rfl, put_bl hk p⟩
  · exact p.elim
theorem rep_isNon {K : PySem.W.Frag} {mg : Str → Option Value} {m : List Addr} {S : Hp} {d : D} {v : V} (r : Rep K mg m S d v) : decide (v = .non) = d.isNon := by
  cases d with
  | non => rw [rep_non r]; rfl
  | bl b => rw [rep_bl r]; rfl
  | int b => rw [rep_int r]; rfl
  | str b => rw [(rep_str r).1]; rfl
  | tup xs => unfold Rep at r; obtain ⟨a, _, rfl, _⟩ := r; rfl
  | lst xs => unfold Rep at r; obtain ⟨a, _, rfl, _⟩ := r; rfl
  | scr xs => unfold Rep at r; obtain ⟨a, _, rfl, _⟩ := r; rfl
  | obj c ns xs => unfold Rep at r; obtain ⟨a, _, _, _, rfl, _⟩ := r; rfl
  | ref n => unfold Rep at r; obtain ⟨a, _, rfl⟩ := r; rfl
theorem op_dIs : OpR X (compareOp .Is) (rD2 X.K X.mg W dIs) := by
  intro pins s σ H vx vy v u Q I rx ry ⟨Z, m, h, σ', x, y, hk, r1, r2, p⟩
  unfold dIs at p
  split at p
  · obtain rfl := rep_non r2
    exact op_isN pins s σ H _ _ v u Q I rx ry ⟨rfl, by rw [rep_isNon r1]; exact put_bl hk p⟩
  · exact p.elim
theorem op_dIsnt : OpR X (compareOp .IsNot) (rD2 X.K X.mg W dIsnt) := by
  intro pins s σ H vx vy v u Q I rx ry ⟨Z, m, h, σ', x, y, hk, r1, r2, p⟩
  unfold dIsnt at p
  split at p
  · obtain rfl := rep_non r2
    exact op_notN pins s σ H _ _ v u Q I rx ry ⟨rfl, by rw [rep_isNon r1]; exact put_bl hk p⟩
  · exact p.elim
theorem inb_py (x : D) : ∀ ys : List D, ((D.pyL ys).any fun z => PyData.eqv z x.py) = inb x ys
  | [] => rfl
  | y :: ys => by
    show (PyData.eqv y.py x.py || (D.pyL ys).any fun z => PyData.eqv z x.py) = (D.eqb y x || inb x ys)
    rw [inb_py x ys]
    rfl
/-- what a sequence is, as data -/
theorem seq_dp {K : PySem.W.Frag} {mg : Str → Option Value} {Z m : List Addr} {H : Hp} {h : CH} (hk : HeapOk K mg Z m h H) {d : D} {v : V} (r : Rep K mg m (hide (Z ++ m) H) d v) {ys : List D} (e : seq h d = some ys) (q : D.datL ys = true) :
    PyData.canLayAll0 (D.pyL ys) = true ∧ (Dp K H v (.list (D.pyL ys)) ∨ Dp K H v (.tuple (D.pyL ys))) := by
  obtain ⟨a, vs, rfl, h1, h2⟩ := hk.rseq r e
  refine ⟨RepL.lay ys vs h2 q, ?_⟩
  have h3 := RepL.dp hide_sub ys vs h2 q
  rcases h1 with h1 | h1
  · exact .inl (.lst h1 h3)
  · exact .inr (.tup h1 h3)
theorem op_dIn (hu : X.A.units + 61 < cLine) : OpR X (compareOp .In) (rD2 X.K X.mg W dIn) := by
  intro pins s σ H vx vy v u Q I rx ry ⟨Z, m, h, σ', x, y, hk, r1, r2, p⟩
  unfold dIn at p
  split at p
  · rename_i ys hs
    split at p
    · rename_i hz
      obtain ⟨d1, d2, d3⟩ := hz
      obtain ⟨p1, l1⟩ := hk.dp r1 d1
      obtain ⟨as, q1⟩ := Dp.reads I _ _ v p1 rx
      obtain ⟨l2, p2⟩ := seq_dp hk r2 hs d2
      have hr : X.A.units + 1 + min (PyData.depthAll (D.pyL ys)) (vw h x).py.depth < cLine := by
        have := D.dep_py _ d1
        omega
      have fin : EP X pins σ Q (.bool ((D.pyL ys).any fun z => PyData.eqv z (vw h x).py)) s := ⟨.bl _, H, I, rfl, by rw [inb_py]; exact put_bl hk p⟩
      rcases p2 with p2 | p2
      · obtain ⟨bs, q2⟩ := Dp.reads I _ _ u p2 ry
        exact SeqAt.in_list_reads q2 q1 l2 l1 hr fin
      · obtain ⟨bs, q2⟩ := Dp.reads I _ _ u p2 ry
        exact SeqAt.in_tuple_reads q2 q1 l2 l1 hr fin
    · exact p.elim
  · exact p.elim
theorem op_dNotIn (hu : X.A.units + 61 < cLine) : OpR X (compareOp .NotIn) (rD2 X.K X.mg W dNotIn) := by
  intro pins s σ H vx vy v u Q I rx ry ⟨Z, m, h, σ', x, y, hk, r1, r2, p⟩
  unfold dNotIn at p
  split at p
  · rename_i ys hs
    split at p
    · rename_i hz
      obtain ⟨d1, d2, d3⟩ := hz
      obtain ⟨p1, l1⟩ := hk.dp r1 d1
      obtain ⟨as, q1⟩ := Dp.reads I _ _ v p1 rx
      obtain ⟨l2, p2⟩ := seq_dp hk r2 hs d2
      have hr : X.A.units + 1 + min (PyData.depthAll (D.pyL ys)) (vw h x).py.depth < cLine := by
        have := D.dep_py _ d1
        omega
      have fin : EP X pins σ Q (.bool (!(D.pyL ys).any fun z => PyData.eqv z (vw h x).py)) s := ⟨.bl _, H, I, rfl, by rw [inb_py]; exact put_bl hk p⟩
      rcases p2 with p2 | p2
      · obtain ⟨bs, q2⟩ := Dp.reads I _ _ u p2 ry
        exact SeqAt.notIn_list_reads q2 q1 l2 l1 hr fin
      · obtain ⟨bs, q2⟩ := Dp.reads I _ _ u p2 ry
        exact SeqAt.notIn_tuple_reads q2 q1 l2 l1 hr fin
    · exact p.elim
  · exact p.elim

/-! ### subscripts -/
theorem repL_atI {K : PySem.W.Frag} {mg : Str → Option Value} {m : List Addr} {S : Hp} {ds : List D} {vs : List V} {k : Int} {d : D} (r : RepL K mg m S ds vs) (e : atI ds k = some d) : ∃ v, atI vs k = some v ∧ Rep K mg m S d v := by
  unfold atI at *
  rw [r.length]
  cases q : ixN ds.length k with
  | none => rw [q] at e; cases e
  | some j =>
    rw [q] at e
    exact r.get e
theorem ix_dIdx : IxR X (rD2 X.K X.mg W dIdx) := by
  intro value slice pins s σ H vx vy v u Q I rx ry ⟨Z, m, h, σ', x, y, hk, r1, r2, p⟩ hs
  unfold dIdx at p
  split at p
  · obtain rfl := rep_int r2
    split at p
    · obtain ⟨rfl, k1⟩ := rep_str r1
      split at p
      · rename_i c hc
        split at p
        · rename_i hz
          obtain ⟨j, g1, g2, g3, g4, g5⟩ := atI_get hc
          exact ix_str value slice pins s σ H _ _ v u Q I rx ry ⟨_, _, c, rfl, rfl, hz, hc, put_str hk (ok_one k1 (List.mem_of_getElem? g2)) p⟩ hs
        · exact p.elim
      · exact p.elim
    · split at p
      · rename_i xs hq
        split at p
        · rename_i d hd
          obtain ⟨a, vs, rfl, g1, g2⟩ := hk.rseq r1 hq
          obtain ⟨w, g3, g4⟩ := repL_atI g2 hd
          rcases g1 with g1 | g1
          · exact ix_list value slice pins s σ H _ _ v u Q I rx ry ⟨a, vs, _, w, rfl, rfl, g1, g3, put_old hk g4 p⟩ hs
          · exact ix_tup value slice pins s σ H _ _ v u Q I rx ry ⟨a, vs, _, w, rfl, rfl, g1, g3, put_old hk g4 p⟩ hs
        · exact p.elim
      · exact p.elim
  · exact p.elim
end
end FK

/-! part: FK4 -/
set_option Elab.async false
set_option linter.all false
set_option maxRecDepth 100000
set_option maxHeartbeats 4000000
/-! FK4: argument lists, displays, slices, truth, and or not, chains, attributes, calls of what is built in. -/
namespace FK
open PySem PySem.Spec L2

theorem pickA {X : Cx} {es : List Expr} {t : TA} (h : ∀ σ H Q, t σ H Q → ∃ t', PA X es t' ∧ t' σ H Q) : PA X es t := ⟨fun pos pins s σ H Q I q => by
  obtain ⟨t', p, q'⟩ := h σ H Q q
  exact p.run pos pins s σ H Q I q'⟩
theorem pickT {X : Cx} {e : Expr} {t : TT} (h : ∀ σ H Q, t σ H Q → ∃ t', PT X e t' ∧ t' σ H Q) : PT X e t := ⟨fun pins s σ H Q I q => by
  obtain ⟨t', p, q'⟩ := h σ H Q q
  exact p.run pins s σ H Q I q'⟩
theorem pickW {X : Cx} {e : Expr} {t : TT} (h : ∀ σ H Q, t σ H Q → ∃ t', PW X e t' ∧ t' σ H Q) : PW X e t := ⟨fun wh pins s σ H Q I q => by
  obtain ⟨t', p, q'⟩ := h σ H Q q
  exact p.run wh pins s σ H Q I q'⟩
theorem pickO {X : Cx} {e : Option Expr} {t : TO} (h : ∀ σ H Q, t σ H Q → ∃ t', PO X e t' ∧ t' σ H Q) : PO X e t := ⟨fun pins s σ H Q I q => by
  obtain ⟨t', p, q'⟩ := h σ H Q q
  exact p.run pins s σ H Q I q'⟩

/-! ### argument lists -/
def aNil : AD := fun _ => M.pure []
def aCons (f : ED) (fs : AD) : AD := fun ρ => M.bind (f ρ) fun d => M.bind (fs ρ) fun ds => M.pure (d :: ds)
section
variable {X : Cx} {W : WX} {e : Expr} {es : List Expr} {f g : ED} {fs : AD} {pos : Pos}
theorem sa_nil : PA X [] (tDL X.K X.mg W aNil) := pickA fun σ H Q ⟨Z, m, ρ, c, at', p⟩ => ⟨_, pa_nil, p [] m H Ext.refl at'.hk RepL.nil⟩
theorem sa_cons (ha : PE X e (tD X.K X.mg W f)) (hr : PA X es (tDL X.K X.mg W fs)) (hs : starEach (e :: es) X.env = (false, eval e X.env) :: starEach es X.env := by rfl) : PA X (e :: es) (tDL X.K X.mg W (aCons f fs)) :=
  pickA fun σ H Q ⟨Z, m, ρ, c, at', p⟩ => ⟨_, pa_cons ha hr hs, by
    refine ⟨Z, m, ρ, c, at', (PostG.bind p).imp fun v H1 ⟨d, m1, h1, ex, hk, rp, _, q⟩ => ?_⟩
    refine ⟨Z, m1, ρ, h1, ⟨hk, ex.env at'.en⟩, (PostG.bind q).imp fun u H2 ⟨ds, m2, h2, ex2, hk2, rp2, _, q2⟩ => ?_⟩
    exact q2 _ m2 H2 Ext.refl hk2 (RepL.cons (ex2.rep rp) rp2)⟩
/-- what is asked of the arguments' values -/
theorem denL {r : List V → Hp → VK → Prop} {op : List D → M D} {K : PySem.W.Frag} {mg : Str → Option Value} {σ : L2.St} {H : Hp} {Q : VK} (h : tD K mg W (fun ρ => M.bind (fs ρ) op) σ H Q) (hr : ∀ vs H Q, rDL K mg W op vs H Q → r vs H Q) :
    tDL K mg W fs σ H (fun vs H1 => r vs H1 Q) := by
  obtain ⟨Z, m, ρ, c, at', p⟩ := h
  exact ⟨Z, m, ρ, c, at', (PostG.bind p).imp fun v H' ⟨d, m', h', ex, hk, rp, _, q⟩ => hr _ _ _ ⟨Z, m', h', σ, d, hk, rp, q⟩⟩
end

/-! ### displays -/
def eTup (fs : AD) : ED := fun ρ => M.bind (fs ρ) fun ds h => if ds.length ≤ sizeLine then .ok (.tup ds) h else .bad
def eLst (fs : AD) : ED := fun ρ => M.bind (fs ρ) fun ds h => if ds.length ≤ sizeLine then .ok (.lst ds) h else .bad
/-- a list that will be changed: a new cell -/
def eNew (fs : AD) : ED := fun ρ => M.bind (fs ρ) fun ds h => if ds.length ≤ sizeLine then .ok (.ref h.length) (h ++ [.lst ds]) else .bad
section
variable {K : PySem.W.Frag} {mg : Str → Option Value} {Z m : List Addr} {H : Hp} {h : CH}
theorem mem_not_new (hk : HeapOk K mg Z m h H) {l : Addr} (hl : H l = none) : l ∉ m := fun z => hk.out hl (List.mem_append_right _ z)
/-- a new cell at l -/
theorem Ext.cell (hk : HeapOk K mg Z m h H) {l : Addr} {o : HO} (hl : H l = none) : Ext Z m H (m ++ [l]) (upd H l o) := by
  refine ⟨fun n a e => ?_, fun a u e => ?_, fun a ha => upd_ne fun z => ?_⟩
  · rw [List.getElem?_append_left (List.getElem?_eq_some_iff.mp e).1]; exact e
  · obtain ⟨h1, h2⟩ := hide_some e
    have ne := ne_of_none h2 hl
    refine hide_of (fun z => ?_) (by rw [upd_ne ne]; exact h2)
    rcases List.mem_append.mp z with z | z
    · exact h1 (List.mem_append_left _ z)
    · rcases List.mem_append.mp z with z | z
      · exact h1 (List.mem_append_right _ z)
      · exact ne (by simpa using z)
  · subst z
    exact hk.out hl (List.mem_append_left _ ha)
theorem HeapOk.new (hk : HeapOk K mg Z m h H) {l : Addr} {o : HO} (hl : H l = none) {c : Cell} (hc : CellR K mg (m ++ [l]) (hide (Z ++ (m ++ [l])) (upd H l o)) (upd H l o) l c) : HeapOk K mg Z (m ++ [l]) (h ++ [c]) (upd H l o) := by
  have ex := Ext.cell (o := o) hk hl
  have nm := mem_not_new hk hl
  refine ⟨by rw [List.length_append, List.length_append, hk.len]; rfl, ?_, fun a ha => ?_, fun a ha => ?_, fun n c' a h1 h2 => ?_⟩
  · rw [List.nodup_append]
    exact ⟨hk.nd, by simp, fun a ha b hb e => nm (by simp at hb; rw [← hb, ← e]; exact ha)⟩
  · rcases List.mem_append.mp ha with z | z
    · exact hk.dj a z
    · have e : a = l := by simpa using z
      subst e
      exact fun z' => hk.out hl (List.mem_append_left _ z')
  · rw [ex.zs a ha]; exact hk.ex a ha
  · by_cases hn : n < m.length
    · rw [List.getElem?_append_left hn] at h2
      rw [List.getElem?_append_left (by rw [← hk.len]; exact hn)] at h1
      have ne : a ≠ l := fun z => nm (by rw [← z]; exact List.mem_of_getElem? h2)
      exact CellR.mono ex.pre ex.st (upd_ne ne) (hk.cell n c' a h1 h2)
    · have e : n = m.length := by
        have := (List.getElem?_eq_some_iff.mp h2).1
        simp at this
        omega
      subst e
      simp at h2
      rw [hk.len] at h1
      simp at h1
      subst h1 h2
      exact hc
end
section
variable {X : Cx} {W : WX} {es : List Expr} {fs : AD} {pos : Pos}
theorem se_tup {k} (ha : PA X es (tDL X.K X.mg W fs)) : PE X (.Tuple es k pos) (tD X.K X.mg W (eTup fs)) :=
  pick fun σ H Q h => ⟨_, pe_tup ha, denL (r := fun vs H1 Q => vs.length ≤ sizeLine ∧ ∀ p, H1 p = none → Q (.ref p) (upd H1 p (.tup vs))) h fun vs H Q ⟨Z, m, c, σ, ds, hk, r, p⟩ => by
    dsimp only at p
    split at p
    · rename_i hz
      exact ⟨by rw [r.length]; exact hz, put_tup hk r p⟩
    · exact p.elim⟩
theorem se_lst (ha : PA X es (tDL X.K X.mg W fs)) : PE X (.List es pos) (tD X.K X.mg W (eLst fs)) :=
  pick fun σ H Q h => ⟨_, pe_lst ha, denL (r := fun vs H1 Q => vs.length ≤ sizeLine ∧ ∀ p, H1 p = none → Q (.ref p) (upd H1 p (.lst vs))) h fun vs H Q ⟨Z, m, c, σ, ds, hk, r, p⟩ => by
    dsimp only at p
    split at p
    · rename_i hz
      exact ⟨by rw [r.length]; exact hz, put_lst hk r p⟩
    · exact p.elim⟩
theorem put_cell {K : PySem.W.Frag} {mg : Str → Option Value} {Z m : List Addr} {H : Hp} {h : CH} {σ : L2.St} {Q : VK} (hk : HeapOk K mg Z m h H) {ds : List D} {vs : List V} (r : RepL K mg m (hide (Z ++ m) H) ds vs)
    (p : Post K mg W σ Z m H (.ok (.ref h.length) (h ++ [.lst ds])) Q) : ∀ l, H l = none → Q (.ref l) (upd H l (.lst vs)) := fun l hl => by
  have ex := Ext.cell (o := .lst vs) hk hl
  refine p _ (m ++ [l]) _ ex (hk.new hl ⟨vs, upd_same, ex.repL r⟩) ?_
  unfold Rep
  exact ⟨l, by rw [← hk.len]; simp, rfl⟩
theorem se_new (ha : PA X es (tDL X.K X.mg W fs)) : PE X (.List es pos) (tD X.K X.mg W (eNew fs)) :=
  pick fun σ H Q h => ⟨_, pe_lst ha, denL (r := fun vs H1 Q => vs.length ≤ sizeLine ∧ ∀ p, H1 p = none → Q (.ref p) (upd H1 p (.lst vs))) h fun vs H Q ⟨Z, m, c, σ, ds, hk, r, p⟩ => by
    dsimp only at p
    split at p
    · rename_i hz
      exact ⟨by rw [r.length]; exact hz, put_cell hk r p⟩
    · exact p.elim⟩
end

/-! ### slices -/
abbrev OD := Env → M (Option Int)
def oNone : OD := fun _ => M.pure none
def oSome (f : ED) : OD := fun ρ => M.bind (f ρ) fun d h => match d with
  | .int i => .ok (some i) h
  | _ => .bad
def tDO (K : PySem.W.Frag) (mg : Str → Option Value) (W : WX) (f : OD) : TO := fun σ H Q => ∃ Z m ρ h, At K mg Z m ρ h σ H ∧ PostG K mg (fun _ _ (a b : Option Int) => b = a) W σ Z m H (f ρ h) Q
def cut {α : Type} (xs : List α) (lo hi : Option Int) : List α := (xs.drop (HT.sIx xs.length 0 lo)).take (HT.sIx xs.length xs.length hi - HT.sIx xs.length 0 lo)
def dSl (x : D) (lo hi : Option Int) : M D := fun h =>
  match x with
  | .str a => if a.length ≤ sizeLine then .ok (.str (cutS a lo hi)) h else .bad
  | .tup xs => .ok (.tup (cut xs lo hi)) h
  | x => match vw h x with
    | .lst xs => .ok (.lst (cut xs lo hi)) h
    | .scr xs => .ok (.lst (cut xs lo hi)) h
    | _ => .bad
def eSl (f : ED) (lo hi : OD) : ED := fun ρ => M.bind (f ρ) fun x => M.bind (lo ρ) fun l => M.bind (hi ρ) fun u => dSl x l u
theorem RepL.cut {K : PySem.W.Frag} {mg : Str → Option Value} {m : List Addr} {S : Hp} {ds : List D} {vs : List V} (r : RepL K mg m S ds vs) (lo hi : Option Int) : RepL K mg m S (FK.cut ds lo hi) (cutV vs lo hi) := by
  unfold FK.cut cutV
  rw [r.length]
  exact (r.drop _).take _
theorem ok_cut {a : Str} (ha : PyData.strOk a = true) (lo hi : Option Int) : PyData.strOk (cutS a lo hi) = true := by
  rw [ok_iff] at *
  intro c hc
  unfold cutS at hc
  exact ha c (List.mem_of_mem_drop (List.mem_of_mem_take (by simpa using hc)))
section
variable {X : Cx} {W : WX} {e : Expr} {f : ED} {lo hi : Option Expr} {l u : OD} {pos p2 : Pos}
theorem so_none : PO X none (tDO X.K X.mg W oNone) := pickO fun σ H Q ⟨Z, m, ρ, c, at', p⟩ => ⟨_, po_none, p none m H Ext.refl at'.hk rfl⟩
theorem so_some (he : PE X e (tD X.K X.mg W f)) : PO X (some e) (tDO X.K X.mg W (oSome f)) := pickO fun σ H Q ⟨Z, m, ρ, c, at', p⟩ => ⟨_, po_some he, by
  refine ⟨Z, m, ρ, c, at', (PostG.bind p).imp fun v H' ⟨d, m', h', ex, hk, rp, _, q⟩ => ?_⟩
  cases d with
  | int i => exact ⟨i, rep_int rp, q _ m' H' Ext.refl hk rfl⟩
  | _ => exact q.elim⟩
theorem se_sl (he : PE X e (tD X.K X.mg W f)) (hl : PO X lo (tDO X.K X.mg W l)) (hu : PO X hi (tDO X.K X.mg W u)) : PE X (.Subscript e (.Slice lo hi none p2) pos) (tD X.K X.mg W (eSl f l u)) :=
  pick fun σ H Q h => ⟨_, pe_slice ((sl_list (X := X)).or ((sl_tupA (X := X)).or (sl_str (X := X)))) he hl hu, by
    obtain ⟨Z, m, ρ, c, at', p⟩ := h
    refine ⟨Z, m, ρ, c, at', (PostG.bind p).imp fun v H1 ⟨x, m1, h1, ex1, hk1, r1, _, q1⟩ => ?_⟩
    refine ⟨Z, m1, ρ, h1, ⟨hk1, ex1.env at'.en⟩, (PostG.bind q1).imp fun lv H2 ⟨lo', m2, h2, ex2, hk2, r2, _, q2⟩ => ?_⟩
    refine ⟨Z, m2, ρ, h2, ⟨hk2, ex2.env (ex1.env at'.en)⟩, (PostG.bind q2).imp fun uv H3 ⟨hi', m3, h3, ex3, hk3, r3, _, q3⟩ => ?_⟩
    subst r2 r3
    have rx := ex3.rep (ex2.rep r1)
    unfold dSl at q3
    split at q3
    · obtain ⟨rfl, k⟩ := rep_str rx
      split at q3
      · rename_i hz
        exact .inr (.inr ⟨_, rfl, hz, put_str hk3 (ok_cut k _ _) q3⟩)
      · exact q3.elim
    · obtain ⟨a, vs, rfl, g1, g2⟩ := rep_tup rx
      refine .inr (.inl ⟨a, vs, rfl, hide_sub.sqt g1, fun hw => ?_, fun _ => put_tup hk3 (g2.cut lv uv) q3⟩)
      have e : ∀ {xs : List D}, RepL X.K X.mg m3 (hide (Z ++ m3) H3) xs vs → cut xs lv uv = xs := fun {xs} g => by
        unfold cut
        rw [← g.length, hw.1, hw.2, g.length]
        simp
      rw [e g2] at q3
      exact put_old hk3 rx q3
    · split at q3
      · rename_i hv
        obtain ⟨a, vs, rfl, g1, g2⟩ := hk3.rlst rx hv
        exact .inl ⟨a, vs, rfl, SqL.of g1, put_lst hk3 (g2.cut lv uv) q3⟩
      · rename_i hv
        obtain ⟨a, vs, rfl, g1, g2⟩ := HeapOk.rscr rx hv
        exact .inl ⟨a, vs, rfl, g1, put_lst hk3 (g2.cut lv uv) q3⟩
      · exact q3.elim⟩
end

/-! ### truth -/
def truth (d : D) (h : CH) : R Bool :=
  match d with
  | .non => .ok false h
  | .bl b => .ok b h
  | .int i => .ok (i != 0) h
  | .str x => if x.length ≤ sizeLine then .ok ((x.length : Int) != 0) h else .bad
  | d => match seq h d with
    | some xs => .ok (!xs.isEmpty) h
    | none => .bad
theorem truth_heap {d : D} {h h' : CH} {b : Bool} (e : truth d h = .ok b h') : h' = h := by
  unfold truth at e
  split at e
  · cases e; rfl
  · cases e; rfl
  · cases e; rfl
  · split at e <;> cases e; rfl
  · split at e <;> cases e; rfl
theorem truth_exc {d : D} {h h' : CH} {c : Str} : truth d h ≠ .exc c h' := fun e => by
  unfold truth at e
  split at e
  · cases e
  · cases e
  · cases e
  · split at e <;> cases e
  · split at e <;> cases e
theorem isEmpty_repL {K : PySem.W.Frag} {mg : Str → Option Value} {m : List Addr} {S : Hp} {ds : List D} {vs : List V} (r : RepL K mg m S ds vs) : (!vs.isEmpty) = !ds.isEmpty := by
  cases ds with
  | nil => rw [r.of_nil]; rfl
  | cons d ds => obtain ⟨v, t, rfl, _⟩ := r.of_cons; rfl
theorem truth_v {K : PySem.W.Frag} {mg : Str → Option Value} {Z m : List Addr} {H : Hp} {h h' : CH} (hk : HeapOk K mg Z m h H) {d : D} {v : V} (r : Rep K mg m (hide (Z ++ m) H) d v) {b : Bool} (e : truth d h = .ok b h') : TruV K v H b := by
  unfold truth at e
  split at e
  · cases e; rw [rep_non r]; rfl
  · cases e; rw [rep_bl r]; rfl
  · cases e; rw [rep_int r]; rfl
  · split at e
    · rename_i hz
      cases e; rw [(rep_str r).1]; exact ⟨hz, rfl⟩
    · cases e
  · split at e
    · rename_i xs hs
      cases e
      obtain ⟨a, vs, rfl, g1, g2⟩ := hk.rseq r hs
      rw [← isEmpty_repL g2]
      rcases g1 with g1 | g1
      · exact .inl ⟨vs, g1, rfl⟩
      · exact .inr (.inl ⟨vs, g1, rfl⟩)
    · cases e
def bT (f : ED) : BD := fun ρ => M.bind (f ρ) truth
def bNot (b : BD) : BD := fun ρ => M.bind (b ρ) fun k => M.pure (!k)
def bAnd (a b : BD) : BD := fun ρ => M.bind (a ρ) fun k => if k = true then b ρ else M.pure false
def bOr (a b : BD) : BD := fun ρ => M.bind (a ρ) fun k => if k = true then M.pure true else b ρ
def eAnd (f g : ED) : ED := fun ρ => M.bind (f ρ) fun d => M.bind (truth d) fun k => if k = true then g ρ else M.pure d
def eOr (f g : ED) : ED := fun ρ => M.bind (f ρ) fun d => M.bind (truth d) fun k => if k = true then M.pure d else g ρ
def eNot (f : ED) : ED := fun ρ => M.bind (f ρ) fun d => M.bind (truth d) fun k => M.pure (.bl (!k))
def eIf (b : BD) (f g : ED) : ED := fun ρ => M.bind (b ρ) fun k => if k = true then f ρ else g ρ
section
variable {X : Cx} {W : WX} {e a b c : Expr} {f g k : ED} {ba bb : BD} {pos : Pos} {rest : List Expr}
theorem truth_post {K : PySem.W.Frag} {mg : Str → Option Value} {Z m : List Addr} {H : Hp} {h : CH} {σ : L2.St} {Q : VK} {F : Bool → M D} (hk : HeapOk K mg Z m h H) {d : D} {v : V} (r : Rep K mg m (hide (Z ++ m) H) d v) (p : Post K mg W σ Z m H (M.bind (truth d) F h) Q) :
    ∃ b, TruV K v H b ∧ Post K mg W σ Z m H (F b h) Q := by
  unfold M.bind at p
  cases e : truth d h with
  | ok b h' =>
    rw [e] at p
    have e' := truth_heap e
    subst e'
    exact ⟨b, truth_v hk r e, p⟩
  | exc c h' => exact absurd e truth_exc
  | bad => rw [e] at p; exact p.elim
theorem st_truth (he : PE X e (tD X.K X.mg W f)) (hp : ∀ whole, isTrue e X.env whole = (do let v ← whole; standAt e.pos; holding [v] (truthy v)) := by exact fun _ => rfl) : PT X e (tDB X.K X.mg W (bT f)) :=
  pickT fun σ H Q ⟨Z, m, ρ, c, at', p⟩ => ⟨_, pt_truth he hp, by
    refine ⟨Z, m, ρ, c, at', (PostG.bind p).imp fun v H' ⟨d, m', h', ex, hk, rp, _, q⟩ => ?_⟩
    cases e2 : truth d h' with
    | ok b h2 =>
      rw [e2] at q
      have e3 := truth_heap e2
      subst e3
      exact ⟨b, truth_v hk rp e2, q _ m' H' Ext.refl hk rfl⟩
    | exc c h2 => exact absurd e2 truth_exc
    | bad => rw [e2] at q; exact q.elim⟩
/-- an operator that gives a bool -/
def Boolish (o : D → D → M D) : Prop := ∀ x y h d h', o x y h = .ok d h' → ∃ k, d = .bl k ∧ h' = h
theorem st_cmp {op : CmpOp} {o : D → D → M D} (hB : Boolish o) (ho : OpR X (compareOp op) (rD2 X.K X.mg W o)) (ha : PE X a (tD X.K X.mg W f)) (hb : PE X b (tD X.K X.mg W g)) (hm : behindInMarks op b = false) : PT X (.Compare a [op] [b] pos) (tDB X.K X.mg W (bT (e2 o f g))) :=
  pickT fun σ H Q ⟨Z, m, ρ, c, at', p⟩ => ⟨_, pt_cmpR ho ha hb hm, by
    have p' : PostB X.K X.mg W σ Z m H (M.bind (f ρ) (fun x => M.bind (g ρ) fun y => M.bind (o x y) truth) c) Q := by
      have e : M.bind (f ρ) (fun x => M.bind (g ρ) fun y => M.bind (o x y) truth) c = bT (e2 o f g) ρ c := by
        unfold bT e2 M.bind
        cases f ρ c with
        | ok x h1 => dsimp only; cases g ρ h1 <;> rfl
        | exc _ _ => rfl
        | bad => rfl
      rw [e]; exact p
    refine ⟨Z, m, ρ, c, at', (PostG.bind p').imp fun v H1 ⟨x, m1, h1, ex1, hk1, r1, _, q1⟩ => ?_⟩
    refine ⟨Z, m1, ρ, h1, ⟨hk1, ex1.env at'.en⟩, (PostG.bind q1).imp fun u H2 ⟨y, m2, h2, ex2, hk2, r2, _, q2⟩ => ?_⟩
    refine ⟨Z, m2, h2, σ, x, y, hk2, ex2.rep r1, r2, ?_⟩
    unfold M.bind at q2
    cases e : o x y h2 with
    | ok d h3 =>
      obtain ⟨kk, rfl, rfl⟩ := hB x y h2 d h3 e
      rw [e] at q2
      exact fun v' m' H' ex hk r => ⟨kk, rep_bl r, q2 kk m' H' ex hk rfl⟩
    | exc cc h3 => rw [e] at q2; exact q2
    | bad => rw [e] at q2; exact q2⟩
theorem st_not (ha : PT X a (tDB X.K X.mg W ba)) : PT X (.UnaryOp .Not a pos) (tDB X.K X.mg W (bNot ba)) :=
  pickT fun σ H Q ⟨Z, m, ρ, c, at', p⟩ => ⟨_, pt_not ha, ⟨Z, m, ρ, c, at', (PostG.bind p).imp fun v H' ⟨d, m', h', ex, hk, rp, _, q⟩ => by
    subst rp
    exact q _ m' H' Ext.refl hk rfl⟩⟩
theorem sw_and1 (ha : PT X a (tDB X.K X.mg W ba)) : PW X (.BoolOp .And [a] pos) (tDB X.K X.mg W ba) := pw_and1 ha
theorem sw_or1 (ha : PT X a (tDB X.K X.mg W ba)) : PW X (.BoolOp .Or [a] pos) (tDB X.K X.mg W ba) := pw_or1 ha
theorem sw_and (ha : PT X a (tDB X.K X.mg W ba)) (hb : PW X (.BoolOp .And (b :: rest) pos) (tDB X.K X.mg W bb)) : PW X (.BoolOp .And (a :: b :: rest) pos) (tDB X.K X.mg W (bAnd ba bb)) :=
  pickW fun σ H Q ⟨Z, m, ρ, c, at', p⟩ => ⟨_, pw_and ha hb, ⟨Z, m, ρ, c, at', (PostG.bind p).imp fun v H' ⟨d, m', h', ex, hk, rp, _, q⟩ => by
    subst rp
    cases v with
    | true => exact ⟨Z, m', ρ, h', ⟨hk, ex.env at'.en⟩, q⟩
    | false => exact q _ m' H' Ext.refl hk rfl⟩⟩
theorem sw_or (ha : PT X a (tDB X.K X.mg W ba)) (hb : PW X (.BoolOp .Or (b :: rest) pos) (tDB X.K X.mg W bb)) : PW X (.BoolOp .Or (a :: b :: rest) pos) (tDB X.K X.mg W (bOr ba bb)) :=
  pickW fun σ H Q ⟨Z, m, ρ, c, at', p⟩ => ⟨_, pw_or ha hb, ⟨Z, m, ρ, c, at', (PostG.bind p).imp fun v H' ⟨d, m', h', ex, hk, rp, _, q⟩ => by
    subst rp
    cases v with
    | false => exact ⟨Z, m', ρ, h', ⟨hk, ex.env at'.en⟩, q⟩
    | true => exact q _ m' H' Ext.refl hk rfl⟩⟩
theorem se_one {op} (h : PE X a (tD X.K X.mg W f)) : PE X (.BoolOp op [a] pos) (tD X.K X.mg W f) := pe_one h
theorem se_and (ha : PE X a (tD X.K X.mg W f)) (hb : PE X (.BoolOp .And (b :: rest) pos) (tD X.K X.mg W g)) : PE X (.BoolOp .And (a :: b :: rest) pos) (tD X.K X.mg W (eAnd f g)) :=
  pick fun σ H Q ⟨Z, m, ρ, c, at', p⟩ => ⟨_, pe_andT ha hb, ⟨Z, m, ρ, c, at', (PostG.bind p).imp fun v H' ⟨d, m', h', ex, hk, rp, _, q⟩ => by
    obtain ⟨kk, t, q'⟩ := truth_post hk rp q
    refine ⟨kk, t, ?_⟩
    cases kk with
    | true => exact ⟨Z, m', ρ, h', ⟨hk, ex.env at'.en⟩, q'⟩
    | false => exact put_old hk rp q'⟩⟩
theorem se_or (ha : PE X a (tD X.K X.mg W f)) (hb : PE X (.BoolOp .Or (b :: rest) pos) (tD X.K X.mg W g)) : PE X (.BoolOp .Or (a :: b :: rest) pos) (tD X.K X.mg W (eOr f g)) :=
  pick fun σ H Q ⟨Z, m, ρ, c, at', p⟩ => ⟨_, pe_orT ha hb, ⟨Z, m, ρ, c, at', (PostG.bind p).imp fun v H' ⟨d, m', h', ex, hk, rp, _, q⟩ => by
    obtain ⟨kk, t, q'⟩ := truth_post hk rp q
    refine ⟨kk, t, ?_⟩
    cases kk with
    | true => exact put_old hk rp q'
    | false => exact ⟨Z, m', ρ, h', ⟨hk, ex.env at'.en⟩, q'⟩⟩⟩
theorem se_not (ha : PE X a (tD X.K X.mg W f)) : PE X (.UnaryOp .Not a pos) (tD X.K X.mg W (eNot f)) :=
  pick fun σ H Q ⟨Z, m, ρ, c, at', p⟩ => ⟨_, pe_notT ha, ⟨Z, m, ρ, c, at', (PostG.bind p).imp fun v H' ⟨d, m', h', ex, hk, rp, _, q⟩ => by
    obtain ⟨kk, t, q'⟩ := truth_post hk rp q
    exact ⟨kk, t, put_bl hk q'⟩⟩⟩
theorem se_if (hc : PT X c (tDB X.K X.mg W ba)) (ha : PE X a (tD X.K X.mg W f)) (hb : PE X b (tD X.K X.mg W g)) : PE X (.IfExp c a b pos) (tD X.K X.mg W (eIf ba f g)) :=
  pick fun σ H Q ⟨Z, m, ρ, c, at', p⟩ => ⟨_, pe_ifExp hc ha hb, ⟨Z, m, ρ, c, at', (PostG.bind p).imp fun v H' ⟨d, m', h', ex, hk, rp, _, q⟩ => by
    subst rp
    cases v with
    | true => exact ⟨Z, m', ρ, h', ⟨hk, ex.env at'.en⟩, q⟩
    | false => exact ⟨Z, m', ρ, h', ⟨hk, ex.env at'.en⟩, q⟩⟩⟩
/-- a op b op' c -/
def eCh (o o' : D → D → M D) (f g k : ED) : ED := fun ρ => M.bind (f ρ) fun x => M.bind (g ρ) fun y => M.bind (o x y) fun z h => match z with
  | .bl true => M.bind (k ρ) (fun w => o' y w) h
  | .bl false => .ok (.bl false) h
  | _ => .bad
theorem chain_den {r r' : R2} {o o' : D → D → M D} {K : PySem.W.Frag} {mg : Str → Option Value} {σ : L2.St} {H : Hp} {Q : VK} (h : tD K mg W (eCh o o' f g k) σ H Q) : tChain (rD2 K mg W o) (rD2 K mg W o') (tD K mg W f) (tD K mg W g) (tD K mg W k) σ H Q := by
  obtain ⟨Z, m, ρ, c, at', p⟩ := h
  refine ⟨Z, m, ρ, c, at', (PostG.bind p).imp fun v H1 ⟨x, m1, h1, ex1, hk1, r1, _, q1⟩ => ?_⟩
  refine ⟨Z, m1, ρ, h1, ⟨hk1, ex1.env at'.en⟩, (PostG.bind q1).imp fun u H2 ⟨y, m2, h2, ex2, hk2, r2, _, q2⟩ => ?_⟩
  refine ⟨Z, m2, h2, σ, x, y, hk2, ex2.rep r1, r2, (PostG.bind q2).imp fun w H3 ⟨z, m3, h3, ex3, hk3, r3, _, q3⟩ => ?_⟩
  split at q3
  · refine ⟨true, rep_bl r3, ?_⟩
    rw [if_pos rfl]
    refine ⟨Z, m3, ρ, h3, ⟨hk3, ex3.env (ex2.env (ex1.env at'.en))⟩, (PostG.bind q3).imp fun w4 H4 ⟨d4, m4, h4, ex4, hk4, r4, _, q4⟩ => ?_⟩
    exact ⟨Z, m4, h4, σ, y, d4, hk4, ex4.rep (ex3.rep r2), r4, q4⟩
  · refine ⟨false, rep_bl r3, ?_⟩
    rw [if_neg Bool.false_ne_true]
    exact put_bl hk3 q3
  · exact q3.elim
theorem se_chain {op op' : CmpOp} {o o' : D → D → M D} (ho : OpR X (compareOp op) (rD2 X.K X.mg W o)) (ho' : OpR X (compareOp op') (rD2 X.K X.mg W o')) (ha : PE X a (tD X.K X.mg W f)) (hb : PE X b (tD X.K X.mg W g)) (hc : PE X c (tD X.K X.mg W k))
    (hm : lastMarks [op, op'] [b, c] = false := by with_unfolding_all rfl) : PE X (.Compare a [op, op'] [b, c] pos) (tD X.K X.mg W (eCh o o' f g k)) :=
  pick fun σ H Q h => ⟨_, pe_chain ho ho' ha hb hc hm, chain_den (r := rD2 X.K X.mg W o) (r' := rD2 X.K X.mg W o') h⟩
theorem st_chain {op op' : CmpOp} {o o' : D → D → M D} (hB' : Boolish o') (ho : OpR X (compareOp op) (rD2 X.K X.mg W o)) (ho' : OpR X (compareOp op') (rD2 X.K X.mg W o')) (ha : PE X a (tD X.K X.mg W f)) (hb : PE X b (tD X.K X.mg W g)) (hc : PE X c (tD X.K X.mg W k))
    (hm : lastMarks [op, op'] [b, c] = false := by with_unfolding_all rfl) : PT X (.Compare a [op, op'] [b, c] pos) (tDB X.K X.mg W (bT (eCh o o' f g k))) :=
  pickT fun σ H Q ⟨Z, m, ρ, c, at', p⟩ => ⟨_, pt_chain ho ho' ha hb hc hm, by
    refine chain_den (r := rD2 X.K X.mg W o) (r' := rD2 X.K X.mg W o') ⟨Z, m, ρ, c, at', ?_⟩
    have fin : ∀ d h', eCh o o' f g k ρ c = .ok d h' → ∃ kk, d = .bl kk := by
      intro d h' e
      unfold eCh M.bind at e
      cases e1 : f ρ c with
      | exc _ _ => rw [e1] at e; cases e
      | bad => rw [e1] at e; cases e
      | ok x h1 =>
        rw [e1] at e
        dsimp only at e
        cases e2 : g ρ h1 with
        | exc _ _ => rw [e2] at e; cases e
        | bad => rw [e2] at e; cases e
        | ok y h2 =>
          rw [e2] at e
          dsimp only at e
          cases e3 : o x y h2 with
          | exc _ _ => rw [e3] at e; cases e
          | bad => rw [e3] at e; cases e
          | ok z h3 =>
            rw [e3] at e
            dsimp only at e
            split at e
            · cases e4 : k ρ h3 with
              | exc _ _ => rw [e4] at e; cases e
              | bad => rw [e4] at e; cases e
              | ok w h4 =>
                rw [e4] at e
                obtain ⟨kk, q, _⟩ := hB' y w h4 d h' e
                exact ⟨kk, q⟩
            · cases e; exact ⟨_, rfl⟩
            · cases e
    have p' : PostB X.K X.mg W σ Z m H (M.bind (fun h => eCh o o' f g k ρ h) truth c) Q := p
    unfold M.bind at p'
    dsimp only at p'
    cases e : eCh o o' f g k ρ c with
    | ok d h' =>
      obtain ⟨kk, rfl⟩ := fin d h' e
      rw [e] at p'
      exact fun v' m' H' ex hk r => ⟨kk, rep_bl r, p' kk m' H' ex hk rfl⟩
    | exc _ _ => rw [e] at p'; exact p'
    | bad => rw [e] at p'; exact p'⟩
end
theorem bo_eq : Boolish dEq := fun x y h d h' e => by unfold dEq at e; split at e <;> cases e; exact ⟨_, rfl, rfl⟩
theorem bo_ne : Boolish dNe := fun x y h d h' e => by unfold dNe at e; split at e <;> cases e; exact ⟨_, rfl, rfl⟩
theorem bo_is : Boolish dIs := fun x y h d h' e => by unfold dIs at e; split at e <;> cases e; exact ⟨_, rfl, rfl⟩
theorem bo_isnt : Boolish dIsnt := fun x y h d h' e => by unfold dIsnt at e; split at e <;> cases e; exact ⟨_, rfl, rfl⟩
theorem bo_le : Boolish dLe := fun x y h d h' e => by unfold dLe at e; split at e <;> cases e; exact ⟨_, rfl, rfl⟩
theorem bo_gt : Boolish dGt := fun x y h d h' e => by unfold dGt at e; split at e <;> cases e; exact ⟨_, rfl, rfl⟩
theorem bo_ge : Boolish dGe := fun x y h d h' e => by unfold dGe at e; split at e <;> cases e; exact ⟨_, rfl, rfl⟩
theorem bo_lt : Boolish dLt := fun x y h d h' e => by
  unfold dLt at e
  split at e
  · cases e; exact ⟨_, rfl, rfl⟩
  · cases e; exact ⟨_, rfl, rfl⟩
  · split at e <;> cases e; exact ⟨_, rfl, rfl⟩
  · cases e
theorem bo_in : Boolish dIn := fun x y h d h' e => by
  unfold dIn at e
  split at e
  · split at e <;> cases e; exact ⟨_, rfl, rfl⟩
  · cases e
theorem bo_notIn : Boolish dNotIn := fun x y h d h' e => by
  unfold dNotIn at e
  split at e
  · split at e <;> cases e; exact ⟨_, rfl, rfl⟩
  · cases e

/-! ### calls of what is built in -/
def eCall (op : List D → M D) (fs : AD) : ED := fun ρ => M.bind (fs ρ) op
def eMeth (op : D → List D → M D) (f : ED) (fs : AD) : ED := fun ρ => M.bind (f ρ) fun x => M.bind (fs ρ) fun ds => op x ds
section
variable {X : Cx} {W : WX} {x : Str} {p pos apos : Pos} {e o : Expr} {es : List Expr} {f : ED} {fs : AD} {id T : String} {op : List D → M D}
theorem se_callB (hc : CallR X (.builtin id) (rDL X.K X.mg W op)) (hg : Gl X x) (hm : X.mg x = none) (hv : bootBuiltins x = some (.builtin id)) (ha : PA X (e :: es) (tDL X.K X.mg W fs)) (hn : x ≠ "__name__" := by decide) (hdb : (x == ("__debug__" : Str)) = false := by decide)
    (he : starEach (e :: es) X.env = (false, eval e X.env) :: starEach es X.env := by rfl) (hpl : (backTo pos (starEach es X.env)).any (·.1) = false := by rfl) : PE X (.Call (.Name x p) (e :: es) [] pos) (tD X.K X.mg W (eCall op fs)) :=
  pick fun σ H Q h => ⟨_, pe_callB hc hg hm hv ha hn hdb he hpl, denL h fun _ _ _ q => q⟩
theorem se_callTy (hc : CallR X (.type T) (rDL X.K X.mg W op)) (hg : Gl X x) (hm : X.mg x = none) (hv : bootBuiltins x = some (.type T)) (ha : PA X (e :: es) (tDL X.K X.mg W fs)) (hn : x ≠ "__name__" := by decide) (hdb : (x == ("__debug__" : Str)) = false := by decide)
    (he : starEach (e :: es) X.env = (false, eval e X.env) :: starEach es X.env := by rfl) (hpl : (backTo pos (starEach es X.env)).any (·.1) = false := by rfl) : PE X (.Call (.Name x p) (e :: es) [] pos) (tD X.K X.mg W (eCall op fs)) :=
  pick fun σ H Q h => ⟨_, pe_callTy hc hg hm hv ha hn hdb he hpl, denL h fun _ _ _ q => q⟩
end
def dLen (ds : List D) : M D := fun h =>
  match ds with
  | [.str x] => if x.length ≤ sizeLine then .ok (.int x.length) h else .bad
  | [d] => match seq h d with
    | some xs => .ok (.int xs.length) h
    | none => .bad
  | _ => .bad
def dInt (ds : List D) : M D := fun h =>
  match ds with
  | [.int i] => .ok (.int i) h
  | [.bl b] => .ok (.int (if b then 1 else 0)) h
  | _ => .bad
def dStr (ds : List D) : M D := fun h =>
  match ds with
  | [.int i] => if i.natAbs.log2 < 1920 then .ok (.str (toString i)) h else .bad
  | _ => .bad
def dOrd (ds : List D) : M D := fun h =>
  match ds with
  | [.str x] => if x.length = 1 then .ok (.int (x.cps.getD 0 0 : Nat)) h else .bad
  | _ => .bad
def dMax2 (ds : List D) : M D := fun h =>
  match ds with
  | [.int i, .int j] => .ok (.int (if j > i then j else i)) h
  | _ => .bad
def dMin2 (ds : List D) : M D := fun h =>
  match ds with
  | [.int i, .int j] => .ok (.int (if j < i then j else i)) h
  | _ => .bad
def dTuple (ds : List D) : M D := fun h =>
  match ds with
  | [d] => match seq h d with
    | some xs => .ok (.tup xs) h
    | none => .bad
  | _ => .bad
/-- list(..): a list that stands still -/
def dList (ds : List D) : M D := fun h =>
  match ds with
  | [d] => match seq h d with
    | some xs => .ok (.lst xs) h
    | none => .bad
  | _ => .bad
/-- list(..): a cell -/
def dListC (ds : List D) : M D := fun h =>
  match ds with
  | [d] => match seq h d with
    | some xs => .ok (.ref h.length) (h ++ [.lst xs])
    | none => .bad
  | _ => .bad
theorem ok_small {x : Str} (h : ∀ c ∈ x.cps.toList, c < 128) : PyData.strOk x = true := by
  rw [ok_iff]
  intro c hc
  have := h c hc
  omega
section
variable {X : Cx} {W : WX}
theorem repL_one {K : PySem.W.Frag} {mg : Str → Option Value} {m : List Addr} {S : Hp} {d : D} {vs : List V} (r : RepL K mg m S [d] vs) : ∃ v, vs = [v] ∧ Rep K mg m S d v := by
  obtain ⟨v, t, rfl, a, b⟩ := r.of_cons
  rw [b.of_nil]
  exact ⟨v, rfl, a⟩
theorem repL_two {K : PySem.W.Frag} {mg : Str → Option Value} {m : List Addr} {S : Hp} {d e : D} {vs : List V} (r : RepL K mg m S [d, e] vs) : ∃ v u, vs = [v, u] ∧ Rep K mg m S d v ∧ Rep K mg m S e u := by
  obtain ⟨v, t, rfl, a, b⟩ := r.of_cons
  obtain ⟨u, rfl, c⟩ := repL_one b
  exact ⟨v, u, rfl, a, c⟩
theorem call_dLen : CallR X (.builtin "len") (rDL X.K X.mg W dLen) := by
  intro pins s σ H vs us Q I r ⟨Z, m, h, σ', ds, hk, rp, p⟩
  unfold dLen at p
  split at p
  · obtain ⟨v, rfl, g⟩ := repL_one rp
    obtain ⟨rfl, _⟩ := rep_str g
    split at p
    · rename_i hz
      exact call_len pins s σ H _ us Q I r ⟨_, _, rfl, ⟨hz, rfl⟩, put_int hk p⟩
    · exact p.elim
  · obtain ⟨v, rfl, g⟩ := repL_one rp
    split at p
    · rename_i xs hs
      obtain ⟨a, vs, rfl, g1, g2⟩ := hk.rseq g hs
      rw [← g2.length] at p
      refine call_len pins s σ H _ us Q I r ⟨_, _, rfl, ?_, put_int hk p⟩
      rcases g1 with g1 | g1
      · exact .inl ⟨vs, g1, rfl⟩
      · exact .inr ⟨vs, g1, rfl⟩
    · exact p.elim
  · exact p.elim
theorem call_dInt : CallR X (.type "int") (rDL X.K X.mg W dInt) := by
  intro pins s σ H vs us Q I r ⟨Z, m, h, σ', ds, hk, rp, p⟩
  unfold dInt at p
  split at p
  · obtain ⟨v, rfl, g⟩ := repL_one rp
    obtain rfl := rep_int g
    exact call_int1 pins s σ H _ us Q I r (.inl ⟨_, rfl, put_int hk p⟩)
  · obtain ⟨v, rfl, g⟩ := repL_one rp
    obtain rfl := rep_bl g
    exact call_int1 pins s σ H _ us Q I r (.inr ⟨_, rfl, put_int hk p⟩)
  · exact p.elim
theorem call_dOrd : CallR X (.builtin "ord") (rDL X.K X.mg W dOrd) := by
  intro pins s σ H vs us Q I r ⟨Z, m, h, σ', ds, hk, rp, p⟩
  unfold dOrd at p
  split at p
  · obtain ⟨v, rfl, g⟩ := repL_one rp
    obtain ⟨rfl, _⟩ := rep_str g
    split at p
    · rename_i hz
      exact call_ord pins s σ H _ us Q I r ⟨_, rfl, hz, put_int hk p⟩
    · exact p.elim
  · exact p.elim
theorem call_dMax2 (hc : X.calm = true) : CallR X (.builtin "max") (rDL X.K X.mg W dMax2) := by
  intro pins s σ H vs us Q I r ⟨Z, m, h, σ', ds, hk, rp, p⟩
  unfold dMax2 at p
  split at p
  · obtain ⟨v, u, rfl, g1, g2⟩ := repL_two rp
    obtain rfl := rep_int g1
    obtain rfl := rep_int g2
    exact call_max2 hc pins s σ H _ us Q I r ⟨_, _, rfl, put_int hk p⟩
  · exact p.elim
theorem call_dMin2 (hc : X.calm = true) : CallR X (.builtin "min") (rDL X.K X.mg W dMin2) := by
  intro pins s σ H vs us Q I r ⟨Z, m, h, σ', ds, hk, rp, p⟩
  unfold dMin2 at p
  split at p
  · obtain ⟨v, u, rfl, g1, g2⟩ := repL_two rp
    obtain rfl := rep_int g1
    obtain rfl := rep_int g2
    exact call_min2 hc pins s σ H _ us Q I r ⟨_, _, rfl, put_int hk p⟩
  · exact p.elim
theorem call_dTuple : CallR X (.type "tuple") (rDL X.K X.mg W dTuple) := by
  intro pins s σ H vs us Q I r ⟨Z, m, h, σ', ds, hk, rp, p⟩
  match ds, rp, p with
  | [], _, p => exact p.elim
  | _ :: _ :: _, _, p => exact p.elim
  | [d], rp, p =>
    obtain ⟨v, rfl, g⟩ := repL_one rp
    unfold dTuple at p
    dsimp only at p
    split at p
    · rename_i xs hs
      cases hv : vw h d with
      | tup ys =>
        have hs' := hs
        unfold seq at hs'
        rw [hv] at hs'
        cases hs'
        obtain ⟨a, vs, rfl, g1, g2⟩ := HeapOk.rtup g hv
        refine call_tuple_of pins s σ H _ us Q I r ⟨a, vs, rfl, .inr ⟨g1, ?_⟩⟩
        have e : d = .tup xs := by
          cases d with
          | ref n =>
            have hv' : (match h[n]? with | some (.lst xs) => D.lst xs | _ => .ref n) = .tup xs := hv
            split at hv' <;> cases hv'
          | tup zs => cases hv; rfl
          | _ => cases hv
        subst e
        exact put_old hk g p
      | lst ys =>
        have hs' := hs
        unfold seq at hs'
        rw [hv] at hs'
        cases hs'
        obtain ⟨a, vs, rfl, g1, g2⟩ := hk.rlst g hv
        exact call_tuple_of pins s σ H _ us Q I r ⟨a, vs, rfl, .inl ⟨SqL.of g1, put_tup hk g2 p⟩⟩
      | scr ys =>
        have hs' := hs
        unfold seq at hs'
        rw [hv] at hs'
        cases hs'
        obtain ⟨a, vs, rfl, g1, g2⟩ := HeapOk.rscr g hv
        exact call_tuple_of pins s σ H _ us Q I r ⟨a, vs, rfl, .inl ⟨g1, put_tup hk g2 p⟩⟩
      | _ => unfold seq at hs; rw [hv] at hs; cases hs
    · exact p.elim
theorem call_dList : CallR X (.type "list") (rDL X.K X.mg W dList) := by
  intro pins s σ H vs us Q I r ⟨Z, m, h, σ', ds, hk, rp, p⟩
  unfold dList at p
  split at p
  · obtain ⟨v, rfl, g⟩ := repL_one rp
    split at p
    · rename_i d xs hs
      obtain ⟨a, vs, rfl, g1, g2⟩ := hk.rseq g hs
      exact call_list_of pins s σ H _ us Q I r ⟨a, vs, rfl, g1, put_lst hk g2 p⟩
    · exact p.elim
  · exact p.elim
theorem call_dListC : CallR X (.type "list") (rDL X.K X.mg W dListC) := by
  intro pins s σ H vs us Q I r ⟨Z, m, h, σ', ds, hk, rp, p⟩
  unfold dListC at p
  split at p
  · obtain ⟨v, rfl, g⟩ := repL_one rp
    split at p
    · rename_i d xs hs
      obtain ⟨a, vs, rfl, g1, g2⟩ := hk.rseq g hs
      exact call_list_of pins s σ H _ us Q I r ⟨a, vs, rfl, g1, put_cell hk g2 p⟩
    · exact p.elim
  · exact p.elim
end
end FK

/-! part: FK5 -/
set_option Elab.async false
set_option linter.all false
set_option maxRecDepth 100000
set_option maxHeartbeats 4000000
/-! FK5: targets, statements, for, while, comprehensions. -/
namespace FK
open PySem PySem.Spec L2

/-! ### targets -/
abbrev GD := D → Env → Option Env
abbrev GsD := List D → Env → Option Env
def gN (i : Nat) : GD := fun d ρ => some (ρ.set i (some d))
def gT (ts : GsD) : GD := fun d ρ => match d with
  | .tup xs => ts xs ρ
  | _ => none
def gsN : GsD := fun xs ρ => match xs with
  | [] => some ρ
  | _ => none
def gsC (t : GD) (ts : GsD) : GsD := fun xs ρ => match xs with
  | [] => none
  | x :: r => match t x ρ with
    | some ρ' => ts r ρ'
    | none => none
/-- what a target leaves alone -/
def Kept (is : List Nat) (σ σ' : L2.St) : Prop := ∀ vs : List Nat, (∀ i ∈ is, i ∈ vs) → wipe σ' vs = wipe σ vs
section
variable (K : PySem.W.Frag) (mg : Str → Option Value)
def tDG (is : List Nat) (g : GD) : TG := fun v σ H Q => ∃ Z m ρ h d ρ', At K mg Z m ρ h σ H ∧ Rep K mg m (hide (Z ++ m) H) d v ∧ g d ρ = some ρ' ∧ ∀ σ', REnv K mg m (hide (Z ++ m) H) ρ' σ' → Kept is σ σ' → Q σ' H
def tDGs (is : List Nat) (g : GsD) : TGs := fun vs σ H Q => ∃ Z m ρ h ds ρ', At K mg Z m ρ h σ H ∧ RepL K mg m (hide (Z ++ m) H) ds vs ∧ g ds ρ = some ρ' ∧ ∀ σ', REnv K mg m (hide (Z ++ m) H) ρ' σ' → Kept is σ σ' → Q σ' H
end
theorem pickG {X : Cx} {e : Expr} {t : TG} (h : ∀ v σ H Q, t v σ H Q → ∃ t', PG X e t' ∧ t' v σ H Q) : PG X e t := ⟨fun pins s σ H v u Q I r q => by
  obtain ⟨t', p, q'⟩ := h v σ H Q q
  exact p.run pins s σ H v u Q I r q'⟩
theorem pickGs {X : Cx} {e : List Expr} {t : TGs} (h : ∀ v σ H Q, t v σ H Q → ∃ t', PGs X e t' ∧ t' v σ H Q) : PGs X e t := ⟨fun pins s σ H v u Q I r q => by
  obtain ⟨t', p, q'⟩ := h v σ H Q q
  exact p.run pins s σ H v u Q I r q'⟩
theorem wipe_set {σ : L2.St} {i : Nat} {x : Option V} : ∀ {vs : List Nat}, i ∈ vs → wipe (σ.set i x) vs = wipe σ vs
  | v :: vs, h => by
    unfold wipe
    by_cases e : i ∈ vs
    · rw [wipe_set e]
    · have e2 : i = v := by
        rcases List.mem_cons.mp h with z | z
        · exact z
        · exact absurd z e
      subst e2
      have push : ∀ vs : List Nat, i ∉ vs → wipe (σ.set i x) vs = (wipe σ vs).set i x := by
        intro vs
        induction vs with
        | nil => intro _; rfl
        | cons v vs ih =>
          intro hn
          simp only [List.mem_cons, not_or] at hn
          unfold wipe
          rw [ih hn.2, List.set_comm _ _ hn.1]
      rw [push vs e, List.set_set]
section
variable {X : Cx} {e : Expr} {es : List Expr} {pos : Pos} {is js : List Nat} {g : GD} {gs : GsD}
theorem sg_name {i : Nat} {x : Str} (hN : X.N.Nodup) (hi : X.N[i]? = some x) (hx : Loc X.env.scope x) (hf : X.fn x = true ∨ X.env.scope.names.lookup x = some .local := by first | exact .inl rfl | exact .inr rfl | assumption) : PG X (.Name x pos) (tDG X.K X.mg [i] (gN i)) :=
  pickG fun v σ H Q ⟨Z, m, ρ, h, d, ρ', at', r, e, q⟩ => ⟨_, pg_name hN hi hx hf, by
    cases e
    exact q _ (REnv.set r i at'.en) fun vs hv => wipe_set (hv i (by simp))⟩
theorem sg_nil : PGs X [] (tDGs X.K X.mg [] gsN) :=
  pickGs fun v σ H Q ⟨Z, m, ρ, h, ds, ρ', at', r, e, q⟩ => ⟨_, pgs_nil, by
    cases ds with
    | nil => cases e; exact ⟨r.of_nil, q _ at'.en fun _ _ => rfl⟩
    | cons _ _ => cases e⟩
theorem sg_cons (h1 : PG X e (tDG X.K X.mg is g)) (h2 : PGs X es (tDGs X.K X.mg js gs)) (hs : (assignEach (e :: es) X.env).map (·.2) = assign e X.env :: (assignEach es X.env).map (·.2) := by rfl) : PGs X (e :: es) (tDGs X.K X.mg (is ++ js) (gsC g gs)) :=
  pickGs fun v σ H Q ⟨Z, m, ρ, h, ds, ρ', at', r, e, q⟩ => ⟨_, pgs_cons h1 h2 hs, by
    cases ds with
    | nil => cases e
    | cons d ds =>
      obtain ⟨u, t, rfl, ra, rb⟩ := r.of_cons
      have e : (match g d ρ with | some ρ' => gs ds ρ' | none => none) = some ρ' := e
      cases e1 : g d ρ with
      | none => rw [e1] at e; cases e
      | some ρ1 =>
        rw [e1] at e
        refine ⟨u, t, rfl, Z, m, ρ, h, d, ρ1, at', ra, e1, fun σ1 en1 k1 => ?_⟩
        exact ⟨Z, m, ρ1, h, ds, ρ', ⟨at'.hk, en1⟩, rb, e, fun σ2 en2 k2 => q σ2 en2 fun vs hv => (k2 vs fun i hi => hv i (List.mem_append_right _ hi)).trans (k1 vs fun i hi => hv i (List.mem_append_left _ hi))⟩⟩
theorem sg_tup {k : Nat} {n : Nat} (hc : X.calm = true) (h : PGs X es (tDGs X.K X.mg is gs)) (hl : ∀ xs ρ ρ', gs xs ρ = some ρ' → xs.length = n) (hn : (assignEach es X.env).length = n := by rfl) (hst : (assignEach es X.env).findIdx? (·.1) = none := by rfl) :
    PG X (.Tuple es k pos) (tDG X.K X.mg is (gT gs)) :=
  pickG fun v σ H Q ⟨Z, m, ρ, c, d, ρ', at', r, e, q⟩ => ⟨_, pg_tup hc h hn hst, by
    cases d with
    | tup xs =>
      obtain ⟨a, vs, rfl, g1, g2⟩ := rep_tup r
      exact ⟨a, vs, rfl, hide_sub.sqt g1, by rw [g2.length]; exact hl xs ρ ρ' e, Z, m, ρ, c, xs, ρ', at', g2, e, q⟩
    | _ => cases e⟩
end
theorem gl_nil : ∀ xs ρ ρ', gsN xs ρ = some ρ' → xs.length = 0 := fun xs ρ ρ' e => by
  cases xs with
  | nil => rfl
  | cons _ _ => cases e
theorem gl_cons {g : GD} {gs : GsD} {n : Nat} (h : ∀ xs ρ ρ', gs xs ρ = some ρ' → xs.length = n) : ∀ xs ρ ρ', gsC g gs xs ρ = some ρ' → xs.length = n + 1 := fun xs ρ ρ' e => by
  cases xs with
  | nil => cases e
  | cons x r =>
    have e : (match g x ρ with | some ρ' => gs r ρ' | none => none) = some ρ' := e
    split at e
    · rw [List.length_cons, h _ _ _ e]
    · cases e

/-! ### statements -/
def sE (f : ED) (k : D → SD) : SD := fun ρ h => match f ρ h with
  | .ok d h1 => k d ρ h1
  | .exc c h1 => .exc c ρ h1
  | .bad => .bad
def sB (b : BD) (k : Bool → SD) : SD := fun ρ h => match b ρ h with
  | .ok d h1 => k d ρ h1
  | .exc c h1 => .exc c ρ h1
  | .bad => .bad
def sNil : SD := fun ρ h => .ok .nx ρ h
def sBrk : SD := fun ρ h => .ok .bk ρ h
def sCnt : SD := fun ρ h => .ok .ct ρ h
def sRetN : SD := fun ρ h => .ok (.rt .non) ρ h
def sSeq (a b : SD) : SD := fun ρ h => match a ρ h with
  | .ok .nx ρ1 h1 => b ρ1 h1
  | r => r
def sRet (f : ED) : SD := sE f fun d ρ h => .ok (.rt d) ρ h
def sExpr (f : ED) : SD := sE f fun _ => sNil
def sAsg (f : ED) (g : GD) : SD := sE f fun d ρ h => match g d ρ with
  | some ρ' => .ok .nx ρ' h
  | none => .bad
def sIf (b : BD) (s t : SD) : SD := sB b fun k => if k = true then s else t
theorem pickS {X : Cx} {e : Stmt} {t : TS} (h : ∀ σ H E, t E σ H → ∃ t', PS X e t' ∧ t' E σ H) : PS X e t := ⟨fun pins s σ H E I q => by
  obtain ⟨t', p, q'⟩ := h σ H E q
  exact p.run pins s σ H E I q'⟩
theorem pickSs {X : Cx} {e : List Stmt} {t : TS} (h : ∀ σ H E, t E σ H → ∃ t', PSs X e t' ∧ t' E σ H) : PSs X e t := ⟨fun pins s σ H E I q => by
  obtain ⟨t', p, q'⟩ := h σ H E q
  exact p.run pins s σ H E I q'⟩
section
variable {K : PySem.W.Frag} {mg : Str → Option Value} {Z m m1 : List Addr} {H H1 : Hp} {h : CH} {W : WX} {ρ : Env} {σ : L2.St} {E E' : Ends}
theorem PostS.from {r : RS} (ex : Ext Z m H m1 H1) (p : PostS K mg W Z m H r E) : PostS K mg W Z m1 H1 r E := by
  cases r with
  | ok f ρ h =>
    cases f with
    | nx => exact fun σ' m' H' e => p σ' m' H' (ex.trans e)
    | bk => exact fun σ' m' H' e => p σ' m' H' (ex.trans e)
    | ct => exact fun σ' m' H' e => p σ' m' H' (ex.trans e)
    | rt d => exact fun σ' m' H' e => p σ' m' H' (ex.trans e)
  | exc c ρ h => exact fun σ' m' H' cls e => p σ' m' H' cls (ex.trans e)
  | bad => exact p
/-- an expression, then what follows -/
theorem PostS.ofE {f : ED} {k : D → SD} (at' : At K mg Z m ρ h σ H) (p : PostS K mg W Z m H (sE f k ρ h) E) :
    Post K mg W σ Z m H (f ρ h) (fun v H' => ∃ d m' h', Ext Z m H m' H' ∧ At K mg Z m' ρ h' σ H' ∧ Rep K mg m' (hide (Z ++ m') H') d v ∧ PostS K mg W Z m' H' (k d ρ h') E) := by
  unfold sE at p
  cases e : f ρ h with
  | ok d h1 =>
    rw [e] at p
    exact fun v m' H' ex hk r => ⟨d, m', h1, ex, ⟨hk, ex.env at'.en⟩, r, PostS.from ex p⟩
  | exc c h1 =>
    rw [e] at p
    exact fun m' H' cls ex hk hc => p σ m' H' cls ex hk (ex.env at'.en) hc
  | bad => rw [e] at p; exact p
theorem PostS.ofB {f : BD} {k : Bool → SD} (at' : At K mg Z m ρ h σ H) (p : PostS K mg W Z m H (sB f k ρ h) E) :
    PostB K mg W σ Z m H (f ρ h) (fun d H' => ∃ m' h', Ext Z m H m' H' ∧ At K mg Z m' ρ h' σ H' ∧ PostS K mg W Z m' H' (k d ρ h') E) := by
  unfold sB at p
  cases e : f ρ h with
  | ok d h1 =>
    rw [e] at p
    intro v m' H' ex hk r
    subst r
    exact ⟨m', h1, ex, ⟨hk, ex.env at'.en⟩, PostS.from ex p⟩
  | exc c h1 =>
    rw [e] at p
    exact fun m' H' cls ex hk hc => p σ m' H' cls ex hk (ex.env at'.en) hc
  | bad => rw [e] at p; exact p
/-- one statement of two -/
theorem PostS.seq {a b : SD} (p : PostS K mg W Z m H (sSeq a b ρ h) E) : PostS K mg W Z m H (a ρ h) { E with nx := tDS K mg W b E } := by
  unfold sSeq at p
  cases e : a ρ h with
  | ok f ρ1 h1 =>
    rw [e] at p
    cases f with
    | nx => exact fun σ' m' H' ex hk en => ⟨Z, m', ρ1, h1, ⟨hk, en⟩, PostS.from ex p⟩
    | bk => exact p
    | ct => exact p
    | rt d => exact p
  | exc c ρ1 h1 => rw [e] at p; exact p
  | bad => rw [e] at p; exact p
end
section
variable {X : Cx} {W : WX} {e o : Expr} {es : List Expr} {pos : Pos} {st : Stmt} {sts ths els : List Stmt} {f : ED} {b : BD} {a c : SD} {g : GD} {is : List Nat}
theorem ss_nil : PSs X [] (tDS X.K X.mg W sNil) := pickSs fun σ H E ⟨Z, m, ρ, h, at', p⟩ => ⟨_, pss_nil, p σ m H Ext.refl at'.hk at'.en⟩
theorem ss_cons (h1 : PS X st (tDS X.K X.mg W a)) (h2 : PSs X sts (tDS X.K X.mg W c)) : PSs X (st :: sts) (tDS X.K X.mg W (sSeq a c)) :=
  pickSs fun σ H E ⟨Z, m, ρ, h, at', p⟩ => ⟨_, pss_cons h1 h2, Z, m, ρ, h, at', PostS.seq p⟩
theorem ss_one (h1 : PS X st (tDS X.K X.mg W a)) : PSs X [st] (tDS X.K X.mg W a) := pss_one h1
theorem ss_pass : PS X (.Pass pos) (tDS X.K X.mg W sNil) := pickS fun σ H E ⟨Z, m, ρ, h, at', p⟩ => ⟨_, ps_pass, p σ m H Ext.refl at'.hk at'.en⟩
theorem ss_break : PS X (.Break pos) (tDS X.K X.mg W sBrk) := pickS fun σ H E ⟨Z, m, ρ, h, at', p⟩ => ⟨_, ps_break, p σ m H Ext.refl at'.hk at'.en⟩
theorem ss_continue : PS X (.Continue pos) (tDS X.K X.mg W sCnt) := pickS fun σ H E ⟨Z, m, ρ, h, at', p⟩ => ⟨_, ps_continue, p σ m H Ext.refl at'.hk at'.en⟩
theorem ss_retN : PS X (.Return none pos) (tDS X.K X.mg W sRetN) := pickS fun σ H E ⟨Z, m, ρ, h, at', p⟩ => ⟨_, ps_retN, p _ m H Ext.refl at'.hk mk_non⟩
theorem ss_ret (he : PE X e (tD X.K X.mg W f)) : PS X (.Return (some e) pos) (tDS X.K X.mg W (sRet f)) :=
  pickS fun σ H E ⟨Z, m, ρ, h, at', p⟩ => ⟨_, ps_ret he, Z, m, ρ, h, at', (PostS.ofE at' p).imp fun v H' ⟨d, m', h', ex, at2, r, q⟩ => q v m' H' Ext.refl at2.hk r⟩
theorem ss_expr (he : PE X e (tD X.K X.mg W f)) (hs : swapsWith e none pos.line X.env = pure false := by rfl) : PS X (.Expr e pos) (tDS X.K X.mg W (sExpr f)) :=
  pickS fun σ H E ⟨Z, m, ρ, h, at', p⟩ => ⟨_, ps_expr he hs, Z, m, ρ, h, at', (PostS.ofE at' p).imp fun v H' ⟨d, m', h', ex, at2, r, q⟩ => q σ m' H' Ext.refl at2.hk at2.en⟩
theorem ss_if {cnd : Expr} (hc : PT X cnd (tDB X.K X.mg W b)) (ha : PSs X ths (tDS X.K X.mg W a)) (hb : PSs X els (tDS X.K X.mg W c)) : PS X (.If cnd ths els pos) (tDS X.K X.mg W (sIf b a c)) :=
  pickS fun σ H E ⟨Z, m, ρ, h, at', p⟩ => ⟨_, ps_if hc ha hb, Z, m, ρ, h, at', (PostS.ofB at' p).imp fun k H' ⟨m', h', ex, at2, q⟩ => by
    cases k with
    | true => exact ⟨Z, m', ρ, h', at2, q⟩
    | false => exact ⟨Z, m', ρ, h', at2, q⟩⟩
theorem ss_asg {tg : Expr} (he : PE X e (tD X.K X.mg W f)) (hg : PG X tg (tDG X.K X.mg is g)) (hs : swapsWithSole [tg] e pos.line X.env = pure false := by rfl) (hw : swappedStores [tg] e X.env = pure none := by rfl)
    (h1 : (assignEach [tg] X.env).map (·.2) = [assign tg X.env] := by rfl) : PS X (.Assign [tg] e pos) (tDS X.K X.mg W (sAsg f g)) :=
  pickS fun σ H E ⟨Z, m, ρ, h, at', p⟩ => ⟨_, ps_asg he hg hs hw h1, Z, m, ρ, h, at', (PostS.ofE at' p).imp fun v H' ⟨d, m', h', ex, at2, r, q⟩ => by
    split at q
    · rename_i ρ' hr
      exact ⟨Z, m', ρ, h', d, ρ', at2, r, hr, fun σ' en _ => q σ' m' H' Ext.refl at2.hk en⟩
    · exact q.elim⟩
end

/-! ### what is walked -/
/-- the items; the cell, if a cell is walked -/
abbrev ITD := Env → M (List D × Option Nat)
def gd (o : Option Nat) (ds : List D) (h : CH) : Prop := match o with
  | none => True
  | some n => h[n]? = some (.lst ds)
structure Wk (K : PySem.W.Frag) (mg : Str → Option Value) (J : It) (ds : List D) (o : Option Nat) (m0 : List Addr) (S0 : Hp) : Prop where
  go : ∀ Z m h H (i : Nat) d, (∀ (n : Nat) a, m0[n]? = some a → m[n]? = some a) → Sub S0 (hide (Z ++ m) H) → HeapOk K mg Z m h H → gd o ds h → ds[i]? = some d → J.go i H ∧ ∀ x H', J.yld i H x H' → H' = H ∧ Rep K mg m (hide (Z ++ m) H) d x
  stop : ∀ Z m h H, (∀ (n : Nat) a, m0[n]? = some a → m[n]? = some a) → Sub S0 (hide (Z ++ m) H) → HeapOk K mg Z m h H → gd o ds h → J.stop ds.length H
def tDI (K : PySem.W.Frag) (mg : Str → Option Value) (W : WX) (f : ITD) : TI := fun σ H R => ∃ Z m ρ h, At K mg Z m ρ h σ H ∧ match f ρ h with
  | .ok (ds, o) h1 => ∀ J m1 H1, Ext Z m H m1 H1 → HeapOk K mg Z m1 h1 H1 → Wk K mg J ds o m1 (hide (Z ++ m1) H1) → R J H1
  | .exc c h1 => ∀ m' H' cls, Ext Z m H m' H' → HeapOk K mg Z m' h1 H' → mg c = some cls → W cls none σ H'
  | .bad => False
def chars (x : Str) : List D := x.cps.toList.map fun c => .str ⟨#[c]⟩
def itOf (d : D) (h : CH) : R (List D × Option Nat) :=
  match d with
  | .str x => .ok (chars x, none) h
  | .ref n => match h[n]? with
    | some (.lst xs) => .ok (xs, some n) h
    | _ => .bad
  | .tup xs => .ok (xs, none) h
  | .lst xs => .ok (xs, none) h
  | .scr xs => .ok (xs, none) h
  | _ => .bad
def iE (f : ED) : ITD := fun ρ => M.bind (f ρ) itOf
def rangeD (lo hi : Int) : List D := (List.range (hi - lo).toNat).map fun (k : Nat) => .int (lo + (k : Int))
def inR (i : Int) : Prop := -(2 ^ 62) ≤ i ∧ i < 2 ^ 62
noncomputable instance (i : Int) : Decidable (inR i) := Classical.propDecidable _
def rng1 : List D → Option Int
  | [.int j] => some j
  | _ => none
def rng2 : List D → Option (Int × Int)
  | [.int i, .int j] => some (i, j)
  | _ => none
theorem rng1_eq {ds : List D} {j : Int} (e : rng1 ds = some j) : ds = [.int j] := by
  unfold rng1 at e
  split at e <;> cases e
  rfl
theorem rng2_eq {ds : List D} {j : Int × Int} (e : rng2 ds = some j) : ds = [.int j.1, .int j.2] := by
  unfold rng2 at e
  split at e <;> cases e
  rfl
noncomputable def iR1 (fs : AD) : ITD := fun ρ => M.bind (fs ρ) fun ds h => match rng1 ds with
  | some j => if inR j then .ok (rangeD 0 j, none) h else .bad
  | none => .bad
noncomputable def iR2 (fs : AD) : ITD := fun ρ => M.bind (fs ρ) fun ds h => match rng2 ds with
  | some r => if inR r.1 ∧ inR r.2 then .ok (rangeD r.1 r.2, none) h else .bad
  | none => .bad
theorem pickI {X : Cx} {tg e : Expr} {t : TI} (h : ∀ σ H R, t σ H R → ∃ t', PI X tg e t' ∧ t' σ H R) : PI X tg e t := ⟨fun pins s σ H R I q => by
  obtain ⟨t', p, q'⟩ := h σ H R q
  exact p.run pins s σ H R I q'⟩
section
variable {K : PySem.W.Frag} {mg : Str → Option Value} {m : List Addr} {S : Hp}
theorem wk_list {a : Addr} {vs : List V} {ds : List D} (g1 : SqL K S a vs) (g2 : RepL K mg m S ds vs) : Wk K mg (Itl K a) ds none m S where
  go := fun Z m' h' H' i d pre st hk _ hd => by
    have s1 := (st.trans hide_sub).sql g1
    obtain ⟨v, e1, r⟩ := g2.get hd
    exact ⟨⟨vs, v, s1, e1⟩, fun x H2 y => by
      obtain ⟨rfl, y⟩ := y
      have := y vs s1
      rw [e1] at this
      cases this
      exact ⟨rfl, Rep.mono pre st _ _ r⟩⟩
  stop := fun Z m' h' H' pre st hk _ => ⟨vs, (st.trans hide_sub).sql g1, by rw [g2.length]; exact Nat.le_refl _⟩
theorem wk_tup {a : Addr} {vs : List V} {ds : List D} (g1 : SqT K S a vs) (g2 : RepL K mg m S ds vs) : Wk K mg (Itt K a) ds none m S where
  go := fun Z m' h' H' i d pre st hk _ hd => by
    have s1 := (st.trans hide_sub).sqt g1
    obtain ⟨v, e1, r⟩ := g2.get hd
    exact ⟨⟨vs, v, s1, e1⟩, fun x H2 y => by
      obtain ⟨rfl, y⟩ := y
      have := y vs s1
      rw [e1] at this
      cases this
      exact ⟨rfl, Rep.mono pre st _ _ r⟩⟩
  stop := fun Z m' h' H' pre st hk _ => ⟨vs, (st.trans hide_sub).sqt g1, by rw [g2.length]; exact Nat.le_refl _⟩
theorem wk_cell {a : Addr} {n : Nat} {ds : List D} (g1 : m[n]? = some a) : Wk K mg (Itl K a) ds (some n) m S where
  go := fun Z m' h' H' i d pre st hk g hd => by
    obtain ⟨vs, e1, r⟩ := hk.cell n _ a g (pre n a g1)
    obtain ⟨v, e2, r2⟩ := r.get hd
    exact ⟨⟨vs, v, SqL.of e1, e2⟩, fun x H2 y => by
      obtain ⟨rfl, y⟩ := y
      have := y vs (SqL.of e1)
      rw [e2] at this
      cases this
      exact ⟨rfl, r2⟩⟩
  stop := fun Z m' h' H' pre st hk g => by
    obtain ⟨vs, e1, r⟩ := hk.cell n _ a g (pre n a g1)
    exact ⟨vs, SqL.of e1, by rw [r.length]; exact Nat.le_refl _⟩
theorem wk_str {x : Str} (hx : PyData.strOk x = true) : Wk K mg (Its x) (chars x) none m S where
  go := fun Z m' h' H' i d pre st hk _ hd => by
    unfold chars at hd
    rw [List.getElem?_map] at hd
    cases e : x.cps.toList[i]? with
    | none => rw [e] at hd; cases hd
    | some c =>
      rw [e] at hd
      cases hd
      have e' : x.cps[i]? = some c := by simpa using e
      refine ⟨(by show i < x.cps.size; have := (List.getElem?_eq_some_iff.mp e).1; simpa using this), fun v H2 y => ?_⟩
      obtain ⟨rfl, c', h1, rfl⟩ := y
      rw [e'] at h1
      cases h1
      exact ⟨rfl, mk_str (ok_one hx (List.mem_of_getElem? e))⟩
  stop := fun Z m' h' H' pre st hk _ => by
    show x.cps.size ≤ (chars x).length
    unfold chars
    simp
theorem wk_range (lo hi : Int) : Wk K mg (Itr lo (hi - lo).toNat) (rangeD lo hi) none m S where
  go := fun Z m' h' H' i d pre st hk _ hd => by
    unfold rangeD at hd
    rw [List.getElem?_map] at hd
    cases e : (List.range (hi - lo).toNat)[i]? with
    | none => rw [e] at hd; cases hd
    | some k =>
      rw [e] at hd
      cases hd
      obtain ⟨h1, h2⟩ := List.getElem?_eq_some_iff.mp e
      simp at h1 h2
      subst h2
      refine ⟨(by show i < (hi - lo).toNat; omega), fun v H2 y => ?_⟩
      obtain ⟨rfl, rfl⟩ := y
      exact ⟨rfl, mk_int _⟩
  stop := fun Z m' h' H' pre st hk _ => by
    show (hi - lo).toNat ≤ (rangeD lo hi).length
    unfold rangeD
    simp
end
end FK

/-! part: FK6 -/
set_option Elab.async false
set_option linter.all false
set_option maxRecDepth 100000
set_option maxHeartbeats 4000000
/-! FK6: what a for walks, for, while, list comprehensions. -/
namespace FK
open PySem PySem.Spec L2

section
variable {X : Cx} {W : WX} {tg e a b : Expr} {f g : ED} {fs : AD} {p pos : Pos}
theorem itOf_heap {d : D} {h h' : CH} {r} (e : itOf d h = .ok r h') : h' = h := by
  unfold itOf at e
  split at e
  · cases e; rfl
  · split at e <;> cases e; rfl
  · cases e; rfl
  · cases e; rfl
  · cases e; rfl
  · cases e
theorem si_of (he : PE X e (tD X.K X.mg W f)) : PI X tg e (tDI X.K X.mg W (iE f)) := by
  refine pickI fun σ H R ⟨Z, m, ρ, h, at', p⟩ => ?_
  unfold iE M.bind at p
  cases e1 : f ρ h with
  | bad => rw [e1] at p; exact p.elim
  | exc c h1 =>
    rw [e1] at p
    refine ⟨_, pi_list he, Z, m, ρ, h, at', ?_⟩
    rw [e1]
    exact p
  | ok d h1 =>
    rw [e1] at p
    dsimp only at p
    unfold itOf at p
    cases d with
    | str x =>
      refine ⟨_, pi_str he, Z, m, ρ, h, at', ?_⟩
      rw [e1]
      intro v m1 H1 ex hk r
      obtain ⟨rfl, k⟩ := rep_str r
      exact ⟨x, rfl, p _ m1 H1 ex hk (wk_str k)⟩
    | tup xs =>
      refine ⟨_, pi_tup he, Z, m, ρ, h, at', ?_⟩
      rw [e1]
      intro v m1 H1 ex hk r
      obtain ⟨l, vs, rfl, g1, g2⟩ := rep_tup r
      exact ⟨l, rfl, ⟨vs, hide_sub.sqt g1⟩, p _ m1 H1 ex hk (wk_tup g1 g2)⟩
    | lst xs =>
      refine ⟨_, pi_list he, Z, m, ρ, h, at', ?_⟩
      rw [e1]
      intro v m1 H1 ex hk r
      unfold Rep at r
      obtain ⟨l, vs, rfl, g1, g2⟩ := r
      exact ⟨l, rfl, ⟨vs, SqL.of (hide_sub _ _ g1)⟩, p _ m1 H1 ex hk (wk_list (SqL.of g1) g2)⟩
    | scr xs =>
      refine ⟨_, pi_list he, Z, m, ρ, h, at', ?_⟩
      rw [e1]
      intro v m1 H1 ex hk r
      unfold Rep at r
      obtain ⟨l, vs, rfl, g1, g2⟩ := r
      exact ⟨l, rfl, ⟨vs, hide_sub.sql g1⟩, p _ m1 H1 ex hk (wk_list g1 g2)⟩
    | ref n =>
      dsimp only at p
      cases e2 : h1[n]? with
      | none => rw [e2] at p; exact p.elim
      | some c =>
        cases c with
        | ins _ _ _ => rw [e2] at p; exact p.elim
        | tab _ => rw [e2] at p; exact p.elim
        | dS _ _ => rw [e2] at p; exact p.elim
        | dM _ _ => rw [e2] at p; exact p.elim
        | lst xs =>
          rw [e2] at p
          refine ⟨_, pi_list he, Z, m, ρ, h, at', ?_⟩
          rw [e1]
          intro v m1 H1 ex hk r
          unfold Rep at r
          obtain ⟨l, g1, rfl⟩ := r
          obtain ⟨vs, g2, g3⟩ := hk.cell n _ l e2 g1
          exact ⟨l, rfl, ⟨vs, SqL.of g2⟩, p _ m1 H1 ex hk (wk_cell g1)⟩
    | non => exact p.elim
    | bl _ => exact p.elim
    | int _ => exact p.elim
    | obj _ _ _ => exact p.elim
theorem si_range1 (hg : Gl X "range") (hm : X.mg "range" = none) (ha : PA X [a] (tDL X.K X.mg W fs)) (hs : starEach [a] X.env = [(false, eval a X.env)] := by rfl) : PI X tg (.Call (.Name "range" p) [a] [] pos) (tDI X.K X.mg W (iR1 fs)) := by
  refine pickI fun σ H R ⟨Z, m, ρ, h, at', p⟩ => ⟨_, pi_range1 hg hm ha hs, Z, m, ρ, h, at', ?_⟩
  unfold iR1 M.bind at p
  cases e1 : fs ρ h with
  | bad => rw [e1] at p; exact p.elim
  | exc c h1 => rw [e1] at p; exact p
  | ok ds h1 =>
    rw [e1] at p
    dsimp only at p
    intro vs m1 H1 ex hk r
    cases e2 : rng1 ds with
    | none => rw [e2] at p; exact p.elim
    | some j =>
      rw [e2] at p
      dsimp only at p
      obtain rfl := rng1_eq e2
      obtain ⟨v, rfl, g⟩ := repL_one r
      obtain rfl := rep_int g
      by_cases hj : inR j
      · rw [if_pos hj] at p
        refine ⟨_, rfl, hj.1, hj.2, ?_⟩
        have w := wk_range (K := X.K) (mg := X.mg) (m := m1) (S := hide (Z ++ m1) H1) 0 j
        rw [Int.sub_zero] at w
        exact p _ m1 H1 ex hk w
      · rw [if_neg hj] at p; exact p.elim
theorem si_range2 (hg : Gl X "range") (hm : X.mg "range" = none) (ha : PA X [a, b] (tDL X.K X.mg W fs)) (hs : starEach [a, b] X.env = [(false, eval a X.env), (false, eval b X.env)] := by rfl) (hs2 : starEach [b] X.env = [(false, eval b X.env)] := by rfl) :
    PI X tg (.Call (.Name "range" p) [a, b] [] pos) (tDI X.K X.mg W (iR2 fs)) := by
  refine pickI fun σ H R ⟨Z, m, ρ, h, at', p⟩ => ⟨_, pi_range2 hg hm ha hs hs2, Z, m, ρ, h, at', ?_⟩
  unfold iR2 M.bind at p
  cases e1 : fs ρ h with
  | bad => rw [e1] at p; exact p.elim
  | exc c h1 => rw [e1] at p; exact p
  | ok ds h1 =>
    rw [e1] at p
    dsimp only at p
    intro vs m1 H1 ex hk r
    cases e2 : rng2 ds with
    | none => rw [e2] at p; exact p.elim
    | some j =>
      rw [e2] at p
      dsimp only at p
      obtain rfl := rng2_eq e2
      obtain ⟨v, u, rfl, g, g'⟩ := repL_two r
      obtain rfl := rep_int g
      obtain rfl := rep_int g'
      by_cases hj : inR j.1 ∧ inR j.2
      · rw [if_pos hj] at p
        exact ⟨_, _, rfl, ⟨hj.1.1, hj.1.2, hj.2.1, hj.2.2⟩, p _ m1 H1 ex hk (wk_range j.1 j.2)⟩
      · rw [if_neg hj] at p; exact p.elim
end

/-! ### for -/
def forL (g : GD) (body : SD) : List D → SD
  | [] => sNil
  | d :: ds => fun ρ h => match g d ρ with
    | none => .bad
    | some ρ1 => match body ρ1 h with
      | .ok .nx ρ2 h2 => forL g body ds ρ2 h2
      | .ok .ct ρ2 h2 => forL g body ds ρ2 h2
      | .ok .bk ρ2 h2 => .ok .nx ρ2 h2
      | r => r
open Classical in
/-- over a cell: it must stand as it stood, turn by turn -/
noncomputable def forC (n : Nat) (all : List D) (g : GD) (body : SD) : List D → SD
  | [] => fun ρ h => if h[n]? = some (.lst all) then .ok .nx ρ h else .bad
  | d :: ds => fun ρ h => if h[n]? = some (.lst all) then (match g d ρ with
    | none => .bad
    | some ρ1 => match body ρ1 h with
      | .ok .nx ρ2 h2 => forC n all g body ds ρ2 h2
      | .ok .ct ρ2 h2 => forC n all g body ds ρ2 h2
      | .ok .bk ρ2 h2 => .ok .nx ρ2 h2
      | r => r) else .bad
noncomputable def forX (o : Option Nat) (all : List D) (g : GD) (body : SD) : List D → SD := match o with
  | none => forL g body
  | some n => forC n all g body
noncomputable def sFor (it : ITD) (g : GD) (body : SD) : SD := fun ρ h => match it ρ h with
  | .ok (ds, o) h1 => forX o ds g body ds ρ h1
  | .exc c h1 => .exc c ρ h1
  | .bad => .bad
section
variable {K : PySem.W.Frag} {mg : Str → Option Value} {Z m : List Addr} {H : Hp} {h : CH} {W : WX} {ρ : Env} {E : Ends} {o : Option Nat} {all : List D} {g : GD} {body : SD}
theorem forX_nil (p : PostS K mg W Z m H (forX o all g body [] ρ h) E) : gd o all h ∧ PostS K mg W Z m H (.ok .nx ρ h) E := by
  cases o with
  | none => exact ⟨trivial, p⟩
  | some n =>
    unfold forX at p
    dsimp only at p
    unfold forC at p
    split at p
    · rename_i hn; exact ⟨hn, p⟩
    · exact p.elim
theorem turn_post {r : RS} {nextS : Env → CH → RS} (p : PostS K mg W Z m H (match r with | .ok .nx ρ2 h2 => nextS ρ2 h2 | .ok .ct ρ2 h2 => nextS ρ2 h2 | .ok .bk ρ2 h2 => .ok .nx ρ2 h2 | r => r) E)
    (N : L2.St → Hp → Prop) (hN : ∀ ρ2 h2 σ' m' H', Ext Z m H m' H' → HeapOk K mg Z m' h2 H' → REnv K mg m' (hide (Z ++ m') H') ρ2 σ' → PostS K mg W Z m' H' (nextS ρ2 h2) E → N σ' H') : PostS K mg W Z m H r { E with nx := N, ct := N, bk := E.nx } := by
  cases r with
  | ok f ρ2 h2 =>
    cases f with
    | nx => exact fun σ' m' H' ex hk en => hN ρ2 h2 σ' m' H' ex hk en (PostS.from ex p)
    | ct => exact fun σ' m' H' ex hk en => hN ρ2 h2 σ' m' H' ex hk en (PostS.from ex p)
    | bk => exact p
    | rt d => exact p
  | exc c ρ2 h2 => exact p
  | bad => exact p
theorem forX_cons {d : D} {ds : List D} (p : PostS K mg W Z m H (forX o all g body (d :: ds) ρ h) E) (N : L2.St → Hp → Prop)
    (hN : ∀ ρ2 h2 σ' m' H', Ext Z m H m' H' → HeapOk K mg Z m' h2 H' → REnv K mg m' (hide (Z ++ m') H') ρ2 σ' → PostS K mg W Z m' H' (forX o all g body ds ρ2 h2) E → N σ' H') :
    gd o all h ∧ ∃ ρ1, g d ρ = some ρ1 ∧ PostS K mg W Z m H (body ρ1 h) { E with nx := N, ct := N, bk := E.nx } := by
  cases o with
  | none =>
    refine ⟨trivial, ?_⟩
    unfold forX at p
    dsimp only at p
    unfold forL at p
    cases e : g d ρ with
    | none => rw [e] at p; exact p.elim
    | some ρ1 =>
      rw [e] at p
      exact ⟨ρ1, rfl, turn_post p N hN⟩
  | some n =>
    unfold forX at p
    dsimp only at p
    unfold forC at p
    split at p
    · rename_i hn
      refine ⟨hn, ?_⟩
      cases e : g d ρ with
      | none => rw [e] at p; exact p.elim
      | some ρ1 =>
        rw [e] at p
        exact ⟨ρ1, rfl, turn_post p N hN⟩
    · exact p.elim
end
section
variable {X : Cx} {W : WX} {tg iter : Expr} {body : List Stmt} {it : ITD} {g : GD} {is : List Nat} {bd : SD} {pos : Pos} {b : BD} {cnd : Expr}
theorem ss_for (hp : PassesOwn (model X.prog X.w) X.A X.env X.xe) (hc : X.calm = true) (hi : PI X tg iter (tDI X.K X.mg W it)) (hg : PG X tg (tDG X.K X.mg is g)) (hb : PSs X body (tDS X.K X.mg W bd))
    (hs : ∀ x, foldedSetIterable iter X.env x = pure x := by intro _; rfl) : PS X (.For tg iter body [] pos) (tDS X.K X.mg W (sFor it g bd)) := by
  refine pickS fun σ H E ⟨Z, m, ρ, h, at', p⟩ => ⟨_, ps_for hp hc hi hg hb hs, Z, m, ρ, h, at', ?_⟩
  unfold sFor at p
  cases e1 : it ρ h with
  | bad => rw [e1] at p; exact p.elim
  | exc c h1 =>
    rw [e1] at p
    exact fun m' H' cls ex hk hc => p σ m' H' cls ex hk (ex.env at'.en) hc
  | ok r h1 =>
    obtain ⟨ds, o⟩ := r
    rw [e1] at p
    dsimp only at p ⊢
    intro J m1 H1 ex1 hk1 wk
    refine ⟨fun i k σ H => k = ds.length - i ∧ i ≤ ds.length ∧ ∃ m ρ h, Ext Z m1 H1 m H ∧ HeapOk X.K X.mg Z m h H ∧ REnv X.K X.mg m (hide (Z ++ m) H) ρ σ ∧ PostS X.K X.mg W Z m H (forX o ds g bd (ds.drop i) ρ h) E,
      ⟨ds.length, rfl, Nat.zero_le _, m1, ρ, h1, Ext.refl, hk1, ex1.env at'.en, PostS.from ex1 p⟩, ?_⟩
    rintro i k σ2 H2 ⟨rfl, hi, m2, ρ2, h2, ex2, hk2, en2, p2⟩
    by_cases hlt : i < ds.length
    · right
      rw [List.drop_eq_getElem_cons hlt] at p2
      obtain ⟨gd2, ρ3, e3, p3⟩ := forX_cons p2 (fun σ' H' => ds.length - (i + 1) = ds.length - (i + 1) ∧ i + 1 ≤ ds.length ∧ ∃ m ρ h, Ext Z m1 H1 m H' ∧ HeapOk X.K X.mg Z m h H' ∧ REnv X.K X.mg m (hide (Z ++ m) H') ρ σ' ∧ PostS X.K X.mg W Z m H' (forX o ds g bd (ds.drop (i + 1)) ρ h) E)
        fun ρ4 h4 σ4 m4 H4 ex4 hk4 en4 p4 => ⟨rfl, hlt, m4, ρ4, h4, ex2.trans ex4, hk4, en4, p4⟩
      have hd : ds[i]? = some ds[i] := List.getElem?_eq_getElem hlt
      obtain ⟨go, yl⟩ := wk.go Z m2 h2 H2 i _ ex2.pre ex2.st hk2 gd2 hd
      refine ⟨go, _, fun σ' H' q => ⟨ds.length - (i + 1), by omega, q⟩, fun x H' y => ?_⟩
      obtain ⟨rfl, rx⟩ := yl x H' y
      exact ⟨Z, m2, ρ2, h2, _, ρ3, ⟨hk2, en2⟩, rx, e3, fun σ3 en3 _ => ⟨Z, m2, ρ3, h2, ⟨hk2, en3⟩, p3⟩⟩
    · left
      have e : i = ds.length := by omega
      subst e
      rw [List.drop_length] at p2
      obtain ⟨gd2, p3⟩ := forX_nil p2
      exact ⟨wk.stop Z m2 h2 H2 ex2.pre ex2.st hk2 gd2, p3 σ2 m2 H2 Ext.refl hk2 en2⟩

/-! ### while -/
def whL (b : BD) (body : SD) : Nat → SD
  | 0 => fun _ _ => .bad
  | n + 1 => sB b fun k => if k = true then (fun ρ h => match body ρ h with
      | .ok .nx ρ2 h2 => whL b body n ρ2 h2
      | .ok .ct ρ2 h2 => whL b body n ρ2 h2
      | .ok .bk ρ2 h2 => .ok .nx ρ2 h2
      | r => r) else sNil
theorem ss_while (n : Nat) (hp : PassesOwn (model X.prog X.w) X.A X.env X.xe) (hc : PT X cnd (tDB X.K X.mg W b)) (hb : PSs X body (tDS X.K X.mg W bd)) : PS X (.While cnd body [] pos) (tDS X.K X.mg W (whL b bd n)) := by
  refine pickS fun σ H E ⟨Z, m, ρ, h, at', p⟩ => ⟨_, ps_while hp hc hb, ?_⟩
  refine ⟨fun k σ H => ∃ m ρ h, HeapOk X.K X.mg Z m h H ∧ REnv X.K X.mg m (hide (Z ++ m) H) ρ σ ∧ PostS X.K X.mg W Z m H (whL b bd k ρ h) E, ⟨n, m, ρ, h, at'.hk, at'.en, p⟩, ?_⟩
  rintro k σ2 H2 ⟨m2, ρ2, h2, hk2, en2, p2⟩
  cases k with
  | zero => exact p2.elim
  | succ k =>
    refine ⟨Z, m2, ρ2, h2, ⟨hk2, en2⟩, (PostS.ofB ⟨hk2, en2⟩ p2).imp fun t H3 ⟨m3, h3, ex3, at3, q⟩ => ?_⟩
    cases t with
    | true =>
      rw [if_pos rfl] at q ⊢
      refine ⟨fun σ' H' => ∃ m ρ h, HeapOk X.K X.mg Z m h H' ∧ REnv X.K X.mg m (hide (Z ++ m) H') ρ σ' ∧ PostS X.K X.mg W Z m H' (whL b bd k ρ h) E, fun σ' H' q => ⟨k, Nat.lt_succ_self _, q⟩, ?_⟩
      exact ⟨Z, m3, ρ2, h3, at3, turn_post q _ fun ρ4 h4 σ4 m4 H4 ex4 hk4 en4 p4 => ⟨m4, ρ4, h4, hk4, en4, p4⟩⟩
    | false =>
      rw [if_neg Bool.false_ne_true] at q ⊢
      exact q σ2 m3 H3 Ext.refl at3.hk at3.en
end

/-! ### list comprehensions -/
def wipeE (ρ : Env) : List Nat → Env
  | [] => ρ
  | v :: vs => (wipeE ρ vs).set v none
/-- one item: nothing, or what comes of it -/
def lcT (g : GD) (b : BD) (f : ED) (ρ : Env) (d : D) : M (Option D) := fun h => match g d ρ with
  | none => .bad
  | some ρ1 => match b ρ1 h with
    | .ok true h1 => (match f ρ1 h1 with
      | .ok x h2 => .ok (some x) h2
      | _ => .bad)
    | .ok false h1 => .ok none h1
    | _ => .bad
def lcL (g : GD) (b : BD) (f : ED) (ρ : Env) : List D → M (List D)
  | [] => M.pure []
  | d :: ds => M.bind (lcT g b f ρ d) fun o => M.bind (lcL g b f ρ ds) fun xs => M.pure (o.toList ++ xs)
open Classical in
noncomputable def lcC (n : Nat) (all : List D) (g : GD) (b : BD) (f : ED) (ρ : Env) : List D → M (List D)
  | [] => fun h => if h[n]? = some (.lst all) then .ok [] h else .bad
  | d :: ds => fun h => if h[n]? = some (.lst all) then M.bind (lcT g b f ρ d) (fun o => M.bind (lcC n all g b f ρ ds) fun xs => M.pure (o.toList ++ xs)) h else .bad
noncomputable def lcX (o : Option Nat) (all : List D) (g : GD) (b : BD) (f : ED) (ρ : Env) : List D → M (List D) := match o with
  | none => lcL g b f ρ
  | some n => lcC n all g b f ρ
def bYes : BD := fun _ => M.pure true
def lcEnd (xs : List D) : M D := fun h => if xs.length ≤ sizeLine then .ok (.lst xs) h else .bad
def lcEndC (xs : List D) : M D := fun h => if xs.length ≤ sizeLine then .ok (.ref h.length) (h ++ [.lst xs]) else .bad
/-- [f for g in it if b] -/
noncomputable def eLc (fin : List D → M D) (it : ITD) (g : GD) (b : BD) (f : ED) (vs : List Nat) : ED := fun ρ => M.bind (it ρ) fun r => M.bind (lcX r.2 r.1 g b f (wipeE ρ vs) r.1) fin
end FK

/-! part: FK7 -/
set_option Elab.async false
set_option linter.all false
set_option maxRecDepth 100000
set_option maxHeartbeats 4000000
/-! FK7: list comprehensions are what the model does. -/
namespace FK
open PySem PySem.Spec L2

theorem wipe_sub {σ : L2.St} : ∀ {ws vs : List Nat}, (∀ i ∈ ws, i ∈ vs) → wipe (wipe σ ws) vs = wipe σ vs
  | [], vs, _ => rfl
  | w :: ws, vs, h => by
    show wipe ((wipe σ ws).set w none) vs = wipe σ vs
    rw [wipe_set (h w List.mem_cons_self), wipe_sub fun i hi => h i (List.mem_cons_of_mem _ hi)]
section
variable {K : PySem.W.Frag} {mg : Str → Option Value} {Z m : List Addr} {S H : Hp} {h : CH} {L : Addr}
theorem REnv.wipe {ρ : Env} {σ : L2.St} (r : REnv K mg m S ρ σ) : ∀ vs : List Nat, REnv K mg m S (wipeE ρ vs) (L2.wipe σ vs)
  | [] => r
  | v :: vs => REnv.unset v (REnv.wipe r vs)
theorem sub_hide1 : Sub (hide (L :: Z ++ m) H) (hide (Z ++ m) H) := fun a o e => by
  obtain ⟨h1, h2⟩ := hide_some e
  exact hide_of (fun z => h1 (List.mem_cons_of_mem _ z)) h2
theorem sub_lay {o : HO} (hl : H L = none) : Sub (hide (Z ++ m) H) (hide (L :: Z ++ m) (upd H L o)) := fun a u e => by
  obtain ⟨h1, h2⟩ := hide_some e
  have ne := ne_of_none h2 hl
  refine hide_of (fun z => ?_) (by rw [upd_ne ne]; exact h2)
  rcases List.mem_cons.mp z with z | z
  · exact ne z
  · exact h1 z
/-- a thing laid and hidden -/
theorem HeapOk.lay1 (hk : HeapOk K mg Z m h H) {o : HO} (hl : H L = none) : HeapOk K mg (L :: Z) m h (upd H L o) := by
  refine ⟨hk.len, hk.nd, fun a ha hz => ?_, fun a ha => ?_, fun n c a h1 h2 => ?_⟩
  · rcases List.mem_cons.mp hz with z | z
    · exact mem_not_new hk hl (by rw [← z]; exact ha)
    · exact hk.dj a ha z
  · rcases List.mem_cons.mp ha with z | z
    · exact ⟨o, by rw [z, upd_same]⟩
    · obtain ⟨u, e⟩ := hk.ex a z
      exact ⟨u, by rw [upd_ne (ne_of_none e hl)]; exact e⟩
  · have ne : a ≠ L := fun z => mem_not_new hk hl (by rw [← z]; exact List.mem_of_getElem? h2)
    exact CellR.mono (fun _ _ e => e) (sub_lay hl) (upd_ne ne) (hk.cell n c a h1 h2)
theorem HeapOk.un1 (hk : HeapOk K mg (L :: Z) m h H) : HeapOk K mg Z m h H :=
  ⟨hk.len, hk.nd, fun a ha hz => hk.dj a ha (List.mem_cons_of_mem _ hz), fun a ha => hk.ex a (List.mem_cons_of_mem _ ha), fun n c a h1 h2 => CellR.mono (fun _ _ e => e) sub_hide1 rfl (hk.cell n c a h1 h2)⟩
/-- the hidden thing is changed -/
theorem HeapOk.turn1 (hk : HeapOk K mg (L :: Z) m h H) {o : HO} (hZ : L ∉ Z) : HeapOk K mg (L :: Z) m h (upd H L o) ∧ Sub (hide (L :: Z ++ m) H) (hide (L :: Z ++ m) (upd H L o)) := by
  have st : Sub (hide (L :: Z ++ m) H) (hide (L :: Z ++ m) (upd H L o)) := fun a u e => by
    obtain ⟨h1, h2⟩ := hide_some e
    have ne : a ≠ L := fun z => h1 (by rw [z]; exact List.mem_cons_self)
    exact hide_of h1 (by rw [upd_ne ne]; exact h2)
  refine ⟨⟨hk.len, hk.nd, hk.dj, fun a ha => ?_, fun n c a h1 h2 => ?_⟩, st⟩
  · by_cases e : a = L
    · exact ⟨o, by rw [e, upd_same]⟩
    · rw [upd_ne e]; exact hk.ex a ha
  · have ne : a ≠ L := fun z => hk.dj a (List.mem_of_getElem? h2) (by rw [z]; exact List.mem_cons_self)
    exact CellR.mono (fun _ _ e => e) st (upd_ne ne) (hk.cell n c a h1 h2)
/-- the hidden list becomes a cell -/
theorem HeapOk.adopt (hk : HeapOk K mg (L :: Z) m h H) {ds : List D} {vs : List V} (hL : H L = some (.lst vs)) (r : RepL K mg m (hide (L :: Z ++ m) H) ds vs) (hZ : L ∉ Z) : HeapOk K mg Z (m ++ [L]) (h ++ [.lst ds]) H := by
  have eq : hide (Z ++ (m ++ [L])) H = hide (L :: Z ++ m) H := by
    funext a
    unfold hide
    have : a ∈ Z ++ (m ++ [L]) ↔ a ∈ L :: Z ++ m := by
      simp only [List.mem_append, List.mem_cons, List.cons_append, List.mem_singleton, List.not_mem_nil, or_false]
      constructor
      · rintro (z | z | z)
        · exact .inr (.inl z)
        · exact .inr (.inr z)
        · exact .inl z
      · rintro (z | z | z)
        · exact .inr (.inr z)
        · exact .inl z
        · exact .inr (.inl z)
    by_cases z : a ∈ L :: Z ++ m
    · rw [if_pos z, if_pos (this.mpr z)]
    · rw [if_neg z, if_neg fun q => z (this.mp q)]
  have nm : L ∉ m := fun z => hk.dj L z List.mem_cons_self
  have pre : ∀ (n : Nat) a, m[n]? = some a → (m ++ [L])[n]? = some a := fun n a e => by rw [List.getElem?_append_left (List.getElem?_eq_some_iff.mp e).1]; exact e
  refine ⟨by rw [List.length_append, List.length_append, hk.len]; rfl, ?_, fun a ha => ?_, fun a ha => hk.ex a (List.mem_cons_of_mem _ ha), fun n c a h1 h2 => ?_⟩
  · rw [List.nodup_append]
    exact ⟨hk.nd, by simp, fun a ha b hb e => nm (by simp at hb; rw [← hb, ← e]; exact ha)⟩
  · rcases List.mem_append.mp ha with z | z
    · exact fun z' => hk.dj a z (List.mem_cons_of_mem _ z')
    · have e : a = L := by simpa using z
      rw [e]; exact hZ
  · rw [eq]
    by_cases hn : n < m.length
    · rw [List.getElem?_append_left hn] at h2
      rw [List.getElem?_append_left (by rw [← hk.len]; exact hn)] at h1
      exact CellR.mono pre Sub.refl rfl (hk.cell n c a h1 h2)
    · have e : n = m.length := by
        have := (List.getElem?_eq_some_iff.mp h2).1
        simp at this
        omega
      subst e
      simp at h2
      rw [hk.len] at h1
      simp at h1
      subst h1 h2
      exact ⟨vs, hL, RepL.mono pre Sub.refl _ _ r⟩
end
abbrev WF : WX := fun _ _ _ _ => False
theorem bind_assoc {α β γ : Type} (x : M α) (f : α → M β) (g : β → M γ) (h : CH) : M.bind (M.bind x f) g h = M.bind x (fun a => M.bind (f a) g) h := by
  unfold M.bind
  cases x h <;> rfl
theorem bind_congr {α β : Type} {x y : M α} {k : α → M β} {h : CH} (e : x h = y h) : M.bind x k h = M.bind y k h := by unfold M.bind; rw [e]
theorem bind_ok {α β : Type} {x : M α} {k : α → M β} {h h1 : CH} {a : α} (e : x h = .ok a h1) : M.bind x k h = k a h1 := by unfold M.bind; rw [e]
theorem bind_exc {α β : Type} {x : M α} {k : α → M β} {h h1 : CH} {c : Str} (e : x h = .exc c h1) : M.bind x k h = .exc c h1 := by unfold M.bind; rw [e]
theorem bind_bad {α β : Type} {x : M α} {k : α → M β} {h : CH} (e : x h = .bad) : M.bind x k h = .bad := by unfold M.bind; rw [e]
theorem lcT_noexc {g : GD} {b : BD} {f : ED} {ρ : Env} {d : D} {h h' : CH} {c : Str} : lcT g b f ρ d h ≠ .exc c h' := fun e => by
  unfold lcT at e
  split at e
  · cases e
  · split at e
    · split at e <;> cases e
    · cases e
    · cases e
theorem lcL_noexc {g : GD} {b : BD} {f : ED} {ρ : Env} : ∀ {ds : List D} {h h' : CH} {c : Str}, lcL g b f ρ ds h ≠ .exc c h'
  | [], h, h', c, e => by cases e
  | d :: ds, h, h', c, e => by
    unfold lcL M.bind at e
    cases e1 : lcT g b f ρ d h with
    | exc _ _ => exact lcT_noexc e1
    | bad => rw [e1] at e; cases e
    | ok o h1 =>
      rw [e1] at e
      dsimp only at e
      cases e2 : lcL g b f ρ ds h1 with
      | exc _ _ => exact lcL_noexc e2
      | bad => rw [e2] at e; cases e
      | ok xs h2 => rw [e2] at e; cases e
theorem lcX_noexc {o : Option Nat} {all : List D} {g : GD} {b : BD} {f : ED} {ρ : Env} : ∀ {ds : List D} {h h' : CH} {c : Str}, lcX o all g b f ρ ds h ≠ .exc c h' := by
  cases o with
  | none => exact lcL_noexc
  | some n =>
    intro ds
    show ∀ {h h' : CH} {c : Str}, lcC n all g b f ρ ds h ≠ .exc c h'
    induction ds with
    | nil =>
      intro h h' c e
      unfold lcC at e
      split at e <;> cases e
    | cons d ds ih =>
      intro h h' c e
      unfold lcC at e
      split at e
      · unfold M.bind at e
        cases e1 : lcT g b f ρ d h with
        | exc _ _ => exact lcT_noexc e1
        | bad => rw [e1] at e; cases e
        | ok o h1 =>
          rw [e1] at e
          dsimp only at e
          cases e2 : lcC n all g b f ρ ds h1 with
          | exc _ _ => exact ih e2
          | bad => rw [e2] at e; cases e
          | ok xs h2 => rw [e2] at e; cases e
      · cases e
theorem lcX_nil {o : Option Nat} {all : List D} {g : GD} {b : BD} {f : ED} {ρ : Env} {α : Type} {k : List D → M α} {h : CH} (e : M.bind (lcX o all g b f ρ []) k h ≠ .bad) : gd o all h ∧ M.bind (lcX o all g b f ρ []) k h = k [] h := by
  cases o with
  | none => exact ⟨trivial, rfl⟩
  | some n =>
    unfold lcX M.bind at e ⊢
    dsimp only at e ⊢
    unfold lcC at e ⊢
    by_cases hn : h[n]? = some (.lst all)
    · rw [if_pos hn]; exact ⟨hn, rfl⟩
    · rw [if_neg hn] at e; exact absurd rfl e
theorem lcX_cons {o : Option Nat} {all : List D} {g : GD} {b : BD} {f : ED} {ρ : Env} {α : Type} {k : List D → M α} {h : CH} {d : D} {ds : List D} (e : M.bind (lcX o all g b f ρ (d :: ds)) k h ≠ .bad) :
    gd o all h ∧ M.bind (lcX o all g b f ρ (d :: ds)) k h = M.bind (lcT g b f ρ d) (fun y => M.bind (lcX o all g b f ρ ds) fun xs => k (y.toList ++ xs)) h := by
  have step : ∀ r : M (List D), M.bind (M.bind (lcT g b f ρ d) fun y => M.bind r fun xs => M.pure (y.toList ++ xs)) k h = M.bind (lcT g b f ρ d) (fun y => M.bind r fun xs => k (y.toList ++ xs)) h := fun r => by
    rw [bind_assoc]
    unfold M.bind
    cases lcT g b f ρ d h with
    | ok y h1 =>
      dsimp only
      cases r h1 <;> rfl
    | _ => rfl
  cases o with
  | none => exact ⟨trivial, step _⟩
  | some n =>
    by_cases hn : h[n]? = some (.lst all)
    · refine ⟨hn, ?_⟩
      have e2 : lcX (some n) all g b f ρ (d :: ds) h = M.bind (lcT g b f ρ d) (fun o => M.bind (lcC n all g b f ρ ds) fun xs => M.pure (o.toList ++ xs)) h := by
        exact if_pos hn
      rw [← step]
      exact bind_congr e2
    · exfalso
      apply e
      have e2 : lcX (some n) all g b f ρ (d :: ds) h = .bad := if_neg hn
      exact bind_bad e2
theorem not_bad {α β : Type} {K : PySem.W.Frag} {mg : Str → Option Value} {rel : List Addr → Hp → α → β → Prop} {W : WX} {σ : L2.St} {Z m : List Addr} {H : Hp} {r : R α} {Q : β → Hp → Prop} (p : PostG K mg rel W σ Z m H r Q) : r ≠ .bad := fun e => by rw [e] at p; exact p
/-- how a comprehension's list is handed on -/
def FinOk (fin : List D → M D) : Prop := fin = lcEnd ∨ fin = lcEndC
theorem fin_len {fin : List D → M D} (hf : FinOk fin) {xs : List D} {h : CH} (e : fin xs h ≠ .bad) : xs.length ≤ sizeLine := by
  rcases hf with rfl | rfl
  · unfold lcEnd at e
    split at e
    · assumption
    · exact absurd rfl e
  · unfold lcEndC at e
    split at e
    · assumption
    · exact absurd rfl e
section
variable {X : Cx} {W : WX}
theorem lc_den {it : ITD} {g : GD} {b : BD} {f : ED} {vs is : List Nat} {fin : List D → M D} (hf : FinOk fin) (his : ∀ i ∈ is, i ∈ vs) {K : PySem.W.Frag} {mg : Str → Option Value} {σ : L2.St} {H : Hp} {Q : VK} (h : tD K mg W (eLc fin it g b f vs) σ H Q) :
    tLc (tDI K mg W it) (tDG K mg is g) (tDB K mg WF b) (tD K mg WF f) vs σ H Q := by
  obtain ⟨Z, m, ρ, c, at', p⟩ := h
  refine ⟨Z, m, ρ, c, at', ?_⟩
  unfold eLc at p
  cases e1 : it ρ c with
  | bad => rw [bind_bad e1] at p; exact p.elim
  | exc _ _ => rw [bind_exc e1] at p; exact p
  | ok r h1 =>
    obtain ⟨ds, o⟩ := r
    rw [bind_ok e1] at p
    dsimp only at p ⊢
    intro J m1 H1 ex1 hk1 wk L hL
    have p1 := PostG.from ex1 p
    have hZ : L ∉ Z := fun z => hk1.out hL (List.mem_append_left _ z)
    refine ⟨fun i k H2 => k = ds.length - i ∧ i ≤ ds.length ∧ ∃ m2 h2 acc vs', Ext Z m1 H1 m2 H2 ∧ HeapOk K mg (L :: Z) m2 h2 H2 ∧ Sub (hide (Z ++ m1) H1) (hide (L :: Z ++ m2) H2) ∧ H2 L = some (.lst vs') ∧ RepL K mg m2 (hide (L :: Z ++ m2) H2) acc vs' ∧
      REnv K mg m2 (hide (L :: Z ++ m2) H2) (wipeE ρ vs) (L2.wipe σ vs) ∧ PostG K mg (Rep K mg) W σ Z m1 H1 (M.bind (lcX o ds g b f (wipeE ρ vs) (ds.drop i)) (fun xs => fin (acc ++ xs)) h2) Q, ⟨ds.length, rfl, Nat.zero_le _, m1, h1, [], [], ?_, hk1.lay1 hL, sub_lay hL, upd_same, RepL.nil, ?_, ?_⟩, ?_⟩
    · exact Ext.laid hk1 hL
    · exact REnv.wipe (REnv.mono (fun _ _ e => e) (sub_lay hL) _ _ (ex1.env at'.en)) vs
    · exact p1
    · rintro i k H2 ⟨rfl, hi, m2, h2, acc, vs', ex2, hk2, st2, hL2, ra, en2, p2⟩
      by_cases hlt : i < ds.length
      · right
        rw [List.drop_eq_getElem_cons hlt] at p2
        obtain ⟨gd2, e2⟩ := lcX_cons (not_bad p2)
        rw [e2] at p2
        have hd : ds[i]? = some ds[i] := List.getElem?_eq_getElem hlt
        obtain ⟨go, yl⟩ := wk.go (L :: Z) m2 h2 H2 i _ ex2.pre st2 hk2 gd2 hd
        generalize hdd : ds[i] = d at p2 yl
        refine ⟨go, fun H5 => i + 1 ≤ ds.length ∧ ∃ m2 h2 acc vs', Ext Z m1 H1 m2 H5 ∧ HeapOk K mg (L :: Z) m2 h2 H5 ∧ Sub (hide (Z ++ m1) H1) (hide (L :: Z ++ m2) H5) ∧ H5 L = some (.lst vs') ∧ RepL K mg m2 (hide (L :: Z ++ m2) H5) acc vs' ∧
          REnv K mg m2 (hide (L :: Z ++ m2) H5) (wipeE ρ vs) (L2.wipe σ vs) ∧ PostG K mg (Rep K mg) W σ Z m1 H1 (M.bind (lcX o ds g b f (wipeE ρ vs) (ds.drop (i + 1))) (fun xs => fin (acc ++ xs)) h2) Q, fun H5 q => ⟨ds.length - (i + 1), by omega, rfl, q⟩, fun x H3 y => ?_⟩
        obtain ⟨rfl, rx⟩ := yl x H3 y
        -- the turn of d
        have p2' := not_bad p2
        unfold M.bind lcT at p2 p2'
        cases eg : g d (wipeE ρ vs) with
        | none => rw [eg] at p2'; exact absurd rfl p2'
        | some ρ1 =>
          rw [eg] at p2 p2'
          dsimp only at p2 p2'
          refine ⟨L :: Z, m2, wipeE ρ vs, h2, d, ρ1, ⟨hk2, en2⟩, rx, eg, fun σ2 en3 kept => ⟨(kept vs his).trans (wipe_sub fun _ z => z), ?_⟩⟩
          -- along the block: the hidden list stays
          have along : ∀ {m3 H4}, Ext (L :: Z) m2 H3 m3 H4 → Ext Z m1 H1 m3 H4 ∧ Sub (hide (Z ++ m1) H1) (hide (L :: Z ++ m3) H4) ∧ H4 L = some (.lst vs') := fun {m3 H4} ex => by
            have st3 := st2.trans ex.st
            refine ⟨⟨fun n a q => ex.pre n a (ex2.pre n a q), st3.trans sub_hide1, fun a ha => (ex.zs a (List.mem_cons_of_mem _ ha)).trans (ex2.zs a ha)⟩, st3, ?_⟩
            rw [ex.zs L List.mem_cons_self]; exact hL2
          refine ⟨L :: Z, m2, ρ1, h2, ⟨hk2, en3⟩, ?_⟩
          cases eb : b ρ1 h2 with
          | bad => rw [eb] at p2'; exact absurd rfl p2'
          | exc _ _ => rw [eb] at p2'; exact absurd rfl p2'
          | ok kk h3 =>
            intro kk' m3 H4 ex3 hk3 ek
            subst ek
            rw [eb] at p2 p2'
            obtain ⟨a1, a2, a3⟩ := along ex3
            cases kk' with
            | false =>
              rw [if_neg Bool.false_ne_true]
              exact ⟨hlt, m3, h3, acc, vs', a1, hk3, a2, a3, ex3.repL ra, ex3.env en2, p2⟩
            | true =>
              rw [if_pos rfl]
              dsimp only at p2 p2'
              refine ⟨L :: Z, m3, ρ1, h3, ⟨hk3, ex3.env en3⟩, ?_⟩
              cases ef : f ρ1 h3 with
              | bad => rw [ef] at p2'; exact absurd rfl p2'
              | exc _ _ => rw [ef] at p2'; exact absurd rfl p2'
              | ok x4 h4 =>
                intro y4 m4 H5 ex4 hk4 r4
                rw [ef] at p2 p2'
                have ex34 := ex3.trans ex4
                obtain ⟨b1, b2, b3⟩ := along ex34
                have ra4 := ex34.repL ra
                have p3 : PostG K mg (Rep K mg) W σ Z m1 H1 (M.bind (lcX o ds g b f (wipeE ρ vs) (ds.drop (i + 1))) (fun xs => fin ((acc ++ [x4]) ++ xs)) h4) Q := by
                  have q : PostG K mg (Rep K mg) W σ Z m1 H1 (M.bind (lcX o ds g b f (wipeE ρ vs) (ds.drop (i + 1))) (fun xs => fin (acc ++ ([x4] ++ xs))) h4) Q := p2
                  simpa only [List.append_assoc] using q
                have hlen : acc.length < sizeLine := by
                  have nb := not_bad p3
                  unfold M.bind at nb
                  cases ex5 : lcX o ds g b f (wipeE ρ vs) (ds.drop (i + 1)) h4 with
                  | bad => rw [ex5] at nb; exact absurd rfl nb
                  | exc _ _ => exact absurd ex5 lcX_noexc
                  | ok xs h5 =>
                    rw [ex5] at nb
                    have := fin_len hf nb
                    rw [List.length_append, List.length_append, List.length_singleton] at this
                    omega
                obtain ⟨t1, t2⟩ := hk4.turn1 (o := .lst (vs' ++ [y4])) hZ
                refine ⟨vs', b3, by rw [ra4.length]; exact hlen, hlt, m4, h4, acc ++ [x4], vs' ++ [y4], ?_, t1, b2.trans t2, upd_same, RepL.mono (fun _ _ e => e) t2 _ _ (ra4.append (RepL.one r4)), REnv.mono (fun _ _ e => e) t2 _ _ (ex34.env en2), p3⟩
                refine ⟨b1.pre, fun a u e => ?_, fun a ha => ?_⟩
                · have q := (b2.trans t2) a u e
                  exact sub_hide1 _ _ q
                · rw [upd_ne (fun z => hZ (by rw [← z]; exact ha))]; exact b1.zs a ha
      · left
        have e : i = ds.length := by omega
        subst e
        rw [List.drop_length] at p2
        obtain ⟨gd2, e2⟩ := lcX_nil (not_bad p2)
        rw [e2, List.append_nil] at p2
        refine ⟨wk.stop (L :: Z) m2 h2 H2 ex2.pre st2 hk2 gd2, ?_⟩
        have hLm : L ∉ Z ++ m2 := fun z => by
          rcases List.mem_append.mp z with z | z
          · exact hZ z
          · exact hk2.dj L z List.mem_cons_self
        rcases hf with rfl | rfl
        · unfold lcEnd at p2
          split at p2
          · refine p2 (.ref L) m2 H2 ex2 hk2.un1 ?_
            unfold Rep
            exact ⟨L, vs', rfl, hide_of hLm hL2, RepL.mono (fun _ _ e => e) sub_hide1 _ _ ra⟩
          · exact p2.elim
        · unfold lcEndC at p2
          split at p2
          · refine p2 (.ref L) (m2 ++ [L]) H2 ⟨fun n a q => ?_, fun a u q => ?_, ex2.zs⟩ (hk2.adopt hL2 ra hZ) ?_
            · rw [List.getElem?_append_left (List.getElem?_eq_some_iff.mp (ex2.pre n a q)).1]; exact ex2.pre n a q
            · obtain ⟨q1, q2⟩ := hide_some (st2 a u q)
              refine hide_of (fun z => q1 ?_) q2
              rcases List.mem_append.mp z with z | z
              · exact List.mem_append_left _ (List.mem_cons_of_mem _ z)
              · rcases List.mem_append.mp z with z | z
                · exact List.mem_append_right _ z
                · have e : a = L := by simpa using z
                  rw [e]; exact List.mem_append_left _ List.mem_cons_self
            · unfold Rep
              exact ⟨L, by rw [← hk2.len]; simp, rfl⟩
          · exact p2.elim
theorem sl_yes : PTs X [] (tDB X.K X.mg W bYes) := ⟨fun pins s σ H Q I ⟨Z, m, ρ, h, at', p⟩ => pts_nil.run pins s σ H Q I (p true m H Ext.refl at'.hk rfl)⟩
theorem sl_one {c : Expr} {b : BD} (h : PT X c (tDB X.K X.mg W b)) : PTs X [c] (tDB X.K X.mg W b) := pts_one h
theorem se_lc {elt tg iter : Expr} {ifs : List Expr} {scope : Scope} {own : List (Str × Nat)} {pos : Pos} {it : ITD} {g : GD} {is : List Nat} {b : BD} {f : ED} {fin : List D → M D} {vs : List Nat} (hf : FinOk fin) (hc : X.calm = true) (hN : X.N.Nodup) (hi : PI X tg iter (tDI X.K X.mg W it)) (ok : BlkOk X.N X.env.scope scope own)
    (hg : ∀ (s : Shared) (H : Hp) (C : Addr) (cl : List (Str × Addr)) (fp : List Addr), PG (X.blk s H scope (compEnvC scope cl C X.env) fp) tg (tDG X.K X.mg is g)) (ht : ∀ (s : Shared) (H : Hp) (C : Addr) (cl : List (Str × Addr)) (fp : List Addr), PTs (X.blk s H scope (compEnvC scope cl C X.env) fp) ifs (tDB X.K X.mg WF b))
    (he : ∀ (s : Shared) (H : Hp) (C : Addr) (cl : List (Str × Addr)) (fp : List Addr), PE (X.blk s H scope (compEnvC scope cl C X.env) fp) elt (tD X.K X.mg WF f)) (his : ∀ i ∈ is, i ∈ own.map (·.2)) (hv : own.map (·.2) = vs := by rfl) (hs : ∀ x, foldedSetIterable iter X.env x = pure x := by intro _; rfl) :
    PE X (.ListComp elt [⟨tg, iter, ifs, 0⟩] scope pos) (tD X.K X.mg W (eLc fin it g b f vs)) :=
  by
  subst hv
  exact pick fun σ H Q h => ⟨_, pe_lc hc hN hi ok hg ht he hs, lc_den hf his h⟩
theorem ss_setLc {i : Nat} {y : Str} {py : Pos} {elt tg iter : Expr} {ifs : List Expr} {scope : Scope} {own : List (Str × Nat)} {pos spos : Pos} {it : ITD} {g : GD} {is : List Nat} {b : BD} {f : ED} {fin : List D → M D} {vs : List Nat} (hf : FinOk fin) (hc : X.calm = true) (hN : X.N.Nodup) (hy : X.N[i]? = some y) (hyl : X.env.scope.names.lookup y = some .local)
    (hsw : swapsWith (.ListComp elt [⟨tg, iter, ifs, 0⟩] scope pos) (some (.Name y py)) spos.line X.env = pure true) (hi : PI X tg iter (tDI X.K X.mg W it)) (ok : BlkOk X.N X.env.scope scope own)
    (hg : ∀ (s : Shared) (H : Hp) (C : Addr) (cl : List (Str × Addr)) (fp : List Addr), PG (X.blk s H scope (compEnvC scope cl C X.env) fp) tg (tDG X.K X.mg is g)) (ht : ∀ (s : Shared) (H : Hp) (C : Addr) (cl : List (Str × Addr)) (fp : List Addr), PTs (X.blk s H scope (compEnvC scope cl C X.env) fp) ifs (tDB X.K X.mg WF b))
    (he : ∀ (s : Shared) (H : Hp) (C : Addr) (cl : List (Str × Addr)) (fp : List Addr), PE (X.blk s H scope (compEnvC scope cl C X.env) fp) elt (tD X.K X.mg WF f)) (his : ∀ i ∈ is, i ∈ own.map (·.2)) (hv : own.map (·.2) = vs := by rfl) (hs : ∀ x, foldedSetIterable iter X.env x = pure x := by intro _; rfl) :
    PS X (.Assign [.Name y py] (.ListComp elt [⟨tg, iter, ifs, 0⟩] scope pos) spos) (tDS X.K X.mg W (sAsg (eLc fin it g b f vs) (gN i))) :=
  by
  subst hv
  exact pickS fun σ H E ⟨Z, m, ρ, h, at', p⟩ => ⟨_, ps_setLc hc hN hy hyl hsw hi ok hg ht he hs, lc_den hf his ⟨Z, m, ρ, h, at', (PostS.ofE at' p).imp fun v H' ⟨d, m', h', ex, at2, r, q⟩ => by
    exact q _ m' H' Ext.refl at2.hk (REnv.set r i at2.en)⟩⟩
end
end FK

/-! part: FK8 -/
set_option Elab.async false
set_option linter.all false
set_option maxRecDepth 100000
set_option maxHeartbeats 4000000
/-! FK8: defs and their calls. -/
namespace FK
open PySem PySem.Spec L2
open PyProof.Rows (envOfC)

abbrev FD := List D → M D
/-- a def: np parameters, N slots -/
def fnD (N : Nat) (body : SD) : FD := fun ds h => match body (ds.map some ++ List.replicate (N - ds.length) none) h with
  | .ok (.rt d) _ h' => .ok d h'
  | .ok .nx _ h' => .ok .non h'
  | .ok _ _ _ => .bad
  | .exc c _ h' => .exc c h'
  | .bad => .bad
abbrev WE (E : XK) : WX := fun c d _ H => E c d H
def spF (K : PySem.W.Frag) (mg : Str → Option Value) (n : Nat) (F : FD) : Sp := fun vs H Q E => ∃ Z m h ds, HeapOk K mg Z m h H ∧ RepL K mg m (hide (Z ++ m) H) ds vs ∧ ds.length = n ∧ Post K mg (WE E) [] Z m H (F ds h) Q
section
variable {P : Program} {w : World} {K : PySem.W.Frag} {mg : Str → Option Value} {base : Heap}
theorem fn_ok {x qual : Str} {st : Stmt} {f : Addr} {fd : FuncData} {N ps : List Str} {k : Nat} {body : SD} (F : Fun K x qual st f fd) (S : FnScope N ps (defScope st))
    (hbody : ∀ (cdv : Value) (A : Around) (outer : List PySem.Env) (s : Shared) (H : Hp) (E : XK), Room k (A.deeper (envOfC qual (defScope st) s.heap.objs.size f cdv)) →
      PSs (cxOf (L2.CX P w) P w K mg base N qual (defScope st) f cdv A outer s H E) (defBody st) (tDS K mg (WE E) body)) : FnOk P w K mg base (L2.CX P w) (k + 1) f fd ps (spF K mg ps.length (fnD N.length body)) := by
  refine F.okX S (fun vs H Q E ⟨Z, m, h, ds, hk, r, e, p⟩ => r.length.trans e) (fun cdv A outer s H vs Q E hr ⟨Z, m, h, ds, hk, r, e, p⟩ => ⟨_, hbody cdv A outer s H E hr, Z, m, ds.map some ++ List.replicate (N.length - vs.length) none, h, ⟨hk, ?_⟩, ?_⟩)
  · exact REnv.start (ds := ds) (N.length - vs.length) r
  · unfold fnD at p
    rw [r.length]
    cases q : body (ds.map some ++ List.replicate (N.length - ds.length) none) h with
    | ok fl ρ' h' =>
      rw [q] at p
      cases fl with
      | rt d => exact p
      | nx => exact fun σ' m' H' ex hk' en => p _ m' H' ex hk' mk_non
      | bk => exact p.elim
      | ct => exact p.elim
    | exc c ρ' h' => rw [q] at p; exact fun σ' m' H' cls ex hk' en hc => p m' H' cls ex hk' hc
    | bad => rw [q] at p; exact p
end

/-! ### no cells in a datum; cells made data -/
mutual
def D.nr : D → Bool
  | .tup xs => D.nrL xs
  | .lst xs => D.nrL xs
  | .scr xs => D.nrL xs
  | .obj _ _ xs => D.nrL xs
  | .ref _ => false
  | _ => true
def D.nrL : List D → Bool
  | [] => true
  | d :: ds => D.nr d && D.nrL ds
end
mutual
/-- texts, numbers, tuples alone -/
def D.flat : D → Bool
  | .tup xs => D.flatL xs
  | .lst _ => false
  | .scr _ => false
  | .obj _ _ _ => false
  | .ref _ => false
  | _ => true
def D.flatL : List D → Bool
  | [] => true
  | d :: ds => D.flat d && D.flatL ds
end
def mapO {α β : Type} (f : α → Option β) : List α → Option (List β)
  | [] => some []
  | a :: r => match f a, mapO f r with
    | some b, some s => some (b :: s)
    | _, _ => none
def fzF : Nat → CH → D → Option D
  | 0, _, _ => none
  | n + 1, h, d => if d.nr = true then some d else match d with
    | .tup xs => (mapO (fzF n h) xs).map .tup
    | .lst xs => (mapO (fzF n h) xs).map .lst
    | .obj c ns xs => (mapO (fzF n h) xs).map (.obj c ns)
    | .ref k => match h[k]? with
      | some (.lst xs) => (mapO (fzF n h) xs).map .lst
      | some (.ins c ns xs) => (mapO (fzF n h) xs).map (.obj c ns)
      | _ => none
    | _ => none
/-- a datum with its cells' contents in it -/
def fz (h : CH) (d : D) : Option D := fzF 12 h d
section
variable {K : PySem.W.Frag} {mg : Str → Option Value} {Z m m' : List Addr} {S S' H : Hp} {h : CH}
mutual
theorem Rep.nr (hs : Sub S S') : ∀ (d : D) (v : V), Rep K mg m S d v → d.nr = true → Rep K mg m' S' d v
  | .non, v, h, _ => by simpa [Rep] using h
  | .bl b, v, h, _ => by simpa [Rep] using h
  | .int b, v, h, _ => by simpa [Rep] using h
  | .str b, v, h, _ => by simpa [Rep] using h
  | .tup xs, v, h, q => by
    unfold Rep at h ⊢
    obtain ⟨a, vs, e, g, r⟩ := h
    exact ⟨a, vs, e, hs.sqt g, RepL.nr hs xs vs r (by simpa [D.nr] using q)⟩
  | .lst xs, v, h, q => by
    unfold Rep at h ⊢
    obtain ⟨a, vs, e, g, r⟩ := h
    exact ⟨a, vs, e, hs _ _ g, RepL.nr hs xs vs r (by simpa [D.nr] using q)⟩
  | .scr xs, v, h, q => by
    unfold Rep at h ⊢
    obtain ⟨a, vs, e, g, r⟩ := h
    exact ⟨a, vs, e, hs.sql g, RepL.nr hs xs vs r (by simpa [D.nr] using q)⟩
  | .obj c ns xs, v, h, q => by
    unfold Rep at h ⊢
    obtain ⟨a, C, dx, fs, e, g, e2, e3, r⟩ := h
    exact ⟨a, C, dx, fs, e, hs _ _ g, e2, e3, RepL.nr hs xs _ r (by simpa [D.nr] using q)⟩
  | .ref n, v, h, q => by simp [D.nr] at q
theorem RepL.nr (hs : Sub S S') : ∀ (ds : List D) (vs : List V), RepL K mg m S ds vs → D.nrL ds = true → RepL K mg m' S' ds vs
  | [], vs, h, _ => by rw [h.of_nil]; exact RepL.nil
  | d :: ds, vs, h, q => by
    obtain ⟨v, r, rfl, a, b⟩ := h.of_cons
    have q' : d.nr = true ∧ D.nrL ds = true := by simpa [D.nrL] using q
    exact RepL.cons (Rep.nr hs d v a q'.1) (RepL.nr hs ds r b q'.2)
end
mutual
theorem D.nr_flat : ∀ d : D, d.flat = true → d.nr = true
  | .non, _ => rfl
  | .bl _, _ => rfl
  | .int _, _ => rfl
  | .str _, _ => rfl
  | .tup xs, h => by
    show D.nrL xs = true
    exact D.nrL_flat xs (by simpa [D.flat] using h)
  | .lst _, h => by simp [D.flat] at h
  | .scr _, h => by simp [D.flat] at h
  | .obj _ _ _, h => by simp [D.flat] at h
  | .ref _, h => by simp [D.flat] at h
theorem D.nrL_flat : ∀ ds : List D, D.flatL ds = true → D.nrL ds = true
  | [], _ => rfl
  | d :: ds, h => by
    have h' : d.flat = true ∧ D.flatL ds = true := by simpa [D.flatL] using h
    show (D.nr d && D.nrL ds) = true
    rw [D.nr_flat d h'.1, D.nrL_flat ds h'.2]
    rfl
end
/-- tuples of S are tuples of S' -/
def SubT (K : PySem.W.Frag) (S S' : Hp) : Prop := ∀ a xs, SqT K S a xs → SqT K S' a xs
mutual
theorem Rep.flat (hs : SubT K S S') : ∀ (d : D) (v : V), Rep K mg m S d v → d.flat = true → Rep K mg m' S' d v
  | .non, v, h, _ => by simpa [Rep] using h
  | .bl b, v, h, _ => by simpa [Rep] using h
  | .int b, v, h, _ => by simpa [Rep] using h
  | .str b, v, h, _ => by simpa [Rep] using h
  | .tup xs, v, h, q => by
    unfold Rep at h ⊢
    obtain ⟨a, vs, e, g, r⟩ := h
    exact ⟨a, vs, e, hs _ _ g, RepL.flat hs xs vs r (by simpa [D.flat] using q)⟩
  | .lst xs, v, h, q => by simp [D.flat] at q
  | .scr xs, v, h, q => by simp [D.flat] at q
  | .obj c ns xs, v, h, q => by simp [D.flat] at q
  | .ref n, v, h, q => by simp [D.flat] at q
theorem RepL.flat (hs : SubT K S S') : ∀ (ds : List D) (vs : List V), RepL K mg m S ds vs → D.flatL ds = true → RepL K mg m' S' ds vs
  | [], vs, h, _ => by rw [h.of_nil]; exact RepL.nil
  | d :: ds, vs, h, q => by
    obtain ⟨v, r, rfl, a, b⟩ := h.of_cons
    have q' : d.flat = true ∧ D.flatL ds = true := by simpa [D.flatL] using q
    exact RepL.cons (Rep.flat hs d v a q'.1) (RepL.flat hs ds r b q'.2)
end
theorem sub_out (hk : HeapOk K mg Z m h H) : Sub (hide (Z ++ m) H) (hide Z H) := fun a o e => by
  obtain ⟨h1, h2⟩ := hide_some e
  exact hide_of (fun z => h1 (List.mem_append_left _ z)) h2
theorem mapO_rep {n : Nat} {f : D → Option D} (hf : ∀ d v d', f d = some d' → Rep K mg m S d v → Rep K mg m' S' d' v ∧ d'.nr = true) : ∀ {ds ds' : List D} {vs : List V}, mapO f ds = some ds' → RepL K mg m S ds vs → RepL K mg m' S' ds' vs ∧ D.nrL ds' = true
  | [], ds', vs, e, r => by
    cases e
    rw [r.of_nil]
    exact ⟨RepL.nil, rfl⟩
  | d :: ds, ds', vs, e, r => by
    unfold mapO at e
    cases e1 : f d with
    | none => rw [e1] at e; cases e
    | some b =>
      cases e2 : mapO f ds with
      | none => rw [e1, e2] at e; cases e
      | some s =>
        rw [e1, e2] at e
        cases e
        obtain ⟨v, t, rfl, ra, rb⟩ := r.of_cons
        obtain ⟨g1, g2⟩ := hf d v b e1 ra
        obtain ⟨g3, g4⟩ := mapO_rep (n := n) hf e2 rb
        exact ⟨RepL.cons g1 g3, by show (D.nr b && D.nrL s) = true; rw [g2, g4]; rfl⟩
/-- a cell that is data -/
def Dat (h : CH) (k : Nat) : Prop := (∃ xs, h[k]? = some (.lst xs)) ∨ ∃ c ns xs, h[k]? = some (.ins c ns xs)
theorem fzF_rep (hk : HeapOk K mg Z m h H) (st : Sub (hide (Z ++ m) H) S') (hc : ∀ (k : Nat) a o, m[k]? = some a → Dat h k → H a = some o → S' a = some o) : ∀ (n : Nat) (d : D) (v : V) (d' : D), fzF n h d = some d' → Rep K mg m (hide (Z ++ m) H) d v → Rep K mg m' S' d' v ∧ d'.nr = true
  | 0, d, v, d', e, _ => by cases e
  | n + 1, d, v, d', e, r => by
    have ih := fun d v d' => fzF_rep hk st hc n d v d'
    unfold fzF at e
    split at e
    · rename_i hn
      cases e
      exact ⟨Rep.nr st _ v r hn, hn⟩
    · cases d with
      | tup xs =>
        dsimp only at e
        cases e1 : mapO (fzF n h) xs with
        | none => rw [e1] at e; cases e
        | some ys =>
          rw [e1] at e
          cases e
          unfold Rep at r
          obtain ⟨a, vs, rfl, g, rr⟩ := r
          obtain ⟨g1, g2⟩ := mapO_rep (n := n) (fun d v d' q r => ih d v d' q r) e1 rr
          refine ⟨?_, g2⟩
          unfold Rep
          exact ⟨a, vs, rfl, st.sqt g, g1⟩
      | lst xs =>
        dsimp only at e
        cases e1 : mapO (fzF n h) xs with
        | none => rw [e1] at e; cases e
        | some ys =>
          rw [e1] at e
          cases e
          unfold Rep at r
          obtain ⟨a, vs, rfl, g, rr⟩ := r
          obtain ⟨g1, g2⟩ := mapO_rep (n := n) (fun d v d' q r => ih d v d' q r) e1 rr
          refine ⟨?_, g2⟩
          unfold Rep
          exact ⟨a, vs, rfl, st _ _ g, g1⟩
      | obj c ns xs =>
        dsimp only at e
        cases e1 : mapO (fzF n h) xs with
        | none => rw [e1] at e; cases e
        | some ys =>
          rw [e1] at e
          cases e
          unfold Rep at r
          obtain ⟨a, C, dx, fs, rfl, g, e2, e3, rr⟩ := r
          obtain ⟨g1, g2⟩ := mapO_rep (n := n) (fun d v d' q r => ih d v d' q r) e1 rr
          refine ⟨?_, g2⟩
          unfold Rep
          exact ⟨a, C, dx, fs, rfl, st _ _ g, e2, e3, g1⟩
      | ref k =>
        dsimp only at e
        unfold Rep at r
        obtain ⟨a, hm, rfl⟩ := r
        cases ec : h[k]? with
        | none => rw [ec] at e; cases e
        | some c =>
          rw [ec] at e
          have cr := hk.cell k c a ec hm
          cases c with
          | lst xs =>
            dsimp only at e
            cases e1 : mapO (fzF n h) xs with
            | none => rw [e1] at e; cases e
            | some ys =>
              rw [e1] at e
              cases e
              obtain ⟨vs, h1, h2⟩ := cr
              obtain ⟨g1, g2⟩ := mapO_rep (n := n) (fun d v d' q r => ih d v d' q r) e1 h2
              refine ⟨?_, g2⟩
              unfold Rep
              exact ⟨a, vs, rfl, hc k a _ hm (.inl ⟨_, ec⟩) h1, g1⟩
          | tab _ => cases e
          | dS _ _ => cases e
          | dM _ _ => cases e
          | ins c ns xs =>
            dsimp only at e
            cases e1 : mapO (fzF n h) xs with
            | none => rw [e1] at e; cases e
            | some ys =>
              rw [e1] at e
              cases e
              obtain ⟨C, dx, fs, h1, e2, e3, h4⟩ := cr
              obtain ⟨g1, g2⟩ := mapO_rep (n := n) (fun d v d' q r => ih d v d' q r) e1 h4
              refine ⟨?_, g2⟩
              unfold Rep
              exact ⟨a, C, dx, fs, rfl, hc k a _ hm (.inr ⟨_, _, _, ec⟩) h1, e2, e3, g1⟩
      | _ => cases e
theorem fz_rep (hk : HeapOk K mg Z m h H) {d : D} {v : V} {d' : D} (e : fz h d = some d') (r : Rep K mg m (hide (Z ++ m) H) d v) : Rep K mg m' (hide Z H) d' v ∧ d'.nr = true := fzF_rep hk (sub_out hk) (fun k a o hm _ ho => hide_of (hk.dj a (List.mem_of_getElem? hm)) ho) 12 d v d' e r
theorem HeapOk.empty (hex : ∀ a ∈ Z, ∃ o, H a = some o) : HeapOk K mg Z [] [] H := ⟨rfl, List.nodup_nil, fun a h => absurd h (by simp), hex, fun n c a h1 h2 => by simp at h2⟩
end

/-! ### calls -/
/-- the callee works on the caller's cells -/
def callH (n : Nat) (F : FD) (ds : List D) : M D := fun h => if ds.length = n then F ds h else .bad
/-- a list or an instance of the callee's own, with plain things in it -/
def own (h : CH) (d : D) : Option D := match d with
  | .ref k => match h[k]? with
    | some (.lst xs) => if D.flatL xs = true then some (.lst xs) else none
    | some (.ins c ns xs) => if D.flatL xs = true then some (.obj c ns xs) else none
    | _ => none
  | _ => none
/-- the callee has cells of its own; it sees the caller's as they are -/
def callP (n : Nat) (F : FD) (ds : List D) : M D := fun h =>
  if ds.length = n then
    (if D.nrL ds = true then
      (match F ds [] with
        | .ok d h' => match fz h' d with
          | some d' => .ok d' h
          | none => .bad
        | .exc c _ => .exc c h
        | .bad => .bad)
    else match mapO (fz h) ds with
      | some es => (match F es [] with
        | .ok d h' => if d.flat = true then .ok d h else (match own h' d with
          | some d' => .ok d' h
          | none => .bad)
        | .exc c _ => .exc c h
        | .bad => .bad)
      | none => .bad)
  else .bad
/-- .. and a list that it made becomes a cell of the caller -/
def callN (n : Nat) (F : FD) (ds : List D) : M D := fun h =>
  if ds.length = n then
    (if D.nrL ds = true then
      (match F ds [] with
        | .ok (.ref k) h' => (match h'[k]? with
          | some (.lst xs) => if D.nrL xs = true then .ok (.ref h.length) (h ++ [.lst xs]) else .bad
          | _ => .bad)
        | .exc c _ => .exc c h
        | _ => .bad)
    else match mapO (fz h) ds with
      | some es => (match F es [] with
        | .ok (.ref k) h' => (match h'[k]? with
          | some (.lst xs) => if D.flatL xs = true then .ok (.ref h.length) (h ++ [.lst xs]) else .bad
          | _ => .bad)
        | .exc c _ => .exc c h
        | _ => .bad)
      | none => .bad)
  else .bad
section
variable {K : PySem.W.Frag} {mg : Str → Option Value} {Z m : List Addr} {H : Hp} {h : CH} {W : WX} {σ : L2.St} {Q : VK} {n : Nat} {F : FD} {ds : List D} {vs : List V}
theorem callH_sp (hk : HeapOk K mg Z m h H) (r : RepL K mg m (hide (Z ++ m) H) ds vs) (p : Post K mg W σ Z m H (callH n F ds h) Q) : spF K mg n F vs H Q (fun c d H' => W c d σ H') := by
  unfold callH at p
  split at p
  · rename_i hn
    refine ⟨Z, m, h, ds, hk, r, hn, ?_⟩
    cases e : F ds h with
    | ok d h1 => rw [e] at p; exact p
    | exc c h1 => rw [e] at p; exact p
    | bad => rw [e] at p; exact p
  · exact p.elim
theorem callP_sp (hk : HeapOk K mg Z m h H) (r : RepL K mg m (hide (Z ++ m) H) ds vs) (p : Post K mg W σ Z m H (callP n F ds h) Q) : spF K mg n F vs H Q (fun c d H' => W c d σ H') := by
  unfold callP at p
  split at p
  · rename_i hn
    split at p
    · rename_i hnr
      have eqz : hide ((Z ++ m) ++ []) H = hide (Z ++ m) H := by rw [List.append_nil]
      refine ⟨Z ++ m, [], [], ds, HeapOk.empty fun a ha => hk.there ha, by rw [eqz]; exact RepL.nr Sub.refl ds vs r hnr, hn, ?_⟩
      -- behind the callee
      have back : ∀ {m2 H2}, Ext (Z ++ m) [] H m2 H2 → Ext Z m H m H2 ∧ HeapOk K mg Z m h H2 := fun {m2 H2} ex => by
        have st : Sub (hide (Z ++ m) H) (hide (Z ++ m) H2) := fun a o e => by
          have q := ex.st a o (by rw [eqz]; exact e)
          obtain ⟨q1, q2⟩ := hide_some q
          exact hide_of (fun z => q1 (List.mem_append_left _ z)) q2
        refine ⟨⟨fun _ _ e => e, st, fun a ha => ex.zs a (List.mem_append_left _ ha)⟩, hk.len, hk.nd, hk.dj, fun a ha => by rw [ex.zs a (List.mem_append_left _ ha)]; exact hk.ex a ha, fun k c a h1 h2 => ?_⟩
        exact CellR.mono (fun _ _ e => e) st (ex.zs a (List.mem_append_right _ (List.mem_of_getElem? h2))) (hk.cell k c a h1 h2)
      cases e : F ds [] with
      | ok d hc =>
        rw [e] at p
        dsimp only at p
        intro v m2 H2 ex hk2 r2
        obtain ⟨b1, b2⟩ := back ex
        cases e2 : fz hc d with
        | none => rw [e2] at p; exact p.elim
        | some d' =>
          rw [e2] at p
          obtain ⟨q1, q2⟩ := fz_rep (m' := m) hk2 e2 r2
          exact p v m H2 b1 b2 q1
      | exc c hc =>
        rw [e] at p
        intro m2 H2 cls ex hk2 hcls
        obtain ⟨b1, b2⟩ := back ex
        exact p m H2 cls b1 b2 hcls
      | bad => rw [e] at p; exact p
    · split at p
      · rename_i es hes
        have eqz : hide (Z ++ []) H = hide Z H := by rw [List.append_nil]
        obtain ⟨g1, g2⟩ := mapO_rep (n := 0) (m' := []) (S' := hide Z H) (fun d v d' q r => fz_rep hk q r) hes r
        have elen : es.length = ds.length := by rw [← g1.length, r.length]
        refine ⟨Z, [], [], es, HeapOk.empty hk.ex, by rw [eqz]; exact g1, elen.trans hn, ?_⟩
        have back : ∀ {m2 h2 H2}, Ext Z [] H m2 H2 → HeapOk K mg Z m2 h2 H2 → Ext Z m H m H2 ∧ HeapOk K mg Z m h H2 ∧ SubT K (hide (Z ++ m2) H2) (hide (Z ++ m) H2) := fun {m2 h2 H2} ex hk2 => by
          have old : ∀ a o, a ∉ Z → H a = some o → H2 a = some o := fun a o nz e => (hide_some (ex.st a o (by rw [eqz]; exact hide_of nz e))).2
          have st : Sub (hide (Z ++ m) H) (hide (Z ++ m) H2) := fun a o e => by
            obtain ⟨q1, q2⟩ := hide_some e
            exact hide_of q1 (old a o (fun z => q1 (List.mem_append_left _ z)) q2)
          have cells : ∀ a ∈ m, H2 a = H a := fun a ha => by
            obtain ⟨o, e⟩ := hk.there (List.mem_append_right Z ha)
            rw [old a o (hk.dj a ha) e, e]
          have hkm : HeapOk K mg Z m h H2 := ⟨hk.len, hk.nd, hk.dj, fun a ha => by rw [ex.zs a ha]; exact hk.ex a ha, fun k c a h1 h2 => CellR.mono (fun _ _ e => e) st (cells a (List.mem_of_getElem? h2)) (hk.cell k c a h1 h2)⟩
          refine ⟨⟨fun _ _ e => e, st, ex.zs⟩, hkm, fun a xs q => ?_⟩
          have nm : ∀ {u : HO}, hide (Z ++ m2) H2 a = some u → ((∃ ys, u = .tup ys) ∨ ∃ o w, u = .frz o w) → hide (Z ++ m) H2 a = some u := fun {u} e n1 => by
            obtain ⟨q1, q2⟩ := hide_some e
            refine hide_of (fun z => ?_) q2
            rcases List.mem_append.mp z with z | z
            · exact q1 (List.mem_append_left _ z)
            · obtain ⟨k, hk', ek⟩ := List.mem_iff_getElem.mp z
              have hc : k < h.length := by rw [← hk.len]; exact hk'
              have cr := hkm.cell k _ a (List.getElem?_eq_getElem hc) (by rw [List.getElem?_eq_getElem hk', ek])
              rcases n1 with ⟨ys, rfl⟩ | ⟨o, w, rfl⟩
              · exact cr.what.1 _ q2
              · exact cr.what.2 _ _ q2
          rcases q with (q | ⟨o, q⟩) | q
          · exact .inl (.inl (nm q (.inl ⟨_, rfl⟩)))
          · exact .inl (.inr ⟨o, nm q (.inr ⟨_, _, rfl⟩)⟩)
          · exact .inr q
        cases e : F es [] with
        | ok d hc =>
          rw [e] at p
          dsimp only at p
          intro v m2 H2 ex hk2 r2
          obtain ⟨b1, b2, b3⟩ := back ex hk2
          split at p
          · rename_i hfl
            exact p v m H2 b1 b2 (Rep.flat b3 d v r2 hfl)
          · have fresh : ∀ a, a ∈ m2 → a ∉ Z ++ m := fun a ha z => by
              rcases List.mem_append.mp z with z | z
              · exact hk2.dj a ha z
              · obtain ⟨o, e⟩ := hk.there (List.mem_append_right Z z)
                have q := ex.st a o (by rw [eqz]; exact hide_of (hk.dj a z) e)
                exact (hide_some q).1 (List.mem_append_right _ ha)
            cases eo : own hc d with
            | none => rw [eo] at p; exact p.elim
            | some d' =>
              rw [eo] at p
              refine p v m H2 b1 b2 ?_
              unfold own at eo
              split at eo
              · rename_i k hnf
                unfold Rep at r2
                obtain ⟨a, hm, rfl⟩ := r2
                have hma := List.mem_of_getElem? hm
                split at eo
                · rename_i xs hx
                  split at eo
                  · rename_i hfx
                    cases eo
                    obtain ⟨vs, h1, h2⟩ := hk2.cell k _ a hx hm
                    unfold Rep
                    exact ⟨a, vs, rfl, hide_of (fresh a hma) h1, RepL.flat b3 xs vs h2 hfx⟩
                  · cases eo
                · rename_i c ns xs hx
                  split at eo
                  · rename_i hfx
                    cases eo
                    obtain ⟨C, dx, fs, h1, e2, e3, h4⟩ := hk2.cell k _ a hx hm
                    unfold Rep
                    exact ⟨a, C, dx, fs, rfl, hide_of (fresh a hma) h1, e2, e3, RepL.flat b3 xs _ h4 hfx⟩
                  · cases eo
                · cases eo
              · cases eo
        | exc c hc =>
          rw [e] at p
          intro m2 H2 cls ex hk2 hcls
          obtain ⟨b1, b2, _⟩ := back ex hk2
          exact p m H2 cls b1 b2 hcls
        | bad => rw [e] at p; exact p
      · exact p.elim
  · exact p.elim
theorem callN_nr (hk : HeapOk K mg Z m h H) (r : RepL K mg m (hide (Z ++ m) H) ds vs) (hn : ds.length = n) (hnr : D.nrL ds = true) (p : Post K mg W σ Z m H (match F ds [] with
        | .ok (.ref k) h' => (match h'[k]? with
          | some (.lst xs) => if D.nrL xs = true then .ok (.ref h.length) (h ++ [.lst xs]) else .bad
          | _ => .bad)
        | .exc c _ => .exc c h
        | _ => .bad) Q) : spF K mg n F vs H Q (fun c d H' => W c d σ H') := by
  have eqz : hide ((Z ++ m) ++ []) H = hide (Z ++ m) H := by rw [List.append_nil]
  refine ⟨Z ++ m, [], [], ds, HeapOk.empty fun a ha => hk.there ha, by rw [eqz]; exact RepL.nr Sub.refl ds vs r hnr, hn, ?_⟩
  have st0 : ∀ {m2 H2}, Ext (Z ++ m) [] H m2 H2 → Sub (hide (Z ++ m) H) (hide ((Z ++ m) ++ m2) H2) := fun {m2 H2} ex a o e => ex.st a o (by rw [eqz]; exact e)
  cases e : F ds [] with
  | ok d hc =>
    rw [e] at p
    intro v m2 H2 ex hk2 r2
    split at p
    · rename_i k hh he
      cases he
      split at p
      · rename_i xs hx
        split at p
        · rename_i hnx
          unfold Rep at r2
          obtain ⟨a, hm, rfl⟩ := r2
          have hma := List.mem_of_getElem? hm
          have hza : a ∉ Z ++ m := hk2.dj a hma
          have sub1 : Sub (hide ((Z ++ m) ++ m2) H2) (hide (Z ++ (m ++ [a])) H2) := fun b o e => by
            obtain ⟨q1, q2⟩ := hide_some e
            refine hide_of (fun z => q1 ?_) q2
            rcases List.mem_append.mp z with z | z
            · exact List.mem_append_left _ (List.mem_append_left _ z)
            · rcases List.mem_append.mp z with z | z
              · exact List.mem_append_left _ (List.mem_append_right _ z)
              · rw [List.mem_singleton.mp z]; exact List.mem_append_right _ hma
          have sub2 : Sub (hide (Z ++ m) H) (hide (Z ++ (m ++ [a])) H2) := (st0 ex).trans sub1
          have pre : ∀ (n : Nat) b, m[n]? = some b → (m ++ [a])[n]? = some b := fun n b e => by
            obtain ⟨q, _⟩ := List.getElem?_eq_some_iff.mp e
            rw [List.getElem?_append_left q]; exact e
          refine p (.ref a) (m ++ [a]) H2 ⟨pre, sub2, fun b hb => ex.zs b (List.mem_append_left _ hb)⟩ ⟨by simp [hk.len], ?_, fun b hb z => ?_, fun b hb => by rw [ex.zs b (List.mem_append_left _ hb)]; exact hk.ex b hb, fun j c b h1 h2 => ?_⟩ ?_
          · refine List.nodup_append.mpr ⟨hk.nd, by simp, fun x hx y hy => ?_⟩
            rw [List.mem_singleton.mp hy]
            intro z
            subst z
            exact hza (List.mem_append_right _ hx)
          · rcases List.mem_append.mp hb with q | q
            · exact hk.dj b q z
            · rw [List.mem_singleton.mp q] at z; exact hza (List.mem_append_left _ z)
          · by_cases hj : j < m.length
            · rw [List.getElem?_append_left hj] at h2
              rw [List.getElem?_append_left (by rw [← hk.len]; exact hj)] at h1
              exact CellR.mono pre sub2 (ex.zs b (List.mem_append_right _ (List.mem_of_getElem? h2))) (hk.cell j c b h1 h2)
            · have hj2 : j = m.length := by
                obtain ⟨q, _⟩ := List.getElem?_eq_some_iff.mp h2
                simp at q
                omega
              subst hj2
              rw [List.getElem?_append_right (Nat.le_refl _), Nat.sub_self] at h2
              rw [hk.len, List.getElem?_append_right (Nat.le_refl _), Nat.sub_self] at h1
              cases h1
              cases h2
              obtain ⟨ws, g1, g2⟩ := hk2.cell k _ a hx hm
              exact ⟨ws, g1, RepL.nr sub1 xs ws g2 hnx⟩
          · unfold Rep
            exact ⟨a, by rw [← hk.len, List.getElem?_append_right (Nat.le_refl _), Nat.sub_self]; rfl, rfl⟩
        · exact p.elim
      · exact p.elim
    · rename_i he; cases he
    · exact p.elim
  | exc c hc =>
    rw [e] at p
    intro m2 H2 cls ex hk2 hcls
    have st : Sub (hide (Z ++ m) H) (hide (Z ++ m) H2) := fun a o e => by
      obtain ⟨q1, q2⟩ := hide_some (st0 ex a o e)
      exact hide_of (fun z => q1 (List.mem_append_left _ z)) q2
    exact p m H2 cls ⟨fun _ _ e => e, st, fun a ha => ex.zs a (List.mem_append_left _ ha)⟩ ⟨hk.len, hk.nd, hk.dj, fun a ha => by rw [ex.zs a (List.mem_append_left _ ha)]; exact hk.ex a ha, fun k c a h1 h2 => CellR.mono (fun _ _ e => e) st (ex.zs a (List.mem_append_right _ (List.mem_of_getElem? h2))) (hk.cell k c a h1 h2)⟩ hcls
  | bad => rw [e] at p; exact p
theorem callN_fz (hk : HeapOk K mg Z m h H) (r : RepL K mg m (hide (Z ++ m) H) ds vs) (hn : ds.length = n) {es : List D} (hes : mapO (fz h) ds = some es) (p : Post K mg W σ Z m H (match F es [] with
        | .ok (.ref k) h' => (match h'[k]? with
          | some (.lst xs) => if D.flatL xs = true then .ok (.ref h.length) (h ++ [.lst xs]) else .bad
          | _ => .bad)
        | .exc c _ => .exc c h
        | _ => .bad) Q) : spF K mg n F vs H Q (fun c d H' => W c d σ H') := by
  have eqz : hide (Z ++ []) H = hide Z H := by rw [List.append_nil]
  obtain ⟨g1, g2⟩ := mapO_rep (n := 0) (m' := []) (S' := hide Z H) (fun d v d' q r => fz_rep hk q r) hes r
  have elen : es.length = ds.length := by rw [← g1.length, r.length]
  refine ⟨Z, [], [], es, HeapOk.empty hk.ex, by rw [eqz]; exact g1, elen.trans hn, ?_⟩
  have old : ∀ {m2 H2}, Ext Z [] H m2 H2 → ∀ a o, a ∉ Z → H a = some o → H2 a = some o ∧ a ∉ m2 := fun {m2 H2} ex a o nz e => by
    have q := hide_some (ex.st a o (by rw [eqz]; exact hide_of nz e))
    exact ⟨q.2, fun z => q.1 (List.mem_append_right _ z)⟩
  have cellsE : ∀ {m2 H2}, Ext Z [] H m2 H2 → ∀ a ∈ m, H2 a = H a := fun {m2 H2} ex a ha => by
    obtain ⟨o, e⟩ := hk.there (List.mem_append_right Z ha)
    rw [(old ex a o (hk.dj a ha) e).1, e]
  cases e : F es [] with
  | ok d hc =>
    rw [e] at p
    intro v m2 H2 ex hk2 r2
    split at p
    · rename_i k hh he
      cases he
      split at p
      · rename_i xs hx
        split at p
        · rename_i hfx
          unfold Rep at r2
          obtain ⟨a, hm, rfl⟩ := r2
          have hma := List.mem_of_getElem? hm
          have hnm : a ∉ m := fun z => by
            obtain ⟨o, eo⟩ := hk.there (List.mem_append_right Z z)
            exact (old ex a o (hk.dj a z) eo).2 hma
          have hnz : a ∉ Z := hk2.dj a hma
          obtain ⟨ws, w1, w2⟩ := hk2.cell k _ a hx hm
          have pre : ∀ (n : Nat) b, m[n]? = some b → (m ++ [a])[n]? = some b := fun n b e => by
            obtain ⟨q, _⟩ := List.getElem?_eq_some_iff.mp e
            rw [List.getElem?_append_left q]; exact e
          have sub2 : Sub (hide (Z ++ m) H) (hide (Z ++ (m ++ [a])) H2) := fun b o eb => by
            obtain ⟨q1, q2⟩ := hide_some eb
            have nz : b ∉ Z := fun z => q1 (List.mem_append_left _ z)
            obtain ⟨q3, q4⟩ := old ex b o nz q2
            refine hide_of (fun z => ?_) q3
            rcases List.mem_append.mp z with z | z
            · exact nz z
            · rcases List.mem_append.mp z with z | z
              · exact q1 (List.mem_append_right _ z)
              · rw [List.mem_singleton.mp z] at q4; exact q4 hma
          have subt : SubT K (hide (Z ++ m2) H2) (hide (Z ++ (m ++ [a])) H2) := fun b ys q => by
            have nm : ∀ {u : HO}, hide (Z ++ m2) H2 b = some u → ((∃ ys, u = .tup ys) ∨ ∃ o w, u = .frz o w) → hide (Z ++ (m ++ [a])) H2 b = some u := fun {u} eb n1 => by
              obtain ⟨q1, q2⟩ := hide_some eb
              refine hide_of (fun z => ?_) q2
              rcases List.mem_append.mp z with z | z
              · exact q1 (List.mem_append_left _ z)
              · rcases List.mem_append.mp z with z | z
                · obtain ⟨j, hj, ej⟩ := List.mem_iff_getElem.mp z
                  have hc' : j < h.length := by rw [← hk.len]; exact hj
                  have cr := hk.cell j _ b (List.getElem?_eq_getElem hc') (by rw [List.getElem?_eq_getElem hj, ej])
                  have eH : H b = some u := by rw [← cellsE ex b z]; exact q2
                  rcases n1 with ⟨ys, rfl⟩ | ⟨o, w, rfl⟩
                  · exact cr.what.1 _ eH
                  · exact cr.what.2 _ _ eH
                · rw [List.mem_singleton.mp z] at q1; exact q1 (List.mem_append_right _ hma)
            rcases q with (q | ⟨o, q⟩) | q
            · exact .inl (.inl (nm q (.inl ⟨_, rfl⟩)))
            · exact .inl (.inr ⟨o, nm q (.inr ⟨_, _, rfl⟩)⟩)
            · exact .inr q
          refine p (.ref a) (m ++ [a]) H2 ⟨pre, sub2, ex.zs⟩ ⟨by simp [hk.len], ?_, fun b hb z => ?_, fun b hb => by rw [ex.zs b hb]; exact hk.ex b hb, fun j c b h1 h2 => ?_⟩ ?_
          · refine List.nodup_append.mpr ⟨hk.nd, by simp, fun x hx y hy z => ?_⟩
            rw [List.mem_singleton.mp hy] at z
            subst z
            exact hnm hx
          · rcases List.mem_append.mp hb with q | q
            · exact hk.dj b q z
            · rw [List.mem_singleton.mp q] at z; exact hnz z
          · by_cases hj : j < m.length
            · rw [List.getElem?_append_left hj] at h2
              rw [List.getElem?_append_left (by rw [← hk.len]; exact hj)] at h1
              exact CellR.mono pre sub2 (cellsE ex b (List.mem_of_getElem? h2)) (hk.cell j c b h1 h2)
            · have hj2 : j = m.length := by
                obtain ⟨q, _⟩ := List.getElem?_eq_some_iff.mp h2
                simp at q
                omega
              subst hj2
              rw [List.getElem?_append_right (Nat.le_refl _), Nat.sub_self] at h2
              rw [hk.len, List.getElem?_append_right (Nat.le_refl _), Nat.sub_self] at h1
              cases h1
              cases h2
              exact ⟨ws, w1, RepL.flat subt xs ws w2 hfx⟩
          · unfold Rep
            exact ⟨a, by rw [← hk.len, List.getElem?_append_right (Nat.le_refl _), Nat.sub_self]; rfl, rfl⟩
        · exact p.elim
      · exact p.elim
    · rename_i he; cases he
    · exact p.elim
  | exc c hc =>
    rw [e] at p
    intro m2 H2 cls ex hk2 hcls
    have st : Sub (hide (Z ++ m) H) (hide (Z ++ m) H2) := fun a o e => by
      obtain ⟨q1, q2⟩ := hide_some e
      exact hide_of q1 (old ex a o (fun z => q1 (List.mem_append_left _ z)) q2).1
    exact p m H2 cls ⟨fun _ _ e => e, st, ex.zs⟩ ⟨hk.len, hk.nd, hk.dj, fun a ha => by rw [ex.zs a ha]; exact hk.ex a ha, fun k c a h1 h2 => CellR.mono (fun _ _ e => e) st (cellsE ex a (List.mem_of_getElem? h2)) (hk.cell k c a h1 h2)⟩ hcls
  | bad => rw [e] at p; exact p
theorem callN_sp (hk : HeapOk K mg Z m h H) (r : RepL K mg m (hide (Z ++ m) H) ds vs) (p : Post K mg W σ Z m H (callN n F ds h) Q) : spF K mg n F vs H Q (fun c d H' => W c d σ H') := by
  unfold callN at p
  split at p
  · rename_i hn
    split at p
    · rename_i hnr
      exact callN_nr hk r hn hnr p
    · split at p
      · rename_i es hes
        exact callN_fz hk r hn hes p
      · exact p.elim
  · exact p.elim
end
/-! ### a callee with cells of its own and the defs' tables -/
def tabsOf : CH → CH
  | .tab q :: r => .tab q :: tabsOf r
  | _ => []
theorem tabsOf_app : ∀ h : CH, ∃ r, h = tabsOf h ++ r
  | [] => ⟨[], rfl⟩
  | .tab q :: r => let ⟨t, e⟩ := tabsOf_app r; ⟨t, by show Cell.tab q :: r = Cell.tab q :: (tabsOf r ++ t); rw [← e]⟩
  | .lst xs :: r => ⟨_, rfl⟩
  | .ins c ns xs :: r => ⟨_, rfl⟩
  | .dS ks xs :: r => ⟨_, rfl⟩
  | .dM ks xs :: r => ⟨_, rfl⟩
theorem tabsOf_tab : ∀ {h : CH} {k : Nat} {c : Cell}, (tabsOf h)[k]? = some c → ∃ q, c = .tab q
  | [], k, c, e => by simp [tabsOf] at e
  | .tab q :: r, 0, c, e => by
    have e : some (Cell.tab q) = some c := e
    cases e; exact ⟨q, rfl⟩
  | .tab q :: r, k + 1, c, e => tabsOf_tab (h := r) (k := k) (by simpa [tabsOf] using e)
  | .lst xs :: r, k, c, e => by simp [tabsOf] at e
  | .ins _ _ _ :: r, k, c, e => by simp [tabsOf] at e
  | .dS _ _ :: r, k, c, e => by simp [tabsOf] at e
  | .dM _ _ :: r, k, c, e => by simp [tabsOf] at e
def Cell.noM : Cell → Bool
  | .dM _ _ => false
  | _ => true
open Classical in
noncomputable def callT (n : Nat) (F : FD) (ds : List D) : M D := fun h =>
  if ds.length = n then
    (if D.nrL ds = true then
      (match F ds (tabsOf h) with
        | .ok d h' => if ∃ r, h' = tabsOf h ++ r then (match fz h' d with
          | some d' => .ok d' h
          | none => .bad) else .bad
        | .exc c h' => if ∃ r, h' = tabsOf h ++ r then .exc c h else .bad
        | .bad => .bad)
    else if h.all Cell.noM = true then (match mapO (fz h) ds with
      | some es => (match F es (tabsOf h) with
        | .ok d h' => if ∃ r, h' = tabsOf h ++ r then (if d.flat = true then .ok d h else (match own h' d with
          | some d' => .ok d' h
          | none => .bad)) else .bad
        | .exc c h' => if ∃ r, h' = tabsOf h ++ r then .exc c h else .bad
        | .bad => .bad)
      | none => .bad) else .bad)
  else .bad
section
variable {K : PySem.W.Frag} {mg : Str → Option Value} {Z Z1 m m2 : List Addr} {H H2 : Hp} {h h' : CH} {W : WX} {σ : L2.St} {Q : VK} {n t : Nat} {F : FD} {ds : List D} {vs : List V}
/-- Z1: what the callee doesn't see: Z, and the caller's cells or none -/
structure TabIn (Z Z1 m : List Addr) (h : CH) : Prop where
  sub : ∀ a ∈ Z, a ∈ Z1
  in_ : ∀ a ∈ Z1, a ∈ Z ∨ a ∈ m.drop (tabsOf h).length
  or_ : (∀ a ∈ m.drop (tabsOf h).length, a ∈ Z1) ∨ h.all Cell.noM = true
theorem take_drop_ne {α : Type} {m : List α} (nd : m.Nodup) {t : Nat} {a : α} (h1 : a ∈ m.take t) (h2 : a ∈ m.drop t) : False := by
  have := List.nodup_append.mp ((List.take_append_drop t m).symm ▸ nd)
  exact this.2.2 a h1 a h2 rfl
theorem mem_td {α : Type} {m : List α} (t : Nat) {a : α} (h : a ∈ m) : a ∈ m.take t ∨ a ∈ m.drop t := by
  rw [← List.take_append_drop t m] at h
  exact List.mem_append.mp h
theorem tabs_le (hk : HeapOk K mg Z m h H) : (tabsOf h).length ≤ m.length := by
  obtain ⟨r, e⟩ := tabsOf_app h
  have := congrArg List.length e
  rw [List.length_append] at this
  rw [hk.len]; omega
theorem tabs_get {k : Nat} {c : Cell} (e : (tabsOf h)[k]? = some c) : h[k]? = some c := by
  obtain ⟨r, e2⟩ := tabsOf_app h
  have hl := (List.getElem?_eq_some_iff.mp e).1
  rw [e2, List.getElem?_append_left hl]
  exact e
theorem TabIn.ok (x : TabIn Z Z1 m h) (hk : HeapOk K mg Z m h H) : HeapOk K mg Z1 (m.take (tabsOf h).length) (tabsOf h) H := by
  have hl := tabs_le hk
  refine ⟨by rw [List.length_take]; omega, hk.nd.sublist (List.take_sublist _ _), fun a ha z => ?_, fun a ha => ?_, fun k c a h1 h2 => ?_⟩
  · rcases x.in_ a z with z | z
    · exact hk.dj a (List.mem_of_mem_take ha) z
    · exact take_drop_ne hk.nd ha z
  · rcases x.in_ a ha with z | z
    · exact hk.ex a z
    · exact hk.there (List.mem_append_right _ (List.mem_of_mem_drop z))
  · obtain ⟨q, rfl⟩ := tabsOf_tab h1
    have hm : m[k]? = some a := by
      have := (List.getElem?_eq_some_iff.mp h2).1
      rw [List.length_take] at this
      rw [List.getElem?_take_of_lt (by omega)] at h2
      exact h2
    obtain ⟨c, ps, g1, g2, g3, g4⟩ := hk.cell k _ a (tabs_get h1) hm
    refine ⟨c, ps, g1, g2, g3, fun pos cv hc => ?_⟩
    obtain ⟨c', e1, e2⟩ := g4 pos cv hc
    obtain ⟨e3, e4⟩ := hide_some e2
    refine ⟨c', e1, hide_of (fun z => e3 ?_) e4⟩
    rcases List.mem_append.mp z with z | z
    · rcases x.in_ _ z with z | z
      · exact List.mem_append_left _ z
      · exact List.mem_append_right _ (List.mem_of_mem_drop z)
    · exact List.mem_append_right _ (List.mem_of_mem_take z)
/-- what the caller sees behind the callee -/
theorem TabIn.back (x : TabIn Z Z1 m h) (hk : HeapOk K mg Z m h H) (ex : Ext Z1 (m.take (tabsOf h).length) H m2 H2) (hk2 : HeapOk K mg Z1 m2 h' H2) (hp : ∃ r, h' = tabsOf h ++ r) : Ext Z m H m H2 ∧ HeapOk K mg Z m h H2 ∧ (∀ (k : Nat) a, m2[k]? = some a → Dat h' k → a ∉ Z ++ m) ∧ ∀ a ∈ m, ∃ c, c ∈ h ∧ CellR K mg m (hide (Z ++ m) H2) H2 a c := by
  obtain ⟨r, hr⟩ := hp
  have out : ∀ a, a ∉ Z ++ m → a ∉ Z1 ++ m.take (tabsOf h).length := fun a n z => by
    rcases List.mem_append.mp z with z | z
    · rcases x.in_ _ z with z | z
      · exact n (List.mem_append_left _ z)
      · exact n (List.mem_append_right _ (List.mem_of_mem_drop z))
    · exact n (List.mem_append_right _ (List.mem_of_mem_take z))
  have st : Sub (hide (Z ++ m) H) (hide (Z ++ m) H2) := fun a o e => by
    obtain ⟨q1, q2⟩ := hide_some e
    exact hide_of q1 (hide_some (ex.st a o (hide_of (out a q1) q2))).2
  have t2 : ∀ a ∈ m.take (tabsOf h).length, a ∈ m2 := fun a ha => by
    obtain ⟨k, hk', e⟩ := List.mem_iff_getElem.mp ha
    exact List.mem_of_getElem? (ex.pre k a (by rw [List.getElem?_eq_getElem hk', e]))
  -- a cell beyond the tables
  have rest : ∀ a ∈ m.drop (tabsOf h).length, H2 a = H a := fun a ha => by
    by_cases hz : a ∈ Z1
    · exact ex.zs a hz
    · obtain ⟨o, e⟩ := hk.there (List.mem_append_right Z (List.mem_of_mem_drop ha))
      have q := ex.st a o (hide_of (fun z => (List.mem_append.mp z).elim hz fun z => take_drop_ne hk.nd z ha) e)
      rw [(hide_some q).2, e]
  have cellB : ∀ k c a, h[k]? = some c → m[k]? = some a → a ∈ m.drop (tabsOf h).length → CellR K mg m (hide (Z ++ m) H2) H2 a c := fun k c a h1 h2 ha => CellR.mono (fun _ _ e => e) st (rest a ha) (hk.cell k c a h1 h2)
  have atT : ∀ (k : Nat) a, m[k]? = some a → k < (tabsOf h).length → (m.take (tabsOf h).length)[k]? = some a := fun k a e hl => by rw [List.getElem?_take_of_lt hl]; exact e
  have atD : ∀ (k : Nat) a, m[k]? = some a → ¬ k < (tabsOf h).length → a ∈ m.drop (tabsOf h).length := fun k a e hl => by
    refine List.mem_of_getElem? (i := k - (tabsOf h).length) ?_
    rw [List.getElem?_drop]
    have : (tabsOf h).length + (k - (tabsOf h).length) = k := by omega
    rw [this]; exact e
  have cell : ∀ k c a, h[k]? = some c → m[k]? = some a → CellR K mg m (hide (Z ++ m) H2) H2 a c := fun k c a h1 h2 => by
    by_cases hl : k < (tabsOf h).length
    · have h1' : (tabsOf h)[k]? = some c := by
        have e := tabs_get (h := h) (List.getElem?_eq_getElem hl)
        rw [h1] at e
        rw [List.getElem?_eq_getElem hl]
        exact e.symm
      obtain ⟨q, rfl⟩ := tabsOf_tab h1'
      have g := hk2.cell k (.tab q) a (by rw [hr, List.getElem?_append_left hl]; exact h1') (ex.pre k a (atT k a h2 hl))
      obtain ⟨c, ps, g1, g2, g3, g4⟩ := g
      refine ⟨c, ps, g1, g2, g3, fun pos cv hc => ?_⟩
      obtain ⟨c', e1, e2⟩ := g4 pos cv hc
      obtain ⟨e3, e4⟩ := hide_some e2
      refine ⟨c', e1, hide_of (fun z => ?_) e4⟩
      rcases List.mem_append.mp z with z | z
      · exact e3 (List.mem_append_left _ (x.sub _ z))
      · rcases mem_td (tabsOf h).length z with z | z
        · exact e3 (List.mem_append_right _ (t2 _ z))
        · rcases x.or_ with o | o
          · exact e3 (List.mem_append_left _ (o _ z))
          · obtain ⟨j, hj, ej⟩ := List.mem_iff_getElem.mp (List.mem_of_mem_drop z)
            have hj2 : j < h.length := by rw [← hk.len]; exact hj
            have cr := cellB j _ c' (List.getElem?_eq_getElem hj2) (by rw [List.getElem?_eq_getElem hj, ej]) z
            have nM := List.all_eq_true.mp o _ (List.getElem_mem hj2)
            generalize h[j] = cc at cr nM
            unfold LamX.CodeO at e4
            cases cc with
            | lst xs => obtain ⟨_, g, _⟩ := cr; rw [e4] at g; cases g
            | ins c ns xs => obtain ⟨_, _, _, g, _⟩ := cr; rw [e4] at g; cases g
            | tab q => obtain ⟨_, _, _, g, _⟩ := cr; rw [e4] at g; cases g
            | dS ks xs => obtain ⟨_, g, _⟩ := cr; rw [e4] at g; cases g
            | dM ks xs => cases nM
    · exact cellB k c a h1 h2 (atD k a h2 hl)
  refine ⟨⟨fun _ _ e => e, st, fun a ha => ex.zs a (x.sub a ha)⟩, ⟨hk.len, hk.nd, hk.dj, fun a ha => by rw [ex.zs a (x.sub a ha)]; exact hk.ex a ha, cell⟩, fun k a hm hd z => ?_, fun a ha => ?_⟩
  · rcases List.mem_append.mp z with z | z
    · exact hk2.dj a (List.mem_of_getElem? hm) (x.sub a z)
    · rcases mem_td (tabsOf h).length z with z | z
      · obtain ⟨j, hj, ej⟩ := List.mem_iff_getElem.mp z
        have e2 := ex.pre j a (by rw [List.getElem?_eq_getElem hj, ej])
        have jk : j = k := L2.nd_ix hk2.nd e2 hm
        subst jk
        have hl : j < (tabsOf h).length := by rw [List.length_take] at hj; omega
        have e3 : h'[j]? = (tabsOf h)[j]? := by rw [hr, List.getElem?_append_left hl]
        obtain ⟨q, e4⟩ := tabsOf_tab (List.getElem?_eq_getElem hl)
        rw [List.getElem?_eq_getElem hl, e4] at e3
        rcases hd with ⟨xs, e⟩ | ⟨c, ns, xs, e⟩ <;> rw [e3] at e <;> cases e
      · by_cases hz : a ∈ Z1
        · exact hk2.dj a (List.mem_of_getElem? hm) hz
        · obtain ⟨o, e⟩ := hk.there (List.mem_append_right Z (List.mem_of_mem_drop z))
          have q := ex.st a o (hide_of (fun y => (List.mem_append.mp y).elim hz fun y => take_drop_ne hk.nd y z) e)
          exact (hide_some q).1 (List.mem_append_right _ (List.mem_of_getElem? hm))
  · obtain ⟨k, hk', e⟩ := List.mem_iff_getElem.mp ha
    have hc : k < h.length := by rw [← hk.len]; exact hk'
    exact ⟨h[k], List.getElem_mem hc, cell k _ a (List.getElem?_eq_getElem hc) (by rw [List.getElem?_eq_getElem hk', e])⟩
theorem callT_sp (hk : HeapOk K mg Z m h H) (r : RepL K mg m (hide (Z ++ m) H) ds vs) (p : Post K mg W σ Z m H (callT n F ds h) Q) : spF K mg n F vs H Q (fun c d H' => W c d σ H') := by
  unfold callT at p
  split at p
  · rename_i hn
    split at p
    · rename_i hnr
      have x : TabIn Z (Z ++ m.drop (tabsOf h).length) m h := ⟨fun a ha => List.mem_append_left _ ha, fun a ha => List.mem_append.mp ha, .inl fun a ha => List.mem_append_right _ ha⟩
      have seen : ∀ {a : Addr}, a ∉ Z ++ m → a ∉ (Z ++ m.drop (tabsOf h).length) ++ m.take (tabsOf h).length := fun {a} q z => q (by
        rcases List.mem_append.mp z with z | z
        · rcases List.mem_append.mp z with z | z
          · exact List.mem_append_left _ z
          · exact List.mem_append_right _ (List.mem_of_mem_drop z)
        · exact List.mem_append_right _ (List.mem_of_mem_take z))
      refine ⟨_, _, _, ds, x.ok hk, RepL.nr (fun a o e => let ⟨q1, q2⟩ := hide_some e; hide_of (seen q1) q2) ds vs r hnr, hn, ?_⟩
      cases e : F ds (tabsOf h) with
      | ok d hc =>
        rw [e] at p
        dsimp only at p
        intro v m2 H2 ex hk2 r2
        split at p
        · rename_i hp
          obtain ⟨b1, b2, b3, b4⟩ := x.back hk ex hk2 hp
          cases e2 : fz hc d with
          | none => rw [e2] at p; exact p.elim
          | some d' =>
            rw [e2] at p
            refine p v m H2 b1 b2 (fzF_rep (S' := hide (Z ++ m) H2) (m' := m) hk2 (fun a o e => ?_) (fun k a o hm hd e => hide_of (b3 k a hm hd) e) 12 d v d' e2 r2).1
            obtain ⟨q1, q2⟩ := hide_some e
            refine hide_of (fun z => q1 ?_) q2
            rcases List.mem_append.mp z with z | z
            · exact List.mem_append_left _ (List.mem_append_left _ z)
            · rcases mem_td (tabsOf h).length z with z | z
              · obtain ⟨k, hk', e⟩ := List.mem_iff_getElem.mp z
                exact List.mem_append_right _ (List.mem_of_getElem? (ex.pre k a (by rw [List.getElem?_eq_getElem hk', e])))
              · exact List.mem_append_left _ (List.mem_append_right _ z)
        · exact p.elim
      | exc c hc =>
        rw [e] at p
        dsimp only at p
        intro m2 H2 cls ex hk2 hcls
        split at p
        · rename_i hp
          obtain ⟨b1, b2, _⟩ := x.back hk ex hk2 hp
          exact p m H2 cls b1 b2 hcls
        · exact p.elim
      | bad => rw [e] at p; exact p
    · split at p
      · rename_i hnm
        split at p
        · rename_i es hes
          have x : TabIn Z Z m h := ⟨fun a ha => ha, fun a ha => .inl ha, .inr hnm⟩
          have go : ∀ (k : Nat) a o, m[k]? = some a → Dat h k → H a = some o → hide (Z ++ m.take (tabsOf h).length) H a = some o := fun k a o hm hd e => by
            refine hide_of (fun z => ?_) e
            rcases List.mem_append.mp z with z | z
            · exact hk.dj a (List.mem_of_getElem? hm) z
            · obtain ⟨j, hj, ej⟩ := List.mem_iff_getElem.mp z
              have hl : j < (tabsOf h).length := by rw [List.length_take] at hj; omega
              have e2 : m[j]? = some a := by
                have := List.getElem?_eq_getElem hj
                rw [List.getElem?_take_of_lt hl, ej] at this
                exact this
              have jk : j = k := L2.nd_ix hk.nd e2 hm
              subst jk
              obtain ⟨q, e4⟩ := tabsOf_tab (List.getElem?_eq_getElem hl)
              have e3 := tabs_get (h := h) (List.getElem?_eq_getElem hl)
              rw [e4] at e3
              rcases hd with ⟨xs, e⟩ | ⟨c, ns, xs, e⟩ <;> rw [e3] at e <;> cases e
          have st0 : Sub (hide (Z ++ m) H) (hide (Z ++ m.take (tabsOf h).length) H) := fun a o e => by
            obtain ⟨q1, q2⟩ := hide_some e
            exact hide_of (fun z => q1 ((List.mem_append.mp z).elim (List.mem_append_left _) fun z => List.mem_append_right _ (List.mem_of_mem_take z))) q2
          obtain ⟨g1, g2⟩ := mapO_rep (n := 0) (m' := m.take (tabsOf h).length) (S' := hide (Z ++ m.take (tabsOf h).length) H) (fun d v d' q r => fzF_rep hk st0 go 12 d v d' q r) hes r
          have elen : es.length = ds.length := by rw [← g1.length, r.length]
          refine ⟨Z, _, _, es, x.ok hk, g1, elen.trans hn, ?_⟩
          cases e : F es (tabsOf h) with
          | ok d hc =>
            rw [e] at p
            dsimp only at p
            intro v m2 H2 ex hk2 r2
            split at p
            · rename_i hp
              obtain ⟨b1, b2, b3, b4⟩ := x.back hk ex hk2 hp
              have subt : SubT K (hide (Z ++ m2) H2) (hide (Z ++ m) H2) := fun a xs q => by
                have nm : ∀ {u : HO}, hide (Z ++ m2) H2 a = some u → ((∃ ys, u = .tup ys) ∨ ∃ o w, u = .frz o w) → hide (Z ++ m) H2 a = some u := fun {u} e n1 => by
                  obtain ⟨q1, q2⟩ := hide_some e
                  refine hide_of (fun z => ?_) q2
                  rcases List.mem_append.mp z with z | z
                  · exact q1 (List.mem_append_left _ z)
                  · obtain ⟨c, _, cr⟩ := b4 a z
                    rcases n1 with ⟨ys, rfl⟩ | ⟨o, w, rfl⟩
                    · exact cr.what.1 _ q2
                    · exact cr.what.2 _ _ q2
                rcases q with (q | ⟨o, q⟩) | q
                · exact .inl (.inl (nm q (.inl ⟨_, rfl⟩)))
                · exact .inl (.inr ⟨o, nm q (.inr ⟨_, _, rfl⟩)⟩)
                · exact .inr q
              split at p
              · rename_i hfl
                exact p v m H2 b1 b2 (Rep.flat subt d v r2 hfl)
              · cases eo : own hc d with
                | none => rw [eo] at p; exact p.elim
                | some d' =>
                  rw [eo] at p
                  refine p v m H2 b1 b2 ?_
                  unfold own at eo
                  split at eo
                  · rename_i k hnf
                    unfold Rep at r2
                    obtain ⟨a, hm, rfl⟩ := r2
                    split at eo
                    · rename_i xs hx
                      split at eo
                      · rename_i hfx
                        cases eo
                        obtain ⟨vs, h1, h2⟩ := hk2.cell k _ a hx hm
                        unfold Rep
                        exact ⟨a, vs, rfl, hide_of (b3 k a hm (.inl ⟨_, hx⟩)) h1, RepL.flat subt xs vs h2 hfx⟩
                      · cases eo
                    · rename_i c ns xs hx
                      split at eo
                      · rename_i hfx
                        cases eo
                        obtain ⟨C, dx, fs, h1, e2, e3, h4⟩ := hk2.cell k _ a hx hm
                        unfold Rep
                        exact ⟨a, C, dx, fs, rfl, hide_of (b3 k a hm (.inr ⟨_, _, _, hx⟩)) h1, e2, e3, RepL.flat subt xs _ h4 hfx⟩
                      · cases eo
                    · cases eo
                  · cases eo
            · exact p.elim
          | exc c hc =>
            rw [e] at p
            dsimp only at p
            intro m2 H2 cls ex hk2 hcls
            split at p
            · rename_i hp
              obtain ⟨b1, b2, _⟩ := x.back hk ex hk2 hp
              exact p m H2 cls b1 b2 hcls
            · exact p.elim
          | bad => rw [e] at p; exact p
        · exact p.elim
      · exact p.elim
  · exact p.elim
end
/-- how a call is made: callH, callP, callN or callT -/
def CallOk (c : Nat → FD → List D → M D) : Prop := c = callH ∨ c = callP ∨ c = callN ∨ c = callT
theorem call_sp {c : Nat → FD → List D → M D} (hc : CallOk c) {K : PySem.W.Frag} {mg : Str → Option Value} {Z m : List Addr} {H : Hp} {h : CH} {W : WX} {σ : L2.St} {Q : VK} {n : Nat} {F : FD} {ds : List D} {vs : List V} (hk : HeapOk K mg Z m h H) (r : RepL K mg m (hide (Z ++ m) H) ds vs)
    (p : Post K mg W σ Z m H (c n F ds h) Q) : spF K mg n F vs H Q (fun c d H' => W c d σ H') := by
  rcases hc with rfl | rfl | rfl | rfl
  · exact callH_sp hk r p
  · exact callP_sp hk r p
  · exact callN_sp hk r p
  · exact callT_sp hk r p
/-- denL with the slots kept -/
theorem denS {W : WX} {fs : AD} {r : List V → Hp → Prop} {op : List D → M D} {K : PySem.W.Frag} {mg : Str → Option Value} {σ : L2.St} {H : Hp} {Q : VK} (h : tD K mg W (eCall op fs) σ H Q)
    (hr : ∀ vs H1, (∃ Z m h ds, HeapOk K mg Z m h H1 ∧ RepL K mg m (hide (Z ++ m) H1) ds vs ∧ Post K mg W σ Z m H1 (op ds h) Q) → r vs H1) : tDL K mg W fs σ H (fun vs H1 => r vs H1) := by
  obtain ⟨Z, m, ρ, c, at', p⟩ := h
  exact ⟨Z, m, ρ, c, at', (PostG.bind p).imp fun v H' ⟨d, m', h', ex, hk, rp, _, q⟩ => hr _ _ ⟨Z, m', h', d, hk, rp, q⟩⟩
section
variable {X : Cx} {W : WX} {x : Str} {p pos : Pos} {e : Expr} {es : List Expr} {fs : AD} {f : Addr} {fd : FuncData} {ps : List Str} {k n : Nat} {F : FD} {c : Nat → FD → List D → M D}
theorem se_fn (hc : CallOk c) (tk : Takes X W) (G : FnOk X.prog X.w X.K X.mg X.base (L2.CX X.prog X.w) k f fd ps (spF X.K X.mg n F)) (hr : Room k X.A) (hg : Gl X x) (hm : X.mg x = some (.ref f)) (hk : PySem.W.keepIn X.K (.ref f) = true) (hb : Binds X.K fd ps [])
    (ha : PA X (e :: es) (tDL X.K X.mg W fs)) (hdb : (x == ("__debug__" : Str)) = false := by decide) (he : starEach (e :: es) X.env = (false, eval e X.env) :: starEach es X.env := by rfl) (hpl : (backTo pos (starEach es X.env)).any (·.1) = false := by rfl) :
    PE X (.Call (.Name x p) (e :: es) [] pos) (tD X.K X.mg W (eCall (c n F) fs)) :=
  pick fun σ H Q h => ⟨_, pe_callSD (E := fun σ => L2.WE W σ) G hr hg hm hk hb .nil (fun σ => passAt tk σ) ha hdb he hpl, denS h fun vs H1 ⟨Z, m, c', ds, hk', r, p⟩ => by
    rw [List.append_nil]
    exact call_sp hc hk' r p⟩
end
end FK

/-! part: FK9 -/
set_option Elab.async false
set_option linter.all false
set_option maxRecDepth 100000
set_option maxHeartbeats 4000000
/-! FK9: methods of lists and texts, what is left of the built-ins, the law's end. -/
namespace FK
open PySem PySem.Spec L2

section
variable {K : PySem.W.Frag} {mg : Str → Option Value} {Z m : List Addr} {H : Hp} {h : CH}
theorem nodup_at {α : Type} : ∀ {l : List α} {i j : Nat} {x : α}, l.Nodup → l[i]? = some x → l[j]? = some x → i = j := fun {l i j x} hN a b => L2.nd_ix hN a b
/-- a cell is changed -/
theorem Ext.setc (hk : HeapOk K mg Z m h H) {n : Nat} {a : Addr} {o : HO} (hm : m[n]? = some a) : Ext Z m H m (upd H a o) := by
  have ha : a ∈ Z ++ m := List.mem_append_right _ (List.mem_of_getElem? hm)
  refine ⟨fun _ _ e => e, fun b u e => ?_, fun b hb => upd_ne fun z => ?_⟩
  · obtain ⟨h1, h2⟩ := hide_some e
    exact hide_of h1 (by rw [upd_ne fun z => h1 (by rw [z]; exact ha)]; exact h2)
  · subst z
    exact hk.dj b (List.mem_of_getElem? hm) hb
theorem HeapOk.setc (hk : HeapOk K mg Z m h H) {n : Nat} {a : Addr} {o : HO} {c : Cell} (hm : m[n]? = some a) (hc : CellR K mg m (hide (Z ++ m) (upd H a o)) (upd H a o) a c) : HeapOk K mg Z m (h.set n c) (upd H a o) := by
  have ex := Ext.setc (o := o) hk hm
  refine ⟨by rw [List.length_set]; exact hk.len, hk.nd, hk.dj, fun b hb => by rw [ex.zs b hb]; exact hk.ex b hb, fun k c' b h1 h2 => ?_⟩
  by_cases e : k = n
  · subst e
    rw [hm] at h2
    cases h2
    have hlt : k < h.length := by rw [← hk.len]; exact (List.getElem?_eq_some_iff.mp hm).1
    rw [List.getElem?_set_self hlt] at h1
    cases h1
    exact hc
  · rw [List.getElem?_set_ne (Ne.symm e)] at h1
    have ne : b ≠ a := fun z => e (nodup_at hk.nd (by rw [← z]; exact h2) hm)
    exact CellR.mono ex.pre ex.st (upd_ne ne) (hk.cell k c' b h1 h2)
end

/-! ### methods -/
/-- of a text -/
def eMs (op : Str → List D → M D) (f : ED) (fs : AD) : ED := fun ρ => M.bind (f ρ) fun x h => match x with
  | .str a => M.bind (fs ρ) (op a) h
  | _ => .bad
/-- of a list (of a cell, as a rule) -/
def eMl (op : D → List D → M D) (f : ED) (fs : AD) : ED := fun ρ => M.bind (f ρ) fun x h => match vw h x with
  | .lst _ => M.bind (fs ρ) (op x) h
  | _ => .bad
section
variable (K : PySem.W.Frag) (mg : Str → Option Value) (W : WX)
def rMs (op : Str → List D → M D) : V → List V → Hp → VK → Prop := fun vx vs H Q => ∃ Z m h σ a ds, vx = .str a ∧ PyData.strOk a = true ∧ HeapOk K mg Z m h H ∧ RepL K mg m (hide (Z ++ m) H) ds vs ∧ Post K mg W σ Z m H (op a ds h) Q
end
section
variable {X : Cx} {W : WX} {o e : Expr} {es : List Expr} {f : ED} {fs : AD} {name : Str} {apos cpos : Pos} {id : String}
theorem se_ms {op : Str → List D → M D} (slot : Slot "str" name id) (hty : typeOf (.builtin id) = pure (.type "method_descriptor")) (hm : MtR X id (rMs X.K X.mg W op)) (ho : PE X o (tD X.K X.mg W f)) (ha : PA X (e :: es) (tDL X.K X.mg W fs))
    (hbase : attributeBase o name X.env (eval o X.env) = eval o X.env := by rfl)
    (hfew : ((backTo cpos (starEach (e :: es) X.env)).all (fun x => !x.1) && (backToKw cpos (keywordEach [] X.env)).all (fun x => x.1.isSome)
      && decide ((e :: es).length + ([] : List Keyword).length + (if ([] : List Keyword).isEmpty then 0 else 1) < 30)) = true := by rfl)
    (hline : (apos.endLine == cpos.line) = true := by rfl) (hs : starEach (e :: es) X.env = (false, eval e X.env) :: starEach es X.env := by rfl) (hplain : (backTo cpos (starEach es X.env)).any (·.1) = false := by rfl) :
    PE X (.Call (.Attribute o name apos) (e :: es) [] cpos) (tD X.K X.mg W (eMs op f fs)) :=
  pick fun σ H Q ⟨Z, m, ρ, c, at', p⟩ => ⟨_, pe_bm PySem.F.plainAttrs_str slot hty hm ho ha hbase hfew hline hs hplain, by
    refine ⟨Z, m, ρ, c, at', (PostG.bind p).imp fun v H1 ⟨x, m1, h1, ex1, hk1, r1, _, q1⟩ => ?_⟩
    cases x with
    | str a =>
      obtain ⟨rfl, k⟩ := rep_str r1
      refine ⟨rfl, Z, m1, ρ, h1, ⟨hk1, ex1.env at'.en⟩, (PostG.bind q1).imp fun vs H2 ⟨ds, m2, h2, ex2, hk2, r2, _, q2⟩ => ?_⟩
      exact ⟨Z, m2, h2, σ, a, ds, rfl, k, hk2, r2, q2⟩
    | _ => exact q1.elim⟩
theorem se_ml {op : D → List D → M D} (slot : Slot "list" name id) (hty : typeOf (.builtin id) = pure (.type "method_descriptor")) (hm : MtR X id (rDM X.K X.mg W op)) (ho : PE X o (tD X.K X.mg W f)) (ha : PA X (e :: es) (tDL X.K X.mg W fs))
    (hbase : attributeBase o name X.env (eval o X.env) = eval o X.env := by rfl)
    (hfew : ((backTo cpos (starEach (e :: es) X.env)).all (fun x => !x.1) && (backToKw cpos (keywordEach [] X.env)).all (fun x => x.1.isSome)
      && decide ((e :: es).length + ([] : List Keyword).length + (if ([] : List Keyword).isEmpty then 0 else 1) < 30)) = true := by rfl)
    (hline : (apos.endLine == cpos.line) = true := by rfl) (hs : starEach (e :: es) X.env = (false, eval e X.env) :: starEach es X.env := by rfl) (hplain : (backTo cpos (starEach es X.env)).any (·.1) = false := by rfl) :
    PE X (.Call (.Attribute o name apos) (e :: es) [] cpos) (tD X.K X.mg W (eMl op f fs)) :=
  pick fun σ H Q ⟨Z, m, ρ, c, at', p⟩ => ⟨_, pe_bm PySem.F.plainAttrs_list slot hty hm ho ha hbase hfew hline hs hplain, by
    refine ⟨Z, m, ρ, c, at', (PostG.bind p).imp fun v H1 ⟨x, m1, h1, ex1, hk1, r1, _, q1⟩ => ?_⟩
    cases hv : vw h1 x with
    | lst xs =>
      rw [hv] at q1
      obtain ⟨a, vs, rfl, g1, g2⟩ := hk1.rlst r1 hv
      refine ⟨.inl ⟨rfl, vs, SqL.of g1⟩, Z, m1, ρ, h1, ⟨hk1, ex1.env at'.en⟩, (PostG.bind q1).imp fun vs H2 ⟨ds, m2, h2, ex2, hk2, r2, _, q2⟩ => ?_⟩
      exact ⟨Z, m2, h2, σ, x, ds, hk2, ex2.rep r1, r2, q2⟩
    | _ => rw [hv] at q1; exact q1.elim⟩
def dApp (x : D) (ds : List D) : M D := fun h =>
  match x, ds with
  | .ref n, [d] => match h[n]? with
    | some (.lst xs) => if xs.length < sizeLine then .ok .non (h.set n (.lst (xs ++ [d]))) else .bad
    | _ => .bad
  | _, _ => .bad
theorem mt_dApp : MtR X "list.append" (rDM X.K X.mg W dApp) := by
  intro pins s σ H vx vs v us Q I rx rxs ⟨Z, m, h, σ', x, ds, hk, r1, r2, p⟩
  unfold dApp at p
  split at p
  · split at p
    · rename_i hc
      split at p
      · rename_i hz
        unfold Rep at r1
        obtain ⟨a, g1, rfl⟩ := r1
        obtain ⟨vs', g2, g3⟩ := hk.cell _ _ a hc g1
        obtain ⟨y, rfl, ry⟩ := repL_one r2
        refine mt_append pins s σ H _ _ v us Q I rx rxs ⟨a, vs', y, rfl, rfl, g2, by rw [g3.length]; exact hz, ?_⟩
        have ex := Ext.setc (o := .lst (vs' ++ [y])) hk g1
        exact p .non m _ ex (hk.setc g1 ⟨_, upd_same, ex.repL (g3.append (RepL.one ry))⟩) mk_non
      · exact p.elim
    · exact p.elim
  · exact p.elim
/-- xs.append(e) -/
theorem se_app (ho : PE X o (tD X.K X.mg W f)) (ha : PA X (e :: es) (tDL X.K X.mg W fs))
    (hbase : attributeBase o "append" X.env (eval o X.env) = eval o X.env := by rfl)
    (hfew : ((backTo cpos (starEach (e :: es) X.env)).all (fun x => !x.1) && (backToKw cpos (keywordEach [] X.env)).all (fun x => x.1.isSome)
      && decide ((e :: es).length + ([] : List Keyword).length + (if ([] : List Keyword).isEmpty then 0 else 1) < 30)) = true := by rfl)
    (hline : (apos.endLine == cpos.line) = true := by rfl) (hs : starEach (e :: es) X.env = (false, eval e X.env) :: starEach es X.env := by rfl) (hplain : (backTo cpos (starEach es X.env)).any (·.1) = false := by rfl) :
    PE X (.Call (.Attribute o "append" apos) (e :: es) [] cpos) (tD X.K X.mg W (eMl dApp f fs)) :=
  se_ml PySem.F.slot_list_append PySem.F.type_list_append mt_dApp ho ha hbase hfew hline hs hplain
def dRfind (a : Str) (ds : List D) : M D := fun h =>
  match ds with
  | [.str b] => .ok (.int (Txt.rfind a b)) h
  | _ => .bad
theorem mt_dRfind : MtR X "str.rfind" (rMs X.K X.mg W dRfind) := by
  intro pins s σ H vx vs v us Q I rx rxs ⟨Z, m, h, σ', a, ds, ea, ka, hk, r2, p⟩
  unfold dRfind at p
  split at p
  · obtain ⟨y, rfl, ry⟩ := repL_one r2
    obtain ⟨rfl, _⟩ := rep_str ry
    exact mt_rfind pins s σ H _ _ v us Q I rx rxs ⟨a, _, ea, rfl, put_int hk p⟩
  · exact p.elim
theorem se_rfind (ho : PE X o (tD X.K X.mg W f)) (ha : PA X (e :: es) (tDL X.K X.mg W fs))
    (hbase : attributeBase o "rfind" X.env (eval o X.env) = eval o X.env := by rfl)
    (hfew : ((backTo cpos (starEach (e :: es) X.env)).all (fun x => !x.1) && (backToKw cpos (keywordEach [] X.env)).all (fun x => x.1.isSome)
      && decide ((e :: es).length + ([] : List Keyword).length + (if ([] : List Keyword).isEmpty then 0 else 1) < 30)) = true := by rfl)
    (hline : (apos.endLine == cpos.line) = true := by rfl) (hs : starEach (e :: es) X.env = (false, eval e X.env) :: starEach es X.env := by rfl) (hplain : (backTo cpos (starEach es X.env)).any (·.1) = false := by rfl) :
    PE X (.Call (.Attribute o "rfind" apos) (e :: es) [] cpos) (tD X.K X.mg W (eMs dRfind f fs)) :=
  se_ms PySem.F.slot_str_rfind PySem.F.type_str_rfind mt_dRfind ho ha hbase hfew hline hs hplain
def dNeg (d : D) : M D := fun h =>
  match d with
  | .int i => .ok (.int (-i)) h
  | _ => .bad
theorem se_neg {a : Expr} {pos : Pos} (ha : PE X a (tD X.K X.mg W f)) : PE X (.UnaryOp .USub a pos) (tD X.K X.mg W (e1 dNeg f)) :=
  pick fun σ H Q h => ⟨_, pe_un un_neg ha, den1 (r := rU fun i => .int (-i)) h fun v H Q ⟨Z, m, c, σ', x, hk, r, p⟩ => by
    cases x with
    | int i => exact ⟨i, rep_int r, put_int hk p⟩
    | _ => exact p.elim⟩
end

/-! ### room, and the context of a body -/
theorem u60 {A : Around} {k : Nat} (r : Room k A) : A.units + 60 < cLine := by have := r.un; omega
theorem u61 {A : Around} {k : Nat} (r : Room k A) : A.units + 61 < cLine := by have := r.un; omega
theorem u0 {A : Around} {k : Nat} (r : Room k A) : A.units < cLine := r.units0

/-! ### a def where it stands -/
structure DefAt (K : PySem.W.Frag) (mg : Str → Option Value) (x : Str) (st : Stmt) (ps : List Str) (a : Addr) (fd : FuncData) : Prop where
  F : Fun K x x st a fd
  m : mg x = some (.ref a)
  b : Binds K fd ps []
theorem se_def {X : Cx} {W : WX} {x : Str} {p pos : Pos} {e : Expr} {es : List Expr} {fs : AD} {st : Stmt} {f : Addr} {fd : FuncData} {ps : List Str} {k j n : Nat} {F : FD} (c : Nat → FD → List D → M D) (hc : CallOk c) (tk : Takes X W) (d : DefAt X.K X.mg x st ps f fd)
    (G : FnOk X.prog X.w X.K X.mg X.base (L2.CX X.prog X.w) k f fd ps (spF X.K X.mg n F)) (hr : Room j X.A) (ha : PA X (e :: es) (tDL X.K X.mg W fs)) (hkj : k ≤ j := by decide) (hg : Gl X x := by rfl)
    (hdb : (x == ("__debug__" : Str)) = false := by decide) (he : starEach (e :: es) X.env = (false, eval e X.env) :: starEach es X.env := by rfl) (hpl : (backTo pos (starEach es X.env)).any (·.1) = false := by rfl) :
    PE X (.Call (.Name x p) (e :: es) [] pos) (tD X.K X.mg W (eCall (c n F) fs)) :=
  se_fn hc tk G (hr.mono hkj) hg d.m d.F.kp d.b ha hdb he hpl
abbrev scrD (ns : List Int) : D := .scr (ns.map D.int)
theorem repL_scr {K : PySem.W.Frag} {mg : Str → Option Value} {m : List Addr} {S : Hp} : ∀ ns : List Int, RepL K mg m S (ns.map D.int) (ns.map V.int)
  | [] => RepL.nil
  | n :: ns => RepL.cons (mk_int n) (repL_scr ns)
/-- the end of a law: its def gives True at each script -/
theorem law_walk {l : PySem.W.OpenLaw} {k : Nat} {q : Program} {loose : List Str} {XP : (Str → Option Value) → Heap → Prop} {YP : World → Heap → Prop} {d : DefRec} {K : Params → PySem.W.Frag} {x : Str} {F : FD} (hn : l.most = some 63) (hdf : d.params.defaults = []) (hr : Room k callerA)
    (hY : ∀ (w : World) (h : Heap), YP w h → (K w.params).In h)
    (hF : ∀ (w : World) (mg : Str → Option Value) (fa : Addr) (h : Heap), (K w.params).In h → h.Ns mainGlobals mg → mg d.name = some (.ref fa) →
      ∃ fd : FuncData, (∀ (s : Shared) (u : Value), BindsTo s fd ⟨[u], []⟩ [(x, u)]) ∧ ∀ base : Heap, (K w.params).In base → base.Ns mainGlobals mg → FnOk l.prog w (K w.params) mg base (L2.CX l.prog w) k fa fd [x] (spF (K w.params) mg 1 F))
    (hT : ∀ ns : List Int, ns.length ≤ 63 → ∃ h, F [scrD ns] [] = .ok (.bl true) h) :
    PySem.W.WalkO q loose XP YP l.row.toRowW d [] (fun f vs => PySem.call f vs) := by
  refine L2.walk_of (n := 63) (k := k) (x := x) (CX := fun w => L2.CX l.prog w) (sp := fun w vs H Q E => ∃ (a : Addr) (ns : List Int), vs = [.ref a] ∧ SqL (K w.params) H a (ns.map V.int) ∧ ns.length ≤ 63 ∧ ∀ H', Q (.bl true) H') hn (by decide) hdf hr hY (fun w mg fa h k1 k2 k3 => ?_) (fun w H a ns h1 h2 h3 => ⟨a, ns, rfl, h3, h1, fun _ => rfl⟩) (fun w H s e s' c => ?_)
  · obtain ⟨fd, b, G⟩ := hF w mg fa h k1 k2 k3
    refine ⟨fd, b, fun base c1 c2 => (G base c1 c2).imp fun vs H Q E ⟨a, ns, e, hs, hl, hq⟩ => ?_⟩
    subst e
    refine ⟨[], [], [], [scrD ns], HeapOk.empty (fun a h => absurd h (by simp)), RepL.one ?_, rfl, ?_⟩
    · unfold Rep
      refine ⟨a, ns.map V.int, rfl, Sub.sql (fun b o e => ?_) hs, repL_scr ns⟩
      exact hide_of (by simp) e
    · obtain ⟨h', e⟩ := hT ns hl
      rw [e]
      intro v m' H' _ _ r
      rw [rep_bl r]
      exact hq H'
  · obtain ⟨_, _, _, _, _, _, _, _, _, _, _, _, z⟩ := c
    exact z
end FK

/-! part: FKA -/
set_option Elab.async false
set_option linter.all false
set_option maxRecDepth 100000
set_option maxHeartbeats 4000000
/-! FKA: short words for what is built in. -/
namespace FK
open PySem PySem.Spec L2
section
variable {X : Cx} {W : WX} {p pos : Pos} {e : Expr} {es : List Expr} {fs : AD}
theorem sb_len (hm : X.mg "len" = none) (ha : PA X (e :: es) (tDL X.K X.mg W fs)) (hg : Gl X "len" := by rfl) (he : starEach (e :: es) X.env = (false, eval e X.env) :: starEach es X.env := by rfl) (hpl : (backTo pos (starEach es X.env)).any (·.1) = false := by rfl) :
    PE X (.Call (.Name "len" p) (e :: es) [] pos) (tD X.K X.mg W (eCall dLen fs)) := se_callB call_dLen hg hm PySem.boot_len ha (by decide) (by decide) he hpl
theorem sb_ord (hm : X.mg "ord" = none) (ha : PA X (e :: es) (tDL X.K X.mg W fs)) (hg : Gl X "ord" := by rfl) (he : starEach (e :: es) X.env = (false, eval e X.env) :: starEach es X.env := by rfl) (hpl : (backTo pos (starEach es X.env)).any (·.1) = false := by rfl) :
    PE X (.Call (.Name "ord" p) (e :: es) [] pos) (tD X.K X.mg W (eCall dOrd fs)) := se_callB call_dOrd hg hm PyProof.Rows.boot_ord ha (by decide) (by decide) he hpl
theorem sb_max2 (hc : X.calm = true) (hm : X.mg "max" = none) (ha : PA X (e :: es) (tDL X.K X.mg W fs)) (hg : Gl X "max" := by rfl) (he : starEach (e :: es) X.env = (false, eval e X.env) :: starEach es X.env := by rfl) (hpl : (backTo pos (starEach es X.env)).any (·.1) = false := by rfl) :
    PE X (.Call (.Name "max" p) (e :: es) [] pos) (tD X.K X.mg W (eCall dMax2 fs)) := se_callB (call_dMax2 hc) hg hm PyProof.Rows.boot_max ha (by decide) (by decide) he hpl
theorem sb_min2 (hc : X.calm = true) (hm : X.mg "min" = none) (ha : PA X (e :: es) (tDL X.K X.mg W fs)) (hg : Gl X "min" := by rfl) (he : starEach (e :: es) X.env = (false, eval e X.env) :: starEach es X.env := by rfl) (hpl : (backTo pos (starEach es X.env)).any (·.1) = false := by rfl) :
    PE X (.Call (.Name "min" p) (e :: es) [] pos) (tD X.K X.mg W (eCall dMin2 fs)) := se_callB (call_dMin2 hc) hg hm PyProof.Rows.boot_min ha (by decide) (by decide) he hpl
theorem sb_int (hm : X.mg "int" = none) (ha : PA X (e :: es) (tDL X.K X.mg W fs)) (hg : Gl X "int" := by rfl) (he : starEach (e :: es) X.env = (false, eval e X.env) :: starEach es X.env := by rfl) (hpl : (backTo pos (starEach es X.env)).any (·.1) = false := by rfl) :
    PE X (.Call (.Name "int" p) (e :: es) [] pos) (tD X.K X.mg W (eCall dInt fs)) := se_callTy call_dInt hg hm PyProof.Rows.boot_int ha (by decide) (by decide) he hpl
theorem sb_tuple (hm : X.mg "tuple" = none) (ha : PA X (e :: es) (tDL X.K X.mg W fs)) (hg : Gl X "tuple" := by rfl) (he : starEach (e :: es) X.env = (false, eval e X.env) :: starEach es X.env := by rfl) (hpl : (backTo pos (starEach es X.env)).any (·.1) = false := by rfl) :
    PE X (.Call (.Name "tuple" p) (e :: es) [] pos) (tD X.K X.mg W (eCall dTuple fs)) := se_callTy call_dTuple hg hm PyProof.Rows.boot_tuple ha (by decide) (by decide) he hpl
theorem sb_list (hm : X.mg "list" = none) (ha : PA X (e :: es) (tDL X.K X.mg W fs)) (hg : Gl X "list" := by rfl) (he : starEach (e :: es) X.env = (false, eval e X.env) :: starEach es X.env := by rfl) (hpl : (backTo pos (starEach es X.env)).any (·.1) = false := by rfl) :
    PE X (.Call (.Name "list" p) (e :: es) [] pos) (tD X.K X.mg W (eCall dList fs)) := se_callTy call_dList hg hm PyProof.Rows.boot_list ha (by decide) (by decide) he hpl
theorem sb_listC (hm : X.mg "list" = none) (ha : PA X (e :: es) (tDL X.K X.mg W fs)) (hg : Gl X "list" := by rfl) (he : starEach (e :: es) X.env = (false, eval e X.env) :: starEach es X.env := by rfl) (hpl : (backTo pos (starEach es X.env)).any (·.1) = false := by rfl) :
    PE X (.Call (.Name "list" p) (e :: es) [] pos) (tD X.K X.mg W (eCall dListC fs)) := se_callTy call_dListC hg hm PyProof.Rows.boot_list ha (by decide) (by decide) he hpl
end
end FK

/-! part: FKB -/
set_option Elab.async false
set_option linter.all false
set_option maxRecDepth 100000
set_option maxHeartbeats 4000000
/-! FKB: module constants; join, split; all, any; str of an int. -/
namespace FK
open PySem PySem.Spec L2
/-- a name of the module -/
theorem se_globI {X : Cx} {W : WX} {x : Str} {i : Int} {pos : Pos} (hm : ∃ t, X.mg x = some (.int i t)) (hg : Gl X x := by rfl) (hd : (x == ("__debug__" : Str)) = false := by decide) : PE X (.Name x pos) (tD X.K X.mg W (eC (.int i))) :=
  pick fun σ H Q h => ⟨_, pe_glob (v := .int i) hg hm.choose_spec ⟨hm.choose, rfl⟩ hd, by
    obtain ⟨Z, m, ρ, c, at', p⟩ := h
    exact put_int at'.hk p⟩
theorem se_globB {X : Cx} {W : WX} {x : Str} {i : Bool} {pos : Pos} (hm : X.mg x = some (.bool i)) (hg : Gl X x := by rfl) (hd : (x == ("__debug__" : Str)) = false := by decide) : PE X (.Name x pos) (tD X.K X.mg W (eC (.bl i))) :=
  pick fun σ H Q h => ⟨_, pe_glob (v := .bl i) hg hm rfl hd, by
    obtain ⟨Z, m, ρ, c, at', p⟩ := h
    exact put_bl at'.hk p⟩
def strsD : List D → Option (List Str)
  | [] => some []
  | .str x :: r => (strsD r).map (x :: ·)
  | _ => none
def blsD : List D → Option (List Bool)
  | [] => some []
  | .bl x :: r => (blsD r).map (x :: ·)
  | _ => none
section
variable {K : PySem.W.Frag} {mg : Str → Option Value} {m : List Addr} {S : Hp}
theorem repL_strs : ∀ {ds : List D} {vs : List V} {ys : List Str}, strsD ds = some ys → RepL K mg m S ds vs → vs = ys.map V.str ∧ ∀ y ∈ ys, PyData.strOk y = true
  | [], vs, ys, e, r => by cases e; rw [RepL.of_nil r]; exact ⟨rfl, fun y h => by cases h⟩
  | d :: ds, vs, ys, e, r => by
    obtain ⟨v, us, rfl, r1, r2⟩ := RepL.of_cons r
    cases d with
    | str x =>
      unfold strsD at e
      cases e' : strsD ds with
      | none => rw [e'] at e; cases e
      | some zs =>
        rw [e'] at e
        cases e
        obtain ⟨rfl, o⟩ := repL_strs e' r2
        obtain ⟨rfl, o1⟩ := rep_str r1
        exact ⟨rfl, fun y h => by
          rcases List.mem_cons.mp h with rfl | h
          · exact o1
          · exact o y h⟩
    | _ => cases e
theorem repL_bls : ∀ {ds : List D} {vs : List V} {ys : List Bool}, blsD ds = some ys → RepL K mg m S ds vs → vs = ys.map V.bl
  | [], vs, ys, e, r => by cases e; rw [RepL.of_nil r]; rfl
  | d :: ds, vs, ys, e, r => by
    obtain ⟨v, us, rfl, r1, r2⟩ := RepL.of_cons r
    cases d with
    | bl x =>
      unfold blsD at e
      cases e' : blsD ds with
      | none => rw [e'] at e; cases e
      | some zs =>
        rw [e'] at e
        cases e
        rw [repL_bls e' r2, rep_bl r1]
        rfl
    | _ => cases e
theorem repL_mkStrs : ∀ {ys : List Str}, (∀ y ∈ ys, PyData.strOk y = true) → RepL K mg m S (ys.map D.str) (ys.map V.str)
  | [], _ => RepL.nil
  | y :: ys, h => RepL.cons (mk_str (h y List.mem_cons_self)) (repL_mkStrs fun z hz => h z (List.mem_cons_of_mem _ hz))
end
theorem join_mem {a : Str} : ∀ {ys : List Str} {c : Nat}, c ∈ (Str.join a ys).cps.toList → c ∈ a.cps.toList ∨ ∃ y ∈ ys, c ∈ y.cps.toList
  | [], c, h => by
    exfalso
    have : (Str.join a []).cps.toList = [] := rfl
    rw [this] at h
    cases h
  | [y], c, h => .inr ⟨y, List.mem_cons_self, h⟩
  | y :: z :: ys, c, h => by
    have e : (Str.join a (y :: z :: ys)).cps.toList = y.cps.toList ++ a.cps.toList ++ (Str.join a (z :: ys)).cps.toList := by
      show ((y.cps ++ a.cps) ++ (Str.join a (z :: ys)).cps).toList = _
      rw [Array.toList_append, Array.toList_append]
    rw [e] at h
    rcases List.mem_append.mp h with h | h
    · rcases List.mem_append.mp h with h | h
      · exact .inr ⟨y, List.mem_cons_self, h⟩
      · exact .inl h
    · rcases join_mem h with h | ⟨w, hw, h⟩
      · exact .inl h
      · exact .inr ⟨w, List.mem_cons_of_mem _ hw, h⟩
theorem mem_join {a : Str} : ∀ {ys : List Str} {y : Str} {c : Nat}, y ∈ ys → c ∈ y.cps.toList → c ∈ (Str.join a ys).cps.toList
  | [y], _, c, h, hc => by
    rw [List.mem_singleton.mp h] at hc
    exact hc
  | y :: z :: ys, w, c, h, hc => by
    have e : (Str.join a (y :: z :: ys)).cps.toList = y.cps.toList ++ a.cps.toList ++ (Str.join a (z :: ys)).cps.toList := by
      show ((y.cps ++ a.cps) ++ (Str.join a (z :: ys)).cps).toList = _
      rw [Array.toList_append, Array.toList_append]
    rw [e]
    rcases List.mem_cons.mp h with rfl | h
    · exact List.mem_append_left _ (List.mem_append_left _ hc)
    · exact List.mem_append_right _ (mem_join h hc)
theorem ok_join {a : Str} {ys : List Str} (ha : PyData.strOk a = true) (hy : ∀ y ∈ ys, PyData.strOk y = true) : PyData.strOk (Txt.join a ys) = true := by
  rw [TL.join_eq]
  refine ok_iff.mpr fun c h => ?_
  rcases join_mem h with h | ⟨y, hm, h⟩
  · exact ok_iff.mp ha c h
  · exact ok_iff.mp (hy y hm) c h
theorem ok_split {a b : Str} (ha : PyData.strOk a = true) : ∀ y ∈ Txt.split a b, PyData.strOk y = true := fun y hy => by
  refine ok_iff.mpr fun c h => ok_iff.mp ha c ?_
  have := mem_join (a := b) hy h
  rwa [StrLaws.join_split] at this
def dJoin (a : Str) (ds : List D) : M D := fun h =>
  match ds with
  | [d] => match seq h d with
    | some xs => match strsD xs with
      | some ys => if (ys.map (·.length)).sum + ys.length * a.length ≤ 16777216 then .ok (.str (Txt.join a ys)) h else .bad
      | none => .bad
    | none => .bad
  | _ => .bad
def dSplit (a : Str) (ds : List D) : M D := fun h =>
  match ds with
  | [.str b] => if (b.length == 0) = false ∧ a.length + 2 ≤ sizeLine then .ok (.lst ((Txt.split a b).map D.str)) h else .bad
  | _ => .bad
def dAll (ds : List D) : M D := fun h =>
  match ds with
  | [d] => match lstOf h d with
    | some xs => match blsD xs with
      | some bs => .ok (.bl (bs.all id)) h
      | none => .bad
    | none => .bad
  | _ => .bad
def dAny (ds : List D) : M D := fun h =>
  match ds with
  | [d] => match lstOf h d with
    | some xs => match blsD xs with
      | some bs => .ok (.bl (bs.any id)) h
      | none => .bad
    | none => .bad
  | _ => .bad
section
variable {X : Cx} {W : WX}
theorem mt_dJoin : MtR X "str.join" (rMs X.K X.mg W dJoin) := by
  intro pins s σ H vx vs v us Q I rx rxs ⟨Z, m, h, σ', a, ds, ea, ka, hk, r2, p⟩
  unfold dJoin at p
  split at p
  · rename_i d
    obtain ⟨y, rfl, ry⟩ := repL_one r2
    split at p
    · rename_i xs ex
      obtain ⟨a', vs', rfl, g1, g2⟩ := hk.rseq ry ex
      split at p
      · rename_i ys ey
        obtain ⟨rfl, o⟩ := repL_strs ey g2
        split at p
        · rename_i hz
          exact mt_join pins s σ H _ _ v us Q I rx rxs ⟨a, a', ys, ea, rfl, g1, hz, put_str hk (ok_join ka o) p⟩
        · exact p.elim
      · exact p.elim
    · exact p.elim
  · exact p.elim
theorem mt_dSplit : MtR X "str.split" (rMs X.K X.mg W dSplit) := by
  intro pins s σ H vx vs v us Q I rx rxs ⟨Z, m, h, σ', a, ds, ea, ka, hk, r2, p⟩
  unfold dSplit at p
  split at p
  · rename_i b
    obtain ⟨y, rfl, ry⟩ := repL_one r2
    obtain ⟨rfl, _⟩ := rep_str ry
    split at p
    · rename_i hz
      exact mt_split pins s σ H _ _ v us Q I rx rxs ⟨a, b, ea, rfl, hz.1, hz.2, put_lst hk (repL_mkStrs (ok_split ka)) p⟩
    · exact p.elim
  · exact p.elim
theorem call_dAll (hc : X.calm = true) : CallR X (.builtin "all") (rDL X.K X.mg W dAll) := by
  intro pins s σ H vs us Q I r ⟨Z, m, h, σ', ds, hk, r2, p⟩
  unfold dAll at p
  split at p
  · rename_i d
    obtain ⟨y, rfl, ry⟩ := repL_one r2
    split at p
    · rename_i xs ex
      obtain ⟨a, vs', rfl, g1, g2⟩ := hk.rlstOf ry ex
      split at p
      · rename_i bs eb
        obtain rfl := repL_bls eb g2
        exact cr_all hc pins s σ H _ us Q I r ⟨a, bs, rfl, SqL.of g1, put_bl hk p⟩
      · exact p.elim
    · exact p.elim
  · exact p.elim
theorem call_dAny (hc : X.calm = true) : CallR X (.builtin "any") (rDL X.K X.mg W dAny) := by
  intro pins s σ H vs us Q I r ⟨Z, m, h, σ', ds, hk, r2, p⟩
  unfold dAny at p
  split at p
  · rename_i d
    obtain ⟨y, rfl, ry⟩ := repL_one r2
    split at p
    · rename_i xs ex
      obtain ⟨a, vs', rfl, g1, g2⟩ := hk.rlstOf ry ex
      split at p
      · rename_i bs eb
        obtain rfl := repL_bls eb g2
        exact cr_any hc pins s σ H _ us Q I r ⟨a, bs, rfl, SqL.of g1, put_bl hk p⟩
      · exact p.elim
    · exact p.elim
  · exact p.elim
theorem ok_ofString (s : String) : PyData.strOk (Str.ofString s) = true := by
  rw [Str.ofString_eq_toList]
  refine ok_iff.mpr fun c h => ?_
  simp only [List.mem_map] at h
  obtain ⟨d, _, rfl⟩ := h
  have := d.valid
  show d.val.toNat < 0x110000
  rcases this with h | h
  · have : d.val.toNat < 0xd800 := h
    omega
  · exact h.2
theorem call_dStr : CallR X (.type "str") (rDL X.K X.mg W dStr) := by
  intro pins s σ H vs us Q I r ⟨Z, m, h, σ', ds, hk, r2, p⟩
  unfold dStr at p
  split at p
  · rename_i i
    obtain ⟨y, rfl, ry⟩ := repL_one r2
    obtain rfl := rep_int ry
    split at p
    · rename_i hz
      exact call_str_int pins s σ H _ us Q I r ⟨i, rfl, hz, put_str hk (ok_ofString _) p⟩
    · exact p.elim
  · exact p.elim
end
end FK

/-! part: FKC -/
set_option Elab.async false
set_option linter.all false
set_option maxRecDepth 100000
set_option maxHeartbeats 4000000
/-! FKC: short words for more of what is built in. -/
namespace FK
open PySem PySem.Spec L2
section
variable {X : Cx} {W : WX} {p pos apos cpos : Pos} {e o : Expr} {es : List Expr} {fs : AD} {f : ED}
theorem sb_all (hc : X.calm = true) (hm : X.mg "all" = none) (ha : PA X (e :: es) (tDL X.K X.mg W fs)) (hg : Gl X "all" := by rfl) (he : starEach (e :: es) X.env = (false, eval e X.env) :: starEach es X.env := by rfl) (hpl : (backTo pos (starEach es X.env)).any (·.1) = false := by rfl) :
    PE X (.Call (.Name "all" p) (e :: es) [] pos) (tD X.K X.mg W (eCall dAll fs)) := se_callB (call_dAll hc) hg hm PyProof.Rows.boot_all ha (by decide) (by decide) he hpl
theorem sb_any (hc : X.calm = true) (hm : X.mg "any" = none) (ha : PA X (e :: es) (tDL X.K X.mg W fs)) (hg : Gl X "any" := by rfl) (he : starEach (e :: es) X.env = (false, eval e X.env) :: starEach es X.env := by rfl) (hpl : (backTo pos (starEach es X.env)).any (·.1) = false := by rfl) :
    PE X (.Call (.Name "any" p) (e :: es) [] pos) (tD X.K X.mg W (eCall dAny fs)) := se_callB (call_dAny hc) hg hm PyProof.Rows.boot_any ha (by decide) (by decide) he hpl
theorem sb_str (hm : X.mg "str" = none) (ha : PA X (e :: es) (tDL X.K X.mg W fs)) (hg : Gl X "str" := by rfl) (he : starEach (e :: es) X.env = (false, eval e X.env) :: starEach es X.env := by rfl) (hpl : (backTo pos (starEach es X.env)).any (·.1) = false := by rfl) :
    PE X (.Call (.Name "str" p) (e :: es) [] pos) (tD X.K X.mg W (eCall dStr fs)) := se_callTy (call_dStr) hg hm PyProof.Rows.boot_str ha (by decide) (by decide) he hpl
theorem se_join (ho : PE X o (tD X.K X.mg W f)) (ha : PA X (e :: es) (tDL X.K X.mg W fs))
    (hbase : attributeBase o "join" X.env (eval o X.env) = eval o X.env := by rfl)
    (hfew : ((backTo cpos (starEach (e :: es) X.env)).all (fun x => !x.1) && (backToKw cpos (keywordEach [] X.env)).all (fun x => x.1.isSome)
      && decide ((e :: es).length + ([] : List Keyword).length + (if ([] : List Keyword).isEmpty then 0 else 1) < 30)) = true := by rfl)
    (hline : (apos.endLine == cpos.line) = true := by rfl) (hs : starEach (e :: es) X.env = (false, eval e X.env) :: starEach es X.env := by rfl) (hplain : (backTo cpos (starEach es X.env)).any (·.1) = false := by rfl) :
    PE X (.Call (.Attribute o "join" apos) (e :: es) [] cpos) (tD X.K X.mg W (eMs dJoin f fs)) :=
  se_ms PySem.F.slot_str_join PySem.F.type_str_join mt_dJoin ho ha hbase hfew hline hs hplain
theorem se_split (ho : PE X o (tD X.K X.mg W f)) (ha : PA X (e :: es) (tDL X.K X.mg W fs))
    (hbase : attributeBase o "split" X.env (eval o X.env) = eval o X.env := by rfl)
    (hfew : ((backTo cpos (starEach (e :: es) X.env)).all (fun x => !x.1) && (backToKw cpos (keywordEach [] X.env)).all (fun x => x.1.isSome)
      && decide ((e :: es).length + ([] : List Keyword).length + (if ([] : List Keyword).isEmpty then 0 else 1) < 30)) = true := by rfl)
    (hline : (apos.endLine == cpos.line) = true := by rfl) (hs : starEach (e :: es) X.env = (false, eval e X.env) :: starEach es X.env := by rfl) (hplain : (backTo cpos (starEach es X.env)).any (·.1) = false := by rfl) :
    PE X (.Call (.Attribute o "split" apos) (e :: es) [] cpos) (tD X.K X.mg W (eMs dSplit f fs)) :=
  se_ms PySem.F.slot_str_split PySem.F.type_str_split mt_dSplit ho ha hbase hfew hline hs hplain
end
end FK

/-! part: FKD -/
set_option Elab.async false
set_option linter.all false
set_option maxRecDepth 100000
set_option maxHeartbeats 4000000
/-! FKD: isinstance. -/
namespace FK
open PySem PySem.Spec L2
inductive Ty where
  | non | bool | int | str | tup | lst
def Ty.name : Ty → String
  | .non => "NoneType"
  | .bool => "bool"
  | .int => "int"
  | .str => "str"
  | .tup => "tuple"
  | .lst => "list"
def Ty.is : Ty → Ty → Bool
  | .non, .non => true
  | .bool, .bool => true
  | .bool, .int => true
  | .int, .int => true
  | .str, .str => true
  | .tup, .tup => true
  | .lst, .lst => true
  | _, _ => false
theorem Ty.kit (a b : Ty) : kitB a.name b.name = some (a.is b) := by cases a <;> cases b <;> decide +kernel
def tyD (h : CH) : D → Option Ty
  | .non => some .non
  | .bl _ => some .bool
  | .int _ => some .int
  | .str _ => some .str
  | .tup _ => some .tup
  | .lst _ => some .lst
  | .scr _ => some .lst
  | .ref n => match h[n]? with
    | some (.lst _) => some .lst
    | _ => none
  | .obj _ _ _ => none
def dIsi (T : Ty) (x : D) : M D := fun h => match tyD h x with
  | some a => .ok (.bl (a.is T)) h
  | none => .bad
theorem tyX_seqL {K : PySem.W.Frag} {H : Hp} {a : Addr} {vs : List V} (g : SqL K H a vs) : TyX K H (.ref a) (.type "list") := by
  rcases g with (g | ⟨o, g⟩) | ⟨o, its, n, g1, g2, _⟩
  · exact .base (.lst g)
  · exact .base (.frz g)
  · exact .kList g1 g2
theorem tyX_seqT {K : PySem.W.Frag} {H : Hp} {a : Addr} {vs : List V} (g : SqT K H a vs) : TyX K H (.ref a) (.type "tuple") := by
  rcases g with (g | ⟨o, g⟩) | ⟨o, its, n, g1, g2, _⟩
  · exact .base (.tup g)
  · exact .fTuple g
  · exact .kTuple g1 g2
section
variable {K : PySem.W.Frag} {mg : Str → Option Value} {Z m : List Addr} {H : Hp} {h : CH}
theorem HeapOk.ty (hk : HeapOk K mg Z m h H) {d : D} {v : V} (r : Rep K mg m (hide (Z ++ m) H) d v) {a : Ty} (e : tyD h d = some a) : TyX K H v (.type a.name) := by
  cases d with
  | non => cases e; obtain rfl := rep_non r; exact .base .non
  | bl b => cases e; obtain rfl := rep_bl r; exact .base (.bl b)
  | int b => cases e; obtain rfl := rep_int r; exact .base (.int b)
  | str b => cases e; obtain ⟨rfl, _⟩ := rep_str r; exact .base (.str b)
  | tup xs =>
    cases e
    obtain ⟨p, vs, rfl, g, _⟩ := HeapOk.rtup (h := h) r rfl
    exact tyX_seqT g
  | lst xs =>
    cases e
    obtain ⟨p, vs, rfl, g, _⟩ := hk.rlst r rfl
    exact tyX_seqL (SqL.of g)
  | scr xs =>
    cases e
    obtain ⟨p, vs, rfl, g, _⟩ := HeapOk.rscr (h := h) r rfl
    exact tyX_seqL g
  | obj c ns xs => cases e
  | ref n =>
    unfold tyD at e
    dsimp only at e
    cases ec : h[n]? with
    | none => rw [ec] at e; cases e
    | some c =>
      rw [ec] at e
      cases c with
      | ins c ns xs => cases e
      | tab _ => cases e
      | dS _ _ => cases e
      | dM _ _ => cases e
      | lst xs =>
        cases e
        obtain ⟨p, vs, rfl, g, _⟩ := hk.rlst (d := .ref n) (xs := xs) r (by unfold vw; dsimp only; rw [ec])
        exact tyX_seqL (SqL.of g)
end
section
variable {X : Cx} {W : WX} {p p2 pos : Pos} {e : Expr} {f : ED}
theorem se_isi (T : Ty) (hm : X.mg "isinstance" = none) (hmT : X.mg (Str.ofString T.name) = none) (hv : bootBuiltins (Str.ofString T.name) = some (.type T.name)) (he : PE X e (tD X.K X.mg W f)) (hg : Gl X "isinstance" := by rfl) (hgT : Gl X (Str.ofString T.name) := by rfl)
    (hn : Str.ofString T.name ≠ "__name__" := by decide) (hd : (Str.ofString T.name == ("__debug__" : Str)) = false := by decide)
    (hs : starEach (e :: [.Name (Str.ofString T.name) p2]) X.env = (false, eval e X.env) :: starEach [.Name (Str.ofString T.name) p2] X.env := by rfl)
    (hs2 : starEach [.Name (Str.ofString T.name) p2] X.env = (false, eval (.Name (Str.ofString T.name) p2) X.env) :: starEach [] X.env := by rfl)
    (hpl : (backTo pos (starEach [.Name (Str.ofString T.name) p2] X.env)).any (·.1) = false := by rfl) :
    PE X (.Call (.Name "isinstance" p) [e, .Name (Str.ofString T.name) p2] [] pos) (tD X.K X.mg W (e1 (dIsi T) f)) :=
  pick fun σ H Q h => ⟨_, pe_callB call_isi hg hm PyProof.Rows.boot_isinstance (pa_cons he (pa_cons (pe_bltn (v := .ty T.name) hgT hmT hv rfl hn hd) pa_nil hs2) hs) (by decide) (by decide) hs hpl, den1 (r := fun v H Q => rIsi X.K [v, .ty T.name] H Q) h fun v H Q ⟨Z, m, c, σ', x, hk, r, p⟩ => by
    unfold dIsi at p
    split at p
    · rename_i a ea
      exact ⟨v, .ty T.name, _, _, a.is T, rfl, .ty _, hk.ty r ea, kit_ty (Ty.kit a T), put_bl hk p⟩
    · exact p.elim⟩
end
end FK

/-! part: FKO -/
set_option Elab.async false
set_option linter.all false
set_option maxRecDepth 100000
set_option maxHeartbeats 4000000
/-! FKO: instances: attributes read and stored, making. -/
namespace FK
open PySem PySem.Spec L2
def putNs (f : Str) : List Str → List Str
  | [] => [f]
  | g :: r => if g = f then g :: r else g :: putNs f r
def putXs (f : Str) (d : D) : List Str → List D → List D
  | [], _ => [d]
  | g :: r, x :: xs => if g = f then d :: xs else x :: putXs f d r xs
  | _ :: _, [] => [d]
/-- the attribute f of what has the names ns -/
def lookD (f : Str) : List Str → List D → Option D
  | n :: ns, x :: xs => if n = f then some x else lookD f ns xs
  | _, _ => none
section
variable {K : PySem.W.Frag} {mg : Str → Option Value} {m : List Addr} {S : Hp}
theorem rep_look {f : Str} {d : D} : ∀ {fs : List (Str × V)} {xs : List D}, RepL K mg m S xs (fs.map (·.2)) → lookD f (fs.map (·.1)) xs = some d → ∃ v, fs.lookup f = some v ∧ Rep K mg m S d v
  | [], xs, r, e => by cases xs <;> cases e
  | (g, v) :: fs, [], r, e => by cases e
  | (g, v) :: fs, x :: xs, r, e => by
    obtain ⟨v', t, e1, r1, r2⟩ := RepL.of_cons r
    cases e1
    have e : (if g = f then some x else lookD f (fs.map (·.1)) xs) = some d := e
    by_cases h : g = f
    · rw [if_pos h] at e
      cases e
      subst h
      exact ⟨v, by simp [List.lookup], r1⟩
    · rw [if_neg h] at e
      obtain ⟨u, e2, r3⟩ := rep_look r2 e
      refine ⟨u, ?_, r3⟩
      have hb : (f == g) = false := by
        rw [beq_eq_false_iff_ne]
        exact fun z => h z.symm
      simp only [List.lookup, hb]
      exact e2
theorem rep_put {f : Str} {d : D} {v : V} (q : Rep K mg m S d v) : ∀ {fs : List (Str × V)} {xs : List D}, RepL K mg m S xs (fs.map (·.2)) → (putF f v fs).map (·.1) = putNs f (fs.map (·.1)) ∧ RepL K mg m S (putXs f d (fs.map (·.1)) xs) ((putF f v fs).map (·.2))
  | [], xs, r => ⟨rfl, RepL.one q⟩
  | (g, u) :: fs, [], r => by
    have := r.length
    simp at this
  | (g, u) :: fs, x :: xs, r => by
    obtain ⟨v', t, e1, r1, r2⟩ := RepL.of_cons r
    cases e1
    obtain ⟨h1, h2⟩ := rep_put q r2
    show ((if g = f then (g, v) :: fs else (g, u) :: putF f v fs).map (·.1)) = (if g = f then g :: fs.map (·.1) else g :: putNs f (fs.map (·.1))) ∧ RepL K mg m S (if g = f then d :: xs else x :: putXs f d (fs.map (·.1)) xs) ((if g = f then (g, v) :: fs else (g, u) :: putF f v fs).map (·.2))
    by_cases h : g = f
    · rw [if_pos h, if_pos h, if_pos h]
      exact ⟨rfl, RepL.cons q r2⟩
    · rw [if_neg h, if_neg h, if_neg h]
      exact ⟨by rw [List.map_cons, h1], RepL.cons r1 h2⟩
end
/-- what an attribute's use asks of a class -/
def AttrOk (K : PySem.W.Frag) (mg : Str → Option Value) (c f : Str) : Prop := ∀ C, mg c = some (.ref C) → Cls K C ∧ NoAttr K C f
def dFld (cs : List Str) (f : Str) (x : D) : M D := fun h =>
  match x with
  | .ref n => match h[n]? with
    | some (.ins c ns xs) => if c ∈ cs then (match lookD f ns xs with
      | some d => .ok d h
      | none => .bad) else .bad
    | _ => .bad
  | .obj c ns xs => if c ∈ cs then (match lookD f ns xs with
    | some d => .ok d h
    | none => .bad) else .bad
  | _ => .bad
def sFldS (cs : List Str) (f : Str) (eo ev : ED) : SD := sE ev fun d => sE eo fun x ρ h =>
  match x with
  | .ref n => match h[n]? with
    | some (.ins c ns xs) => if c ∈ cs ∧ ns.length < 1000 then .ok .nx ρ (h.set n (.ins c (putNs f ns) (putXs f d ns xs))) else .bad
    | _ => .bad
  | _ => .bad
section
variable {X : Cx} {W : WX} {e o : Expr} {f g : ED} {cs : List Str} {a : Str} {pos p2 : Pos}
theorem se_fld (ht : ∀ c ∈ cs, AttrOk X.K X.mg c a) (he : PE X e (tD X.K X.mg W f)) (hb : attributeBase e a X.env (eval e X.env) = eval e X.env := by rfl) : PE X (.Attribute e a pos) (tD X.K X.mg W (e1 (dFld cs a) f)) :=
  pick fun σ H Q h => ⟨_, pe_fld he hb, den1 (r := fun x H1 Q => ∃ p C dx fs v, x = .ref p ∧ H1 p = some (.ins C dx fs) ∧ Cls X.K C ∧ NoAttr X.K C a ∧ fs.lookup a = some v ∧ Q v H1) h fun v H Q ⟨Z, m, c, σ', x, hk, r, p⟩ => by
    unfold dFld at p
    split at p
    · rename_i n
      split at p
      · rename_i cl ns xs ec
        split at p
        · rename_i hc
          split at p
          · rename_i d ed
            unfold Rep at r
            obtain ⟨q, g1, rfl⟩ := r
            obtain ⟨C, dx, fs, g2, g3, rfl, g5⟩ := hk.cell _ _ q ec g1
            obtain ⟨u, e2, r2⟩ := rep_look g5 ed
            obtain ⟨k1, k2⟩ := ht cl hc C g3
            exact ⟨q, C, dx, fs, u, rfl, g2, k1, k2, e2, put_old hk r2 p⟩
          · exact p.elim
        · exact p.elim
      · exact p.elim
    · rename_i cl ns xs
      split at p
      · rename_i hc
        split at p
        · rename_i d ed
          unfold Rep at r
          obtain ⟨q, C, dx, fs, rfl, g2, g3, rfl, g5⟩ := r
          obtain ⟨u, e2, r2⟩ := rep_look g5 ed
          obtain ⟨k1, k2⟩ := ht cl hc C g3
          exact ⟨q, C, dx, fs, u, rfl, (hide_some g2).2, k1, k2, e2, put_old hk r2 p⟩
        · exact p.elim
      · exact p.elim
    · exact p.elim⟩
theorem ss_fld (ht : ∀ c ∈ cs, AttrOk X.K X.mg c a) (he : PE X o (tD X.K X.mg W f)) (hv : PE X e (tD X.K X.mg W g)) (hs : swapsWith e (some (.Attribute o a p2)) pos.line X.env = pure false := by rfl) :
    PS X (.Assign [.Attribute o a p2] e pos) (tDS X.K X.mg W (sFldS cs a f g)) :=
  pickS fun σ H E ⟨Z, m, ρ, h, at', p⟩ => ⟨_, ps_fld he hv hs, Z, m, ρ, h, at', (PostS.ofE at' p).imp fun y H1 ⟨d, m1, h1, ex1, at1, r1, q1⟩ => ⟨Z, m1, ρ, h1, at1, (PostS.ofE at1 q1).imp fun x H2 ⟨dx', m2, h2, ex2, at2, r2, q2⟩ => by
    split at q2
    · rename_i n
      split at q2
      · rename_i cl ns xs ec
        split at q2
        · rename_i hc
          unfold Rep at r2
          obtain ⟨q, g1, rfl⟩ := r2
          obtain ⟨C, dx, fs, g2, g3, rfl, g5⟩ := at2.hk.cell _ _ q ec g1
          obtain ⟨k1, k2⟩ := ht cl hc.1 C g3
          refine ⟨q, C, dx, fs, rfl, g2, k1, k2, by simpa using hc.2, ?_⟩
          have ex := Ext.setc (o := .ins C dx (putF a y fs)) at2.hk g1
          obtain ⟨j1, j2⟩ := rep_put (f := a) (ex.rep (ex2.rep r1)) (ex.repL g5)
          have hk3 := at2.hk.setc (c := .ins cl (putNs a (fs.map (·.1))) (putXs a d (fs.map (·.1)) xs)) g1 ⟨C, dx, _, upd_same, g3, j1, j2⟩
          exact q2 σ m2 _ ex hk3 (ex.env at2.en)
        · exact q2.elim
      · exact q2.elim
    · exact q2.elim⟩⟩
end
/-! ### making -/
/-- C(..): a new cell, then __init__ on it; G puts self, the arguments and the defaults in order -/
def mkO (c : Str) (G : D → List D → List D) (F : FD) (ds : List D) : M D := fun h =>
  match F (G (.ref h.length) ds) (h ++ [.ins c [] []]) with
  | .ok .non h' => .ok (.ref h.length) h'
  | _ => .bad
/-- behind the positional ones the keywords' values -/
def aApp (fs gs : AD) : AD := fun ρ => M.bind (fs ρ) fun ds => M.bind (gs ρ) fun es => M.pure (ds ++ es)
def XF : XK := fun _ _ _ => False
theorem passF {X : Cx} : Passes (L2.CX X.prog X.w) X XF := fun _ _ _ _ _ _ _ c => by
  obtain ⟨_, _, _, _, _, _, _, _, _, _, _, _, z⟩ := c
  exact z.elim
section
variable {K : PySem.W.Frag} {mg : Str → Option Value} {Z m : List Addr} {H : Hp} {h : CH} {W : WX} {σ : L2.St} {Q : VK} {n : Nat} {F : FD} {ds : List D} {vs zs : List V} {c : Str} {C : Addr} {G : D → List D → List D}
theorem mk_sp (hk : HeapOk K mg Z m h H) (hC : mg c = some (.ref C)) {x dx : Addr} (hx : H x = none) (hdx : H dx = none) (ne : dx ≠ x) {us : List V}
    (hn : (G (.ref h.length) ds).length = n) (r : ∀ m' S', (∀ (i : Nat) a, m[i]? = some a → m'[i]? = some a) → Sub (hide (Z ++ m) H) S' → m'[h.length]? = some x → RepL K mg m' S' (G (.ref h.length) ds) us)
    (p : Post K mg W σ Z m H (mkO c G F ds h) Q) : spF K mg n F us (upd (upd H dx (.own x)) x (.ins C dx [])) (fun v H3 => v = .non ∧ Q (.ref x) H3) XF := by
  have hk1 := hk.laid (o := .own x) hdx
  have ex1 := Ext.laid (o := .own x) hk hdx
  have hx1 : upd H dx (.own x) x = none := by rw [upd_ne (Ne.symm ne)]; exact hx
  have ex2 := Ext.cell (o := .ins C dx []) hk1 hx1
  have hk2 := hk1.new (o := .ins C dx []) (c := .ins c [] []) hx1 ⟨C, dx, [], upd_same, hC, rfl, RepL.nil⟩
  have ex := ex1.trans ex2
  have hml : (m ++ [x])[h.length]? = some x := by
    rw [← hk.len]
    simp
  refine ⟨Z, m ++ [x], h ++ [.ins c [] []], G (.ref h.length) ds, hk2, r _ _ ex.pre ex.st hml, hn, ?_⟩
  unfold mkO at p
  cases e : F (G (.ref h.length) ds) (h ++ [.ins c [] []]) with
  | ok d h' =>
    rw [e] at p
    cases d with
    | non =>
      intro v m3 H3 ex3 hk3 r3
      have := rep_non r3
      subst this
      exact ⟨rfl, p (.ref x) m3 H3 (ex.trans ex3) hk3 (by unfold Rep; exact ⟨x, ex3.pre _ _ hml, rfl⟩)⟩
    | _ => exact p.elim
  | exc c' h' => rw [e] at p; exact p.elim
  | bad => rw [e] at p; exact p.elim
end
/-- the values in order: self, what is written, the defaults -/
structure Arr (K : PySem.W.Frag) (mg : Str → Option Value) (G : D → List D → List D) (gV : List V → List V → List V) (j l n : Nat) : Prop where
  rep : ∀ (m : List Addr) (S : Hp) (self : D) (v : V) (ds es : List D) (vs zs : List V), ds.length = j → es.length = l → Rep K mg m S self v → RepL K mg m S ds vs → RepL K mg m S es zs → RepL K mg m S (G self (ds ++ es)) (gV (v :: vs) zs)
  len : ∀ (self : D) (ds : List D), ds.length = j + l → (G self ds).length = n
section
variable {X : Cx} {W : WX} {x : Str} {p pos : Pos} {e : Expr} {es : List Expr} {kws : List Keyword} {fs gs : AD} {f C : Addr} {fd : FuncData} {ps ks : List Str} {k n j : Nat} {F : FD} {G : D → List D → List D} {g : List Value → List Value → List Value} {gV : List V → List V → List V}
theorem sk_nil : PK X [] (tDL X.K X.mg W aNil) := ⟨fun pos pins s σ H Q I ⟨Z, m, ρ, c, at', p⟩ => pk_nil.run pos pins s σ H Q I (p [] m H Ext.refl at'.hk RepL.nil)⟩
theorem sk_cons {nm : Option Str} {kpos : Pos} {f : ED} (ha : PE X e (tD X.K X.mg W f)) (hr : PK X kws (tDL X.K X.mg W fs)) : PK X (⟨nm, e, kpos⟩ :: kws) (tDL X.K X.mg W (aCons f fs)) :=
  ⟨fun pos pins s σ H Q I ⟨Z, m, ρ, c, at', p⟩ => (pk_cons ha hr).run pos pins s σ H Q I (by
    refine ⟨Z, m, ρ, c, at', (PostG.bind p).imp fun v H1 ⟨d, m1, h1, ex, hk, rp, _, q⟩ => ?_⟩
    refine ⟨Z, m1, ρ, h1, ⟨hk, ex.env at'.en⟩, (PostG.bind q).imp fun u H2 ⟨ds, m2, h2, ex2, hk2, rp2, _, q2⟩ => ?_⟩
    exact q2 _ m2 H2 Ext.refl hk2 (RepL.cons (ex2.rep rp) rp2))⟩
/-- C(k = v, ..) -/
theorem se_mkK0 (M : Mk X.K C f) (Fo : FnOk X.prog X.w X.K X.mg X.base (L2.CX X.prog X.w) k f fd ps (spF X.K X.mg n F)) (hr : Room (k + 1) X.A) (hm : X.mg x = some (.ref C)) (hb : KBn X.K fd ps 1 ks g gV) (A : Arr X.K X.mg G gV 0 ks.length n) (hkw : PK X kws (tDL X.K X.mg W fs)) (hg : Gl X x := by rfl)
    (hall : (backToKw pos (keywordEach kws X.env)).all (·.1.isSome) = true := by rfl) (hks : (backToKw pos (keywordEach kws X.env)).filterMap (·.1) = ks := by rfl) (hlen : ∀ ρ h ds h', fs ρ h = .ok ds h' → ds.length = ks.length)
    (hdb : (x == ("__debug__" : Str)) = false := by decide) (hpl : ((backTo pos (starEach [] X.env)).any (·.1) || (backToKw pos (keywordEach kws X.env)).any (·.1.isNone)) = false := by rfl) :
    PE X (.Call (.Name x p) [] kws pos) (tD X.K X.mg W (eCall (mkO x G F) fs)) :=
  pick fun σ H Q h => ⟨_, pe_makeK0 M Fo hr hg hm hb passF hkw hall hks hdb hpl, by
    obtain ⟨Z, m, ρ, c, at', p⟩ := h
    show tDL X.K X.mg W fs σ H _
    refine ⟨Z, m, ρ, c, at', (PostG.bind p).imp fun zs H2 ⟨ds, m2, h2, ex2, hk2, rp2, e2, q2⟩ => ?_⟩
    have hl := hlen _ _ _ _ e2
    refine ⟨rfl, by rw [rp2.length]; exact hl, fun a dx ha hdx ne => ?_⟩
    refine mk_sp hk2 hm ha hdx ne (A.len _ _ (by omega)) (fun m' S' hm' hs' hx' => ?_) q2
    exact A.rep m' S' (.ref h2.length) (.ref a) [] ds [] zs rfl hl (by unfold Rep; exact ⟨a, hx', rfl⟩) RepL.nil (RepL.mono hm' hs' _ _ rp2)⟩
/-- C(e, .., k = v, ..) -/
theorem se_mkK (MK : Mk X.K C f) (Fo : FnOk X.prog X.w X.K X.mg X.base (L2.CX X.prog X.w) k f fd ps (spF X.K X.mg n F)) (hr : Room (k + 1) X.A) (hm : X.mg x = some (.ref C)) (hb : KBn X.K fd ps (j + 1) ks g gV) (A : Arr X.K X.mg G gV j ks.length n)
    (ha : PA X (e :: es) (tDL X.K X.mg W fs)) (hkw : PK X kws (tDL X.K X.mg W gs)) (hg : Gl X x := by rfl)
    (hall : (backToKw pos (keywordEach kws X.env)).all (·.1.isSome) = true := by rfl) (hks : (backToKw pos (keywordEach kws X.env)).filterMap (·.1) = ks := by rfl) (hlen : ∀ ρ h ds h', fs ρ h = .ok ds h' → ds.length = j) (hlen2 : ∀ ρ h ds h', gs ρ h = .ok ds h' → ds.length = ks.length)
    (hdb : (x == ("__debug__" : Str)) = false := by decide) (he : starEach (e :: es) X.env = (false, eval e X.env) :: starEach es X.env := by rfl)
    (hpl : ((backTo pos (starEach (e :: es) X.env)).any (·.1) || (backToKw pos (keywordEach kws X.env)).any (·.1.isNone)) = false := by rfl) :
    PE X (.Call (.Name x p) (e :: es) kws pos) (tD X.K X.mg W (eCall (mkO x G F) (aApp fs gs))) :=
  pick fun σ H Q h => ⟨_, pe_makeK MK Fo hr hg hm hb passF ha hkw hall hks hdb he hpl, by
    obtain ⟨Z, m, ρ, c, at', p⟩ := h
    show tDL X.K X.mg W fs σ H _
    have p' : Post X.K X.mg W σ Z m H (M.bind (fs ρ) (fun ds => M.bind (gs ρ) fun es => mkO x G F (ds ++ es)) c) Q := by
      have e : M.bind (fs ρ) (fun ds => M.bind (gs ρ) fun es => mkO x G F (ds ++ es)) c = eCall (mkO x G F) (aApp fs gs) ρ c := by
        unfold eCall aApp M.bind
        cases fs ρ c with
        | ok ds h1 =>
          dsimp only
          cases gs ρ h1 <;> rfl
        | _ => rfl
      rw [e]
      exact p
    refine ⟨Z, m, ρ, c, at', (PostG.bind p').imp fun vs H1 ⟨ds, m1, h1, ex1, hk1, rp1, e1, q1⟩ => ?_⟩
    refine ⟨Z, m1, ρ, h1, ⟨hk1, ex1.env at'.en⟩, (PostG.bind q1).imp fun zs H2 ⟨es', m2, h2, ex2, hk2, rp2, e2, q2⟩ => ?_⟩
    have hl1 := hlen _ _ _ _ e1
    have hl2 := hlen2 _ _ _ _ e2
    refine ⟨by rw [rp1.length]; exact hl1, by rw [rp2.length]; exact hl2, fun a dx ha hdx ne => ?_⟩
    refine mk_sp hk2 hm ha hdx ne (A.len _ _ (by rw [List.length_append]; omega)) (fun m' S' hm' hs' hx' => ?_) q2
    exact A.rep m' S' (.ref h2.length) (.ref a) ds es' vs zs hl1 hl2 (by unfold Rep; exact ⟨a, hx', rfl⟩) (RepL.mono hm' hs' _ _ (ex2.repL rp1)) (RepL.mono hm' hs' _ _ rp2)⟩
/-- C(e, ..); dd: the defaults -/
theorem se_mk {dvs : List V} {dd : List D} {dsv : List Value} (M : Mk X.K C f) (Fo : FnOk X.prog X.w X.K X.mg X.base (L2.CX X.prog X.w) k f fd ps (spF X.K X.mg n F)) (hr : Room (k + 1) X.A) (hm : X.mg x = some (.ref C)) (hb : Binds X.K fd ps dsv) (hd : Vals dvs dsv)
    (hdd : ∀ m S, RepL X.K X.mg m S dd dvs) (ha : PA X (e :: es) (tDL X.K X.mg W fs)) (hg : Gl X x := by rfl) (hlen : ∀ ρ h ds h', fs ρ h = .ok ds h' → ds.length + dd.length + 1 = n)
    (hdb : (x == ("__debug__" : Str)) = false := by decide) (he : starEach (e :: es) X.env = (false, eval e X.env) :: starEach es X.env := by rfl) (hpl : (backTo pos (starEach es X.env)).any (·.1) = false := by rfl) :
    PE X (.Call (.Name x p) (e :: es) [] pos) (tD X.K X.mg W (eCall (mkO x (fun s ds => s :: (ds ++ dd)) F) fs)) :=
  pick fun σ H Q h => ⟨_, pe_make M Fo hr hg hm hb hd passF ha hdb he hpl, by
    obtain ⟨Z, m, ρ, c, at', p⟩ := h
    show tDL X.K X.mg W fs σ H _
    refine ⟨Z, m, ρ, c, at', (PostG.bind p).imp fun vs H2 ⟨ds, m2, h2, ex2, hk2, rp2, e2, q2⟩ a dx ha hdx ne => ?_⟩
    have hl := hlen _ _ _ _ e2
    refine mk_sp hk2 hm ha hdx ne (by simp only [List.length_cons, List.length_append]; omega) (fun m' S' hm' hs' hx' => ?_) q2
    exact RepL.cons (by unfold Rep; exact ⟨a, hx', rfl⟩) ((RepL.mono hm' hs' _ _ rp2).append (hdd m' S'))⟩
theorem len_nil {ρ : Env} {h h' : CH} {ds : List D} (e : aNil ρ h = .ok ds h') : ds.length = 0 := by
  unfold aNil M.pure at e
  cases e
  rfl
theorem len_cons {f : ED} {n : Nat} (hf : ∀ ρ h ds h', fs ρ h = .ok ds h' → ds.length = n) {ρ : Env} {h h' : CH} {ds : List D} (e : aCons f fs ρ h = .ok ds h') : ds.length = n + 1 := by
  unfold aCons M.bind at e
  cases e1 : f ρ h with
  | ok d h1 =>
    rw [e1] at e
    dsimp only at e
    cases e2 : fs ρ h1 with
    | ok es h2 =>
      rw [e2] at e
      dsimp only at e
      unfold M.pure at e
      cases e
      rw [List.length_cons, hf _ _ _ _ e2]
    | _ => rw [e2] at e; cases e
  | _ => rw [e1] at e; cases e
end
/-- how many arguments there are -/
def LenA (fs : AD) (n : Nat) : Prop := ∀ ρ h ds h', fs ρ h = .ok ds h' → ds.length = n
theorem LenA.nil : LenA aNil 0 := fun _ _ _ _ e => len_nil e
theorem LenA.cons {f : ED} {fs : AD} {n : Nat} (h : LenA fs n) : LenA (aCons f fs) (n + 1) := fun _ _ _ _ e => len_cons h e
/-! ### arrangement -/
def perm {α : Type} (idx : List Nat) (xs : List α) : List α := idx.filterMap fun i => xs[i]?
theorem Vals.at_ {xs : List V} {us : List Value} (r : Vals xs us) : ∀ i : Nat, (xs[i]? = none ∧ us[i]? = none) ∨ ∃ x u, xs[i]? = some x ∧ us[i]? = some u ∧ RelV x u := by
  induction r with
  | nil => exact fun i => .inl ⟨by simp, by simp⟩
  | cons h t ih =>
    intro i
    cases i with
    | zero => exact .inr ⟨_, _, rfl, rfl, h⟩
    | succ i => simpa using ih i
theorem vals_perm {xs : List V} {us : List Value} (r : Vals xs us) : ∀ idx : List Nat, Vals (perm idx xs) (perm idx us)
  | [] => .nil
  | i :: idx => by
    have ih := vals_perm r idx
    unfold perm at *
    rw [List.filterMap_cons, List.filterMap_cons]
    rcases Vals.at_ r i with ⟨e1, e2⟩ | ⟨x, u, e1, e2, h⟩
    · rw [e1, e2]; exact ih
    · rw [e1, e2]; exact .cons h ih
section
variable {K : PySem.W.Frag} {mg : Str → Option Value} {m : List Addr} {S : Hp}
theorem repL_perm {xs : List D} {vs : List V} (r : RepL K mg m S xs vs) : ∀ idx : List Nat, RepL K mg m S (perm idx xs) (perm idx vs)
  | [] => RepL.nil
  | i :: idx => by
    have ih := repL_perm r idx
    unfold perm at *
    rw [List.filterMap_cons, List.filterMap_cons]
    cases e1 : xs[i]? with
    | some x =>
      obtain ⟨v, e2, h⟩ := RepL.get r e1
      rw [e2]
      exact RepL.cons h ih
    | none =>
      have : vs[i]? = none := by
        rw [List.getElem?_eq_none_iff] at *
        rw [r.length]
        exact e1
      rw [this]
      exact ih
end
theorem len_perm {α : Type} {xs : List α} : ∀ {idx : List Nat}, (∀ i ∈ idx, i < xs.length) → (perm idx xs).length = idx.length
  | [], _ => rfl
  | i :: idx, h => by
    have ih := len_perm (xs := xs) (idx := idx) fun j hj => h j (List.mem_cons_of_mem _ hj)
    unfold perm at *
    rw [List.filterMap_cons, List.getElem?_eq_getElem (h i List.mem_cons_self)]
    show _ + 1 = _ + 1
    rw [ih]
/-- self, j written values, the defaults dm of what lacks, the keywords' values; then in the parameters' order -/
def arrG (idx : List Nat) (j : Nat) (dm : List D) (self : D) (xs : List D) : List D := perm idx ((self :: xs.take j) ++ dm ++ xs.drop j)
/-- what a making of an instance asks (b: the level of __init__) -/
structure MkAt (P : Program) (w : World) (K : PySem.W.Frag) (mg : Str → Option Value) (base : Heap) (x : Str) (b j : Nat) (ks : List Str) (idx : List Nat) (dm : List D) (F : FD) : Prop where
  ex : ∃ (C f : Addr) (fd : FuncData) (ps : List Str) (g : List Value → List Value → List Value) (gV : List V → List V → List V), Mk K C f ∧ FnOk P w K mg base (L2.CX P w) b f fd ps (spF K mg idx.length F) ∧ mg x = some (.ref C) ∧ KBn K fd ps (j + 1) ks g gV ∧
    Arr K mg (arrG idx j dm) gV j ks.length idx.length
/-- .. by positional values alone -/
structure MkPos (P : Program) (w : World) (K : PySem.W.Frag) (mg : Str → Option Value) (base : Heap) (x : Str) (b n : Nat) (dd : List D) (F : FD) : Prop where
  ex : ∃ (C f : Addr) (fd : FuncData) (ps : List Str) (dvs : List V) (dsv : List Value), Mk K C f ∧ FnOk P w K mg base (L2.CX P w) b f fd ps (spF K mg n F) ∧ mg x = some (.ref C) ∧ Binds K fd ps dsv ∧ Vals dvs dsv ∧ ∀ m S, RepL K mg m S dd dvs
section
variable {X : Cx} {W : WX} {x : Str} {p pos : Pos} {e : Expr} {es : List Expr} {kws : List Keyword} {fs gs : AD} {ks : List Str} {b n j l : Nat} {F : FD} {idx : List Nat} {dm dd : List D}
theorem sm_K0 (MA : MkAt X.prog X.w X.K X.mg X.base x b 0 ks idx dm F) (hr : Room l X.A) (hkw : PK X kws (tDL X.K X.mg W fs)) (hlen : LenA fs ks.length) (hbl : b + 1 ≤ l := by decide) (hg : Gl X x := by rfl)
    (hall : (backToKw pos (keywordEach kws X.env)).all (·.1.isSome) = true := by rfl) (hks : (backToKw pos (keywordEach kws X.env)).filterMap (·.1) = ks := by rfl)
    (hdb : (x == ("__debug__" : Str)) = false := by decide) (hpl : ((backTo pos (starEach [] X.env)).any (·.1) || (backToKw pos (keywordEach kws X.env)).any (·.1.isNone)) = false := by rfl) :
    PE X (.Call (.Name x p) [] kws pos) (tD X.K X.mg W (eCall (mkO x (arrG idx 0 dm) F) fs)) := by
  obtain ⟨C, f, fd, ps, g, gV, M, Fo, hm, hb, A⟩ := MA.ex
  exact se_mkK0 M Fo (hr.mono hbl) hm hb A hkw hg hall hks hlen hdb hpl
theorem sm_K (MA : MkAt X.prog X.w X.K X.mg X.base x b j ks idx dm F) (hr : Room l X.A) (ha : PA X (e :: es) (tDL X.K X.mg W fs)) (hkw : PK X kws (tDL X.K X.mg W gs)) (hlen : LenA fs j) (hlen2 : LenA gs ks.length) (hbl : b + 1 ≤ l := by decide) (hg : Gl X x := by rfl)
    (hall : (backToKw pos (keywordEach kws X.env)).all (·.1.isSome) = true := by rfl) (hks : (backToKw pos (keywordEach kws X.env)).filterMap (·.1) = ks := by rfl)
    (hdb : (x == ("__debug__" : Str)) = false := by decide) (he : starEach (e :: es) X.env = (false, eval e X.env) :: starEach es X.env := by rfl)
    (hpl : ((backTo pos (starEach (e :: es) X.env)).any (·.1) || (backToKw pos (keywordEach kws X.env)).any (·.1.isNone)) = false := by rfl) :
    PE X (.Call (.Name x p) (e :: es) kws pos) (tD X.K X.mg W (eCall (mkO x (arrG idx j dm) F) (aApp fs gs))) := by
  obtain ⟨C, f, fd, ps, g, gV, M, Fo, hm, hb, A⟩ := MA.ex
  exact se_mkK M Fo (hr.mono hbl) hm hb A ha hkw hg hall hks hlen hlen2 hdb he hpl
theorem sm_P (MA : MkPos X.prog X.w X.K X.mg X.base x b n dd F) (hr : Room l X.A) (ha : PA X (e :: es) (tDL X.K X.mg W fs)) {q : Nat} (hlen : LenA fs q) (hq : q + dd.length + 1 = n := by rfl) (hbl : b + 1 ≤ l := by decide) (hg : Gl X x := by rfl)
    (hdb : (x == ("__debug__" : Str)) = false := by decide) (he : starEach (e :: es) X.env = (false, eval e X.env) :: starEach es X.env := by rfl) (hpl : (backTo pos (starEach es X.env)).any (·.1) = false := by rfl) :
    PE X (.Call (.Name x p) (e :: es) [] pos) (tD X.K X.mg W (eCall (mkO x (fun s ds => s :: (ds ++ dd)) F) fs)) := by
  obtain ⟨C, f, fd, ps, dvs, dsv, M, Fo, hm, hb, hd, hdd⟩ := MA.ex
  exact se_mk M Fo (hr.mono hbl) hm hb hd hdd ha hg (fun ρ h ds h' e => by rw [hlen ρ h ds h' e]; exact hq) hdb he hpl
end
section
variable {P : Program} {w : World} {K : PySem.W.Frag} {mg : Str → Option Value} {base : Heap} {x qual : Str} {st : Stmt} {f C : Addr} {fd : FuncData} {F : FD}
/-- MkAt of a class whose __init__ has keyword-only defaults alone: n = j + 1 positional values, ms the ones that lack -/
theorem mk_at {b j : Nat} {ks ps : List Str} {idx : List Nat} {dm : List D} {ms : List (Str × V)} {D0 : Addr} {oc doc pm cdv ct : Value} {od an : Option Addr} {osl : Array (Option Value)}
    (l : K.lookup f = some ⟨oc, od, .func (PySem.W.fnOf x qual (defArgs st) (defBody st) (defScope st) .none (.ref D0) doc pm an cdv ct), osl⟩) (c : PySem.W.codeIn K cdv qual = true) (kp : PySem.W.keepIn K (.ref f) = true)
    (M : Mk K C f) {cn : Str} (hC : mg cn = some (.ref C))
    (Fo : FnOk P w K mg base (L2.CX P w) b f (PySem.W.fnOf x qual (defArgs st) (defBody st) (defScope st) .none (.ref D0) doc pm an cdv ct) ps (spF K mg idx.length F))
    (hq : ∀ q ∈ ms, ∃ u, PySem.W.nsIn K D0 q.1 = some (some u) ∧ RelV q.2 u)
    (hidx : ∀ i ∈ idx, i < j + 1 + dm.length + ks.length) (hdm : ∀ m S, RepL K mg m S dm (ms.map (·.2)))
    (h : ∀ (doc pm : Value) (an : Option Addr) (cdv ct : Value) (us mv ws : List Value), us.length = j + 1 → mv.length = ms.length → ws.length = ks.length →
      KwChain D0 ((ms.map (·.1)).zip mv) (bindArgs (PySem.W.fnOf x qual (defArgs st) (defBody st) (defScope st) .none (.ref D0) doc pm an cdv ct) ⟨us, ks.zip ws⟩) (ps.zip (perm idx (us ++ mv ++ ws)))) :
    MkAt P w K mg base cn b j ks idx dm F := by
  obtain ⟨mv, hlm, rk, hks⟩ := kwd_vals (ms := ms) hq
  refine ⟨C, f, _, ps, fun us ws => perm idx (us ++ mv ++ ws), fun vs zs => perm idx (vs ++ ms.map (·.2) ++ zs), M, Fo, hC, ⟨fun s us ws X l1 l2 => BindsTo.of_looks fun M => KwChain.looks X hks (h doc pm an cdv ct us mv ws l1 hlm l2), fun r1 r2 => vals_perm ((r1.append rk).append r2) idx⟩, ⟨fun m S self v ds es vs zs h1 h2 r0 r1 r2 => ?_, fun self ds hl => ?_⟩⟩
  · unfold arrG
    rw [show (ds ++ es).take j = ds by rw [← h1, List.take_left], show (ds ++ es).drop j = es by rw [← h1, List.drop_left]]
    exact repL_perm (((RepL.cons r0 r1).append (hdm m S)).append r2) idx
  · unfold arrG
    refine len_perm fun i hi => ?_
    have := hidx i hi
    simp only [List.length_append, List.length_cons, List.length_take, List.length_drop]
    omega
end
/-- a default that is an empty tuple of the written part -/
theorem rep_tup0 {K : PySem.W.Frag} {mg : Str → Option Value} {m : List Addr} {S : Hp} {T : Addr} {od : Option Addr} {n : Nat} {sl : Array (Option Value)} (e : K.lookup T = some ⟨.type "tuple", od, .seq #[] n, sl⟩) : Rep K mg m S (.tup []) (.ref T) := by
  unfold Rep
  exact ⟨T, [], rfl, .inr ⟨_, #[], n, e, rfl, rfl, by simp, .nil⟩, RepL.nil⟩
end FK

/-! part: FKP -/
set_option Elab.async false
set_option linter.all false
set_option maxRecDepth 100000
set_option maxHeartbeats 4000000
/-! FKP: len(set(xs)), xs a list of tuples of ints. -/
namespace FK
open PySem PySem.Spec L2
def cardL : List (List Int) → Nat
  | [] => 0
  | k :: r => cardL r + if k ∈ r then 0 else 1
theorem nodup_len_le {α : Type} [DecidableEq α] : ∀ {xs ys : List α}, xs.Nodup → (∀ x ∈ xs, x ∈ ys) → xs.length ≤ ys.length
  | [], ys, _, _ => Nat.zero_le _
  | x :: xs, ys, nd, h => by
    rw [List.nodup_cons] at nd
    have hx := h x List.mem_cons_self
    have := nodup_len_le (xs := xs) (ys := ys.erase x) nd.2 fun y hy => (List.mem_erase_of_ne (fun (z : y = x) => nd.1 (by rw [← z]; exact hy))).mpr (h y (List.mem_cons_of_mem _ hy))
    rw [List.length_erase_of_mem hx] at this
    have := List.length_pos_of_mem hx
    rw [List.length_cons]
    omega
theorem cardL_of : ∀ (ks : List (List Int)), ∃ L : List (List Int), L.Nodup ∧ (∀ x, x ∈ L ↔ x ∈ ks) ∧ L.length = cardL ks
  | [] => ⟨[], List.nodup_nil, fun _ => Iff.rfl, rfl⟩
  | k :: r => by
    obtain ⟨L, h1, h2, h3⟩ := cardL_of r
    unfold cardL
    by_cases h : k ∈ r
    · rw [if_pos h]
      refine ⟨L, h1, fun x => ?_, h3⟩
      rw [h2 x, List.mem_cons]
      exact ⟨.inr, fun z => z.elim (fun z => z ▸ h) id⟩
    · rw [if_neg h]
      refine ⟨k :: L, List.nodup_cons.mpr ⟨fun z => h ((h2 k).mp z), h1⟩, fun x => ?_, by rw [List.length_cons, h3]⟩
      rw [List.mem_cons, List.mem_cons, h2 x]
theorem card_eq {L ks : List (List Int)} (nd : L.Nodup) (h1 : ∀ x ∈ L, x ∈ ks) (h2 : ∀ x ∈ ks, x ∈ L) : L.length = cardL ks := by
  obtain ⟨M, m1, m2, m3⟩ := cardL_of ks
  rw [← m3]
  exact Nat.le_antisymm (nodup_len_le nd fun x hx => (m2 x).mpr (h1 x hx)) (nodup_len_le m1 fun x hx => h2 x ((m2 x).mp hx))
theorem card_le : ∀ ks : List (List Int), cardL ks ≤ ks.length
  | [] => Nat.le_refl _
  | k :: r => by
    have := card_le r
    unfold cardL
    rw [List.length_cons]
    split <;> omega
theorem card_nodup : ∀ {ks : List (List Int)}, cardL ks = ks.length ↔ ks.Nodup
  | [] => ⟨fun _ => List.nodup_nil, fun _ => rfl⟩
  | k :: r => by
    have := card_le r
    have ih := card_nodup (ks := r)
    unfold cardL
    rw [List.nodup_cons, List.length_cons]
    by_cases h : k ∈ r
    · rw [if_pos h]
      exact ⟨fun z => by omega, fun z => absurd h z.1⟩
    · rw [if_neg h]
      exact ⟨fun z => ⟨h, ih.mp (by omega)⟩, fun z => by rw [ih.mpr z.2]⟩
/-- tuples of ints as lists of ints -/
def keysD : List D → Option (List (List Int))
  | [] => some []
  | .tup xs :: r => match intsD xs, keysD r with
    | some k, some ks => some (k :: ks)
    | _, _ => none
  | _ => none
def dLenSet (x : D) : M D := fun h => match lstOf h x with
  | some xs => match keysD xs with
    | some ks => if ks.length < 64 then .ok (.int (cardL ks)) h else .bad
    | none => .bad
  | none => .bad
section
variable {K : PySem.W.Frag} {mg : Str → Option Value} {Z m : List Addr} {H : Hp} {S : Hp}
theorem ints_rep : ∀ {xs : List D} {vs : List V} {k : List Int}, intsD xs = some k → RepL K mg m S xs vs → vs = k.map V.int
  | [], vs, k, e, r => by cases e; exact r.of_nil
  | d :: ds, vs, k, e, r => by
    cases d with
    | int i =>
      unfold intsD at e
      cases q : intsD ds with
      | none => rw [q] at e; cases e
      | some k' =>
        rw [q] at e
        cases e
        obtain ⟨v, t, rfl, a, b⟩ := r.of_cons
        obtain rfl := rep_int a
        rw [ints_rep q b]
        rfl
    | _ => cases e
theorem keys_rep : ∀ {xs : List D} {vs : List V} {ks : List (List Int)}, keysD xs = some ks → RepL K mg m (hide (Z ++ m) H) xs vs → ∃ ps : List (Addr × List Int), vs = ps.map (fun p => V.ref p.1) ∧ ps.map (·.2) = ks ∧ ∀ p ∈ ps, SqT K H p.1 (p.2.map V.int)
  | [], vs, ks, e, r => by cases e; exact ⟨[], r.of_nil, rfl, fun p h => by cases h⟩
  | d :: ds, vs, ks, e, r => by
    cases d with
    | tup xs =>
      unfold keysD at e
      cases q : intsD xs with
      | none => rw [q] at e; cases e
      | some k =>
        cases q2 : keysD ds with
        | none => rw [q, q2] at e; cases e
        | some ks' =>
          rw [q, q2] at e
          cases e
          obtain ⟨v, t, rfl, a, b⟩ := r.of_cons
          obtain ⟨ps, rfl, h2, h3⟩ := keys_rep q2 b
          unfold Rep at a
          obtain ⟨p, us, rfl, g, rr⟩ := a
          obtain rfl := ints_rep q rr
          refine ⟨(p, k) :: ps, rfl, by rw [List.map_cons, h2], fun x hx => ?_⟩
          rcases List.mem_cons.mp hx with rfl | hx
          · exact hide_sub.sqt g
          · exact h3 x hx
    | _ => cases e
end
open PyProof.Rows in
def tLenSetT (K : PySem.W.Frag) (ta : TE) : TE := fun σ H Q => ta σ H fun x H1 => ∃ (l : Addr) (ks : List (Addr × List Int)), x = V.ref l ∧ SqL K H1 l (ks.map fun p => V.ref p.1) ∧ (∀ p ∈ ks, SqT K H1 p.1 (p.2.map V.int)) ∧ ks.length < 64 ∧ Q (.int (cardL (ks.map (·.2)))) H1
section
variable {X : Cx} {W : WX}
open PyProof.Rows in
theorem pe_lenSetT {a : Expr} {ta : TE} {p p2 q pos : Pos} (hc : X.calm = true) (hu : X.A.units + 64 < cLine) (hg : Gl X "len") (hm : X.mg "len" = none) (hg2 : Gl X "set") (hm2 : X.mg "set" = none) (ha : PE X a ta)
    (na : starEach [a] X.env = (false, eval a X.env) :: starEach [] X.env := by rfl) : PE X (.Call (.Name "len" p) [.Call (.Name "set" p2) [a] [] q] [] pos) (tLenSetT X.K ta) := by
  refine ⟨fun pins s σ H Q I h => ?_⟩
  refine Call_ (ld_blt I hg hm PySem.boot_len ?_)
  refine PyProof.Rows.callWith_builtin1 (PyProof.Rows.args_cons ?_ rfl) rfl rfl
  refine Call_ (ld_blt I hg2 hm2 PyProof.Rows.boot_set ?_)
  refine PyProof.Rows.callWith_type1 (PyProof.Rows.args_cons (thn (ha.run pins s σ H _ I h) fun v s1 ⟨x, H1, I1, r1, q1⟩ => PyProof.Rows.args_nil ?_) na) na rfl
  obtain ⟨l, ks, rfl, hq, hk, hf, q1⟩ := q1
  cases r1
  obtain ⟨its, r, pl, hz⟩ := I1.list hq
  refine call_set_tups (P := X.prog) (w := X.w) ks (I1.ok.hd hc) pl.isList (by simpa using refs_of_vals r) (fun p hp => I1.isT (hk p hp)) hf (by omega) fun h' tk L es ep t R g k => ?_
  refine PyProof.Rows.args_nil ?_
  have I2 : Inv X pins σ H1 { s1 with heap := h', toks := tk } := I1.kept fun b o e => k b o e
  obtain ⟨o, ho, hex, hd⟩ := R.ob
  have hL : L.length = cardL (ks.map (·.2)) := by
    rw [← List.length_map (f := (·.2)) (as := L)]
    refine card_eq R.nd (fun x hx => ?_) (fun x hx => ?_)
    · obtain ⟨p, hp, rfl⟩ := List.mem_map.mp hx
      exact List.mem_map.mpr ⟨p, List.mem_of_mem_take (g.sub p hp), rfl⟩
    · obtain ⟨p, hp, rfl⟩ := List.mem_map.mp hx
      exact g.all p (by rw [List.take_length]; exact hp)
  have hsz := SetTR.size (s := { s1 with heap := h' }) R
  have hfw := R.few
  refine call_len_set ho hex hd (SetTR.fits (s := { s1 with heap := h' }) R) (by rw [hsz]; omega) ⟨.int (cardL (ks.map (·.2))), H1, I2.tok _, ⟨_, by rw [hsz, hL]⟩, q1⟩
theorem se_lenSet {k : Nat} {a : Expr} {f : ED} {p p2 q pos : Pos} (hc : X.calm = true) (hm : X.mg "len" = none) (hm2 : X.mg "set" = none) (hr : Room k X.A) (ha : PE X a (tD X.K X.mg W f)) (hg : Gl X "len" := by rfl) (hg2 : Gl X "set" := by rfl)
    (na : starEach [a] X.env = (false, eval a X.env) :: starEach [] X.env := by rfl) : PE X (.Call (.Name "len" p) [.Call (.Name "set" p2) [a] [] q] [] pos) (tD X.K X.mg W (e1 dLenSet f)) :=
  pick fun σ H Q h => ⟨_, pe_lenSetT hc hr.units hg hm hg2 hm2 ha na, den1 (r := fun x H1 Q => ∃ (l : Addr) (ks : List (Addr × List Int)), x = V.ref l ∧ SqL X.K H1 l (ks.map fun p => V.ref p.1) ∧ (∀ p ∈ ks, SqT X.K H1 p.1 (p.2.map V.int)) ∧ ks.length < 64 ∧ Q (.int (cardL (ks.map (·.2)))) H1) h fun v H Q ⟨Z, m, c, σ', x, hk, r, p⟩ => by
    unfold dLenSet at p
    split at p
    · rename_i xs ex
      split at p
      · rename_i ks ek
        split at p
        · rename_i hl
          obtain ⟨l, vs, rfl, g, rl⟩ := hk.rlstOf r ex
          obtain ⟨ps, rfl, h2, h3⟩ := keys_rep ek rl
          subst h2
          rw [List.length_map] at hl
          exact ⟨l, ps, rfl, SqL.of g, h3, hl, put_int hk p⟩
        · exact p.elim
      · exact p.elim
    · exact p.elim⟩
end
end FK

/-! part: FKQ -/
set_option Elab.async false
set_option linter.all false
set_option maxRecDepth 100000
set_option maxHeartbeats 4000000
/-! FKQ: methods called on instances. -/
namespace FK
open PySem PySem.Spec L2
/-- x is an instance of c without a field m -/
def isI (c m : Str) (x : D) (h : CH) : Bool := match x with
  | .ref n => match h[n]? with
    | some (.ins c' ns _) => decide (c' = c) && !ns.contains m
    | _ => false
  | .obj c' ns _ => decide (c' = c) && !ns.contains m
  | _ => false
def eMi (c m : Str) (call : List D → M D) (f : ED) (fs : AD) : ED := fun ρ => M.bind (f ρ) fun x h => if isI c m x h = true then M.bind (fs ρ) (fun ds => call (x :: ds)) h else .bad
theorem lookup_none {m : Str} : ∀ {fs : List (Str × V)}, (fs.map (·.1)).contains m = false → fs.lookup m = none
  | [], _ => rfl
  | p :: fs, h => by
    rw [List.map_cons, List.contains_cons, Bool.or_eq_false_iff] at h
    rw [List.lookup_cons, h.1]
    exact lookup_none h.2
/-- what a method's call asks -/
structure MetAt (P : Program) (w : World) (K : PySem.W.Frag) (mg : Str → Option Value) (base : Heap) (c m : Str) (k n : Nat) (F : FD) : Prop where
  ex : ∃ (C f : Addr) (fd : FuncData) (ps : List Str), mg c = some (.ref C) ∧ Cls K C ∧ Meth K C m f ∧ FnOk P w K mg base (L2.CX P w) k f fd ps (spF K mg n F) ∧ Binds K fd ps []
def tMethSD (C : Addr) (m : Str) (sp : Sp) (E : L2.St → XK) (ta : TE) (t : TA) : TE := fun σ H Q => ta σ H fun x H1 => ∃ a dx fs, x = V.ref a ∧ H1 a = some (.ins C dx fs) ∧ fs.lookup m = none ∧ t σ H1 fun vs H2 => sp (x :: (vs ++ [])) H2 Q (E σ)
section
variable {X : Cx} {CX : CXT} {k : Nat} {C f : Addr} {m : Str} {fd : FuncData} {ps : List Str} {sp : Sp} {E : L2.St → XK} {o e : Expr} {es : List Expr} {ta : TE} {t : TA} {apos pos : Pos}
theorem pe_methSD {pl : Sem Bool} (he : PE X o ta) (c : Cls X.K C) (hm : Meth X.K C m f) (F : FnOk X.prog X.w X.K X.mg X.base CX k f fd ps sp) (hr : Room k X.A) (hb : Binds X.K fd ps []) (hx : ∀ σ, PassesAt CX X σ (E σ)) (ha : PA X (e :: es) t)
    (hst : starEach (e :: es) X.env = (false, eval e X.env) :: starEach es X.env := by rfl) (hpl : (backTo pos (starEach es X.env)).any (·.1) = false := by rfl)
    (ht : eval (.Call (.Attribute o m apos) (e :: es) [] pos) X.env = (do
      let ov ← eval o X.env
      standAt apos.atName
      let (f, first) ← holding [ov] (getMethod ov m pl)
      callWith pos f first (backTo pos (starEach (e :: es) X.env)) (backToKw pos (keywordEach [] X.env))) := by rfl) :
    PE X (.Call (.Attribute o m apos) (e :: es) [] pos) (tMethSD C m sp E ta t) := by
  refine ⟨fun pins s σ H Q I h => ?_⟩
  refine PySem.W.methodCall_KW (pl := pl) (thn (he.run pins s σ H _ I h) fun u s1 ⟨x, H1, I1, rx, a, dx, fs, ex, ea, l, q⟩ => ?_) ht
  subst ex
  obtain rfl : u = Value.ref a := rx
  refine getmeth_ok I1 ea c hm l ?_
  refine PySem.W.callWith_K (first := [.ref a]) (h₀ := X.base) I.ok.mod.kin hm.kp (thn (ha.run pos pins s1 σ H1 _ I1 q) fun us s2 ⟨vs, H2, I2, r, q2⟩ => ⟨I2.kIn, ?_⟩) hst hpl
  exact run_fnSD (us := .ref a :: us) (vs := .ref a :: vs) F hr hb .nil (hx σ) I2 (.cons rfl r) q2
end
def tMethSD0 (C : Addr) (m : Str) (sp : Sp) (E : L2.St → XK) (ta : TE) : TE := fun σ H Q => ta σ H fun x H1 => ∃ a dx fs, x = V.ref a ∧ H1 a = some (.ins C dx fs) ∧ fs.lookup m = none ∧ sp (x :: []) H1 Q (E σ)
section
variable {X : Cx} {CX : CXT} {k : Nat} {C f : Addr} {m : Str} {fd : FuncData} {ps : List Str} {sp : Sp} {E : L2.St → XK} {o : Expr} {ta : TE} {apos pos : Pos}
theorem pe_methSD0 {pl : Sem Bool} (he : PE X o ta) (c : Cls X.K C) (hm : Meth X.K C m f) (F : FnOk X.prog X.w X.K X.mg X.base CX k f fd ps sp) (hr : Room k X.A) (hb : Binds X.K fd ps []) (hx : ∀ σ, PassesAt CX X σ (E σ))
    (ht : eval (.Call (.Attribute o m apos) [] [] pos) X.env = (do
      let ov ← eval o X.env
      standAt apos.atName
      let (f, first) ← holding [ov] (getMethod ov m pl)
      callWith pos f first (backTo pos (starEach [] X.env)) (backToKw pos (keywordEach [] X.env))) := by rfl) :
    PE X (.Call (.Attribute o m apos) [] [] pos) (tMethSD0 C m sp E ta) := by
  refine ⟨fun pins s σ H Q I h => ?_⟩
  refine PySem.W.methodCall_KW (pl := pl) (thn (he.run pins s σ H _ I h) fun u s1 ⟨x, H1, I1, rx, a, dx, fs, ex, ea, l, q⟩ => ?_) ht
  subst ex
  obtain rfl : u = Value.ref a := rx
  refine getmeth_ok I1 ea c hm l ?_
  exact PySem.W.callWith_K0 (first := [.ref a]) I1.kIn hm.kp (run_fnSD (us := [.ref a]) (vs := [.ref a]) F hr hb .nil (hx σ) I1 (.cons rfl .nil) q)
end
/-- an instance as it lies -/
theorem isI_ins {K : PySem.W.Frag} {mg : Str → Option Value} {Z m : List Addr} {H : Hp} {h : CH} (hk : HeapOk K mg Z m h H) {d : D} {v : V} (r : Rep K mg m (hide (Z ++ m) H) d v) {c a : Str} (e : isI c a d h = true) {C : Addr} (hC : mg c = some (.ref C)) : ∃ p dx fs, v = .ref p ∧ H p = some (.ins C dx fs) ∧ fs.lookup a = none := by
  unfold isI at e
  cases d with
  | ref n =>
    dsimp only at e
    cases q : h[n]? with
    | none => rw [q] at e; cases e
    | some c' =>
      rw [q] at e
      cases c' with
      | lst _ => cases e
      | tab _ => cases e
      | dS _ _ => cases e
      | dM _ _ => cases e
      | ins c2 ns xs =>
        dsimp only at e
        rw [Bool.and_eq_true] at e
        have e1 := of_decide_eq_true e.1
        subst e1
        unfold Rep at r
        obtain ⟨p, h1, rfl⟩ := r
        obtain ⟨C', dx, fs, g1, g2, rfl, _⟩ := hk.cell _ _ p q h1
        rw [hC] at g2
        cases g2
        exact ⟨p, dx, fs, rfl, g1, lookup_none (by simpa using e.2)⟩
  | obj c2 ns xs =>
    dsimp only at e
    rw [Bool.and_eq_true] at e
    have e1 := of_decide_eq_true e.1
    subst e1
    unfold Rep at r
    obtain ⟨p, C', dx, fs, rfl, g1, g2, rfl, _⟩ := r
    rw [hC] at g2
    cases g2
    exact ⟨p, dx, fs, rfl, (hide_some g1).2, lookup_none (by simpa using e.2)⟩
  | _ => cases e
section
variable {X : Cx} {W : WX} {o e : Expr} {es : List Expr} {f : ED} {fs : AD} {c m : Str} {k j n : Nat} {F : FD} {cl : Nat → FD → List D → M D} {apos pos : Pos}
theorem se_mi {pl : Sem Bool} (hc : CallOk cl) (tk : Takes X W) (MT : MetAt X.prog X.w X.K X.mg X.base c m k n F) (hr : Room j X.A) (he : PE X o (tD X.K X.mg W f)) (ha : PA X (e :: es) (tDL X.K X.mg W fs)) (hkj : k ≤ j := by decide)
    (hst : starEach (e :: es) X.env = (false, eval e X.env) :: starEach es X.env := by rfl) (hpl : (backTo pos (starEach es X.env)).any (·.1) = false := by rfl)
    (ht : eval (.Call (.Attribute o m apos) (e :: es) [] pos) X.env = (do
      let ov ← eval o X.env
      standAt apos.atName
      let (f, first) ← holding [ov] (getMethod ov m pl)
      callWith pos f first (backTo pos (starEach (e :: es) X.env)) (backToKw pos (keywordEach [] X.env))) := by rfl) :
    PE X (.Call (.Attribute o m apos) (e :: es) [] pos) (tD X.K X.mg W (eMi c m (cl n F) f fs)) := by
  obtain ⟨C, g, fd, ps, hC, hcls, hm, Fo, hb⟩ := MT.ex
  refine pick fun σ H Q ⟨Z, mm, ρ, h, at', p⟩ => ⟨_, pe_methSD (E := fun σ => L2.WE W σ) he hcls hm Fo (hr.mono hkj) hb (fun σ => passAt tk σ) ha hst hpl ht, ?_⟩
  refine ⟨Z, mm, ρ, h, at', (PostG.bind p).imp fun v H1 ⟨x, m1, h1, ex1, hk1, r1, _, q1⟩ => ?_⟩
  split at q1
  · rename_i hi
    obtain ⟨p, dx, fs', rfl, g1, g2⟩ := isI_ins hk1 r1 hi hC
    refine ⟨p, dx, fs', rfl, g1, g2, Z, m1, ρ, h1, ⟨hk1, ex1.env at'.en⟩, (PostG.bind q1).imp fun vs H2 ⟨ds, m2, h2, ex2, hk2, r2, _, q2⟩ => ?_⟩
    rw [List.append_nil]
    exact call_sp hc hk2 (RepL.cons (ex2.rep r1) r2) q2
  · exact q1.elim
theorem se_mi0 {pl : Sem Bool} (hc : CallOk cl) (tk : Takes X W) (MT : MetAt X.prog X.w X.K X.mg X.base c m k n F) (hr : Room j X.A) (he : PE X o (tD X.K X.mg W f)) (hkj : k ≤ j := by decide)
    (ht : eval (.Call (.Attribute o m apos) [] [] pos) X.env = (do
      let ov ← eval o X.env
      standAt apos.atName
      let (f, first) ← holding [ov] (getMethod ov m pl)
      callWith pos f first (backTo pos (starEach [] X.env)) (backToKw pos (keywordEach [] X.env))) := by rfl) :
    PE X (.Call (.Attribute o m apos) [] [] pos) (tD X.K X.mg W (eMi c m (cl n F) f aNil)) := by
  obtain ⟨C, g, fd, ps, hC, hcls, hm, Fo, hb⟩ := MT.ex
  refine pick fun σ H Q ⟨Z, mm, ρ, h, at', p⟩ => ⟨_, pe_methSD0 (E := fun σ => L2.WE W σ) he hcls hm Fo (hr.mono hkj) hb (fun σ => passAt tk σ) ht, ?_⟩
  refine ⟨Z, mm, ρ, h, at', (PostG.bind p).imp fun v H1 ⟨x, m1, h1, ex1, hk1, r1, _, q1⟩ => ?_⟩
  split at q1
  · rename_i hi
    obtain ⟨p, dx, fs', rfl, g1, g2⟩ := isI_ins hk1 r1 hi hC
    refine ⟨p, dx, fs', rfl, g1, g2, ?_⟩
    exact call_sp hc hk1 (RepL.cons r1 RepL.nil) q1
  · exact q1.elim
end
/-! equality of data with cells in them -/
def dEqF (x y : D) : M D := fun h => match fz h x, fz h y with
  | some a, some b => if a.dat = true ∧ b.dat = true ∧ min a.dep b.dep ≤ 60 then .ok (.bl (a.eqb b)) h else .bad
  | _, _ => .bad
def dNeF (x y : D) : M D := fun h => match fz h x, fz h y with
  | some a, some b => if a.dat = true ∧ b.dat = true ∧ min a.dep b.dep ≤ 60 then .ok (.bl (!a.eqb b)) h else .bad
  | _, _ => .bad
section
variable {X : Cx} {W : WX}
theorem op_dEqF (hu : X.A.units + 60 < cLine) : OpR X (compareOp .Eq) (rD2 X.K X.mg W dEqF) := by
  intro pins s σ H vx vy v u Q I rx ry ⟨Z, m, h, σ', x, y, hk, r1, r2, p⟩
  unfold dEqF at p
  split at p
  · rename_i a b e1 e2
    split at p
    · rename_i hz
      obtain ⟨d1, d2, d3⟩ := hz
      have r1' := (fz_rep (m' := []) hk e1 r1).1
      have r2' := (fz_rep (m' := []) hk e2 r2).1
      obtain ⟨as, q1⟩ := Dp.reads I _ _ v (Rep.dp hide_sub _ _ r1' d1) rx
      obtain ⟨bs, q2⟩ := Dp.reads I _ _ u (Rep.dp hide_sub _ _ r2' d2) ry
      exact SeqAt.compareEq_reads q1 q2 (Rep.lay _ _ r1' d1) (Rep.lay _ _ r2' d2) (by rw [D.dep_py _ d1, D.dep_py _ d2]; omega) ⟨.bl _, H, I, rfl, put_bl hk p⟩
    · exact p.elim
  · exact p.elim
theorem op_dNeF (hu : X.A.units + 60 < cLine) : OpR X (compareOp .NotEq) (rD2 X.K X.mg W dNeF) := by
  intro pins s σ H vx vy v u Q I rx ry ⟨Z, m, h, σ', x, y, hk, r1, r2, p⟩
  unfold dNeF at p
  split at p
  · rename_i a b e1 e2
    split at p
    · rename_i hz
      obtain ⟨d1, d2, d3⟩ := hz
      have r1' := (fz_rep (m' := []) hk e1 r1).1
      have r2' := (fz_rep (m' := []) hk e2 r2).1
      obtain ⟨as, q1⟩ := Dp.reads I _ _ v (Rep.dp hide_sub _ _ r1' d1) rx
      obtain ⟨bs, q2⟩ := Dp.reads I _ _ u (Rep.dp hide_sub _ _ r2' d2) ry
      exact SeqAt.compareNe_reads q1 q2 (Rep.lay _ _ r1' d1) (Rep.lay _ _ r2' d2) (by rw [D.dep_py _ d1, D.dep_py _ d2]; omega) ⟨.bl _, H, I, rfl, put_bl hk p⟩
    · exact p.elim
  · exact p.elim
theorem bo_eqF : Boolish dEqF := by
  intro x y h d h' e
  unfold dEqF at e
  split at e
  · split at e
    · cases e; exact ⟨_, rfl, rfl⟩
    · cases e
  · cases e
theorem bo_neF : Boolish dNeF := by
  intro x y h d h' e
  unfold dNeF at e
  split at e
  · split at e
    · cases e; exact ⟨_, rfl, rfl⟩
    · cases e
  · cases e
end
/-! min(list of ints) -/
def minI : Int → List Int → Int
  | a, [] => a
  | a, b :: r => minI (if b < a then b else a) r
theorem minI_le : ∀ (a : Int) (r : List Int), minI a r ≤ a ∧ (∀ y ∈ r, minI a r ≤ y) ∧ (minI a r = a ∨ minI a r ∈ r)
  | a, [] => ⟨Int.le_refl _, fun y h => (by cases h), .inl rfl⟩
  | a, b :: r => by
    obtain ⟨h1, h2, h3⟩ := minI_le (if b < a then b else a) r
    show minI (if b < a then b else a) r ≤ a ∧ (∀ y ∈ b :: r, minI (if b < a then b else a) r ≤ y) ∧ (minI (if b < a then b else a) r = a ∨ minI (if b < a then b else a) r ∈ b :: r)
    generalize hM : minI (if b < a then b else a) r = M at *
    have hc : (if b < a then b else a) ≤ a ∧ (if b < a then b else a) ≤ b ∧ ((if b < a then b else a) = a ∨ (if b < a then b else a) = b) := by
      by_cases q : b < a
      · rw [if_pos q]; exact ⟨by omega, Int.le_refl _, .inr rfl⟩
      · rw [if_neg q]; exact ⟨Int.le_refl _, by omega, .inl rfl⟩
    refine ⟨by omega, fun y hy => ?_, ?_⟩
    · rcases List.mem_cons.mp hy with hy | hy
      · rw [hy]; omega
      · exact h2 y hy
    · rcases h3 with h3 | h3
      · rcases hc.2.2 with q | q
        · exact .inl (h3.trans q)
        · exact .inr (by rw [h3, q]; exact List.mem_cons_self)
      · exact .inr (List.mem_cons_of_mem _ h3)
def dMinL (ds : List D) : M D := fun h => match ds with
  | [d] => match lstOf h d with
    | some xs => match intsD xs with
      | some (n :: r) => .ok (.int (minI n r)) h
      | _ => .bad
    | none => .bad
  | _ => .bad
section
variable {X : Cx} {W : WX} {p pos : Pos} {e : Expr} {es : List Expr} {fs : AD}
theorem call_dMinL (hc : X.calm = true) : CallR X (.builtin "min") (rDL X.K X.mg W dMinL) := by
  intro pins s σ H vs us Q I r ⟨Z, m, h, σ', ds, hk, rp, p⟩
  unfold dMinL at p
  split at p
  · obtain ⟨v, rfl, g⟩ := repL_one rp
    split at p
    · rename_i xs hx
      split at p
      · rename_i n rr hi
        obtain ⟨a, ws, rfl, g1, g2⟩ := hk.rlstOf g hx
        have := ints_rep hi g2
        subst this
        obtain ⟨m1, m2, m3⟩ := minI_le n rr
        refine cr_min hc pins s σ H _ us Q I r ⟨a, n :: rr, rfl, SqL.of g1, Nat.zero_lt_succ _, fun k hk1 hk2 => ?_⟩
        have : k = minI n rr := by
          have a1 : minI n rr ≤ k := by
            rcases List.mem_cons.mp hk1 with z | z
            · rw [z]; exact m1
            · exact m2 k z
          have a2 : k ≤ minI n rr := by
            rcases m3 with z | z
            · rw [z]; exact hk2 n List.mem_cons_self
            · exact hk2 _ (List.mem_cons_of_mem _ z)
          omega
        rw [this]
        exact put_int hk p
      · exact p.elim
    · exact p.elim
  · exact p.elim
theorem sb_minl (hc : X.calm = true) (hm : X.mg "min" = none) (ha : PA X (e :: es) (tDL X.K X.mg W fs)) (hg : Gl X "min" := by rfl) (he : starEach (e :: es) X.env = (false, eval e X.env) :: starEach es X.env := by rfl) (hpl : (backTo pos (starEach es X.env)).any (·.1) = false := by rfl) :
    PE X (.Call (.Name "min" p) (e :: es) [] pos) (tD X.K X.mg W (eCall dMinL fs)) := se_callB (call_dMinL hc) hg hm PyProof.Rows.boot_min ha (by decide) (by decide) he hpl
end
/-- a default that is a tuple of one text, of the written part -/
theorem rep_tup1 {K : PySem.W.Frag} {mg : Str → Option Value} {m : List Addr} {S : Hp} {T : Addr} {od : Option Addr} {n : Nat} {sl : Array (Option Value)} {x : Str} {tk : Tok} (e : K.lookup T = some ⟨.type "tuple", od, .seq #[.str x tk] n, sl⟩) (hx : PyData.strOk x = true) : Rep K mg m S (.tup [.str x]) (.ref T) := by
  unfold Rep
  exact ⟨T, [.str x], rfl, .inr ⟨_, #[.str x tk], n, e, rfl, rfl, by simp [sizeLine_eq], .cons ⟨_, rfl⟩ .nil⟩, RepL.cons (by unfold Rep; exact ⟨rfl, hx⟩) RepL.nil⟩
end FK

/-! part: FKV -/
set_option Elab.async false
set_option linter.all false
set_option maxRecDepth 100000
set_option maxHeartbeats 1000000
namespace FK
open PySem PySem.Spec L2
theorem looks_forIn {M : Model} {h : Heap} {α β : Type} {f : α → β → Sem (ForInStep β)} (g : β → α → β) : ∀ (l : List α) (b : β), (∀ pre x post, l = pre ++ x :: post → PySem.W.Looks M h (f x (pre.foldl g b)) (.yield (g (pre.foldl g b) x))) → PySem.W.Looks M h (forIn l b f) (l.foldl g b)
  | [], b, _ => by
    rw [List.forIn_nil]
    exact PySem.W.Looks.now
  | x :: l, b, st => by
    rw [List.forIn_cons]
    refine PySem.W.Looks.andThen (st [] x l rfl) ?_
    exact looks_forIn g l (g b x) fun pre y post e => st (x :: pre) y post (by rw [e]; rfl)
theorem lk_none {n : Str} {l : List (Str × Value)} : List.lookup n l = none ↔ n ∉ l.map (·.1) := by
  induction l with
  | nil => simp
  | cons p l ih =>
    rw [List.lookup_cons, List.map_cons, List.mem_cons]
    by_cases q : n = p.1
    · subst q; simp
    · rw [show (n == p.1) = false by simpa using q]
      simp [ih, q]
theorem lookup_some {n : Str} {l : List (Str × Value)} (h : n ∈ l.map (·.1)) : ∃ v, List.lookup n l = some v := by
  cases e : List.lookup n l with
  | none => exact absurd h (lk_none.mp e)
  | some v => exact ⟨v, rfl⟩
theorem zip_fst {ps : List Str} {us : List Value} (l : us.length = ps.length) : (ps.zip us).map (·.1) = ps := List.map_fst_zip (by omega)
theorem lookup_zip {n : Str} : ∀ {nm : List Str} {vs : List Value}, vs.length = nm.length → n ∈ nm → List.lookup n (nm.zip vs) = vs[nm.idxOf n]?
  | [], _, _, h => by cases h
  | m :: nm, [], l, _ => by cases l
  | m :: nm, v :: vs, l, h => by
    rw [List.zip_cons_cons, List.lookup_cons, List.idxOf_cons]
    by_cases q : n = m
    · subst q; simp
    · have q2 : (m == n) = false := by simpa using fun z : m = n => q z.symm
      have q3 : (n == m) = false := by simpa using q
      rw [q2, q3]
      have := lookup_zip (n := n) (nm := nm) (vs := vs) (by simpa using l) ((List.mem_cons.mp h).resolve_left q)
      simpa using this
theorem lookup_self : ∀ {la : List Str} {mv : List Value}, mv.length = la.length → la.Nodup → la.map (fun n => (n, ((la.zip mv).lookup n).getD .none)) = la.zip mv
  | [], [], _, _ => rfl
  | [], _ :: _, l, _ => by cases l
  | m :: nm, [], l, _ => by cases l
  | m :: nm, v :: vs, l, h => by
    obtain ⟨h1, h2⟩ := List.nodup_cons.mp h
    rw [List.map_cons, List.zip_cons_cons]
    have e1 : ((m, ((List.lookup m ((m, v) :: nm.zip vs)).getD Value.none)) : Str × Value) = (m, v) := by simp [List.lookup_cons]
    rw [e1, ← lookup_self (la := nm) (mv := vs) (by simpa using l) h2]
    congr 1
    refine List.map_congr_left fun n hn => ?_
    have q : (n == m) = false := by
      have : n ≠ m := fun z => h1 (z ▸ hn)
      simpa using this
    rw [List.lookup_cons, q, lookup_self (la := nm) (mv := vs) (by simpa using l) h2]
theorem fill_zip {F : Str → Option Value} : ∀ {ps : List Str} {vs : List Value} {idx : List Nat}, ps.length = idx.length → (∀ (i : Nat) n j, ps[i]? = some n → idx[i]? = some j → F n = vs[j]?) → (∀ n ∈ ps, ∃ v, F n = some v) → ps.filterMap (fun n => (F n).map (n, ·)) = ps.zip (perm idx vs)
  | [], _, _, _, _, _ => rfl
  | p :: ps, vs, [], l, _, _ => by cases l
  | p :: ps, vs, j :: idx, l, h, h2 => by
    obtain ⟨v, hv⟩ := h2 p List.mem_cons_self
    have e := h 0 p j rfl rfl
    have ih := fill_zip (F := F) (ps := ps) (vs := vs) (idx := idx) (by simpa using l) (fun i n j a b => h (i + 1) n j a b) fun n hn => h2 n (List.mem_cons_of_mem _ hn)
    rw [List.filterMap_cons, hv]
    show (p, v) :: _ = _
    rw [ih]
    rw [e] at hv
    unfold perm
    rw [List.filterMap_cons, hv]
    rfl
theorem binds_kw {K : PySem.W.Frag} {fd : FuncData} {D0 : Addr} {M : Model} {h : Heap} (X : K.In h) (ps0 ko ks la ps : List Str) (idx : List Nat) (us ws mv : List Value) (h1 : fd.params.posonlyargs = []) (h2 : fd.params.args.map (·.arg) = ps0) (h3 : fd.params.kwonlyargs.map (·.arg) = ko) (hv : fd.params.vararg = none) (hkw : fd.params.kwarg = none) (hd : fd.defaults = .none) (hk : fd.kwdefaults = .ref D0) (l1 : us.length = ps0.length) (l2 : ws.length = ks.length) (l3 : mv.length = la.length)
    (c1 : ps0 ++ ko = ps) (c2 : (ps0 ++ la ++ ks).Nodup) (c2' : ko.Nodup) (c3 : ∀ k ∈ ks, k ∈ ko) (c4 : ko.filter (fun k => !ks.contains k) = la) (c5 : ps.map (fun n => (ps0 ++ la ++ ks).idxOf n) = idx)
    (hq : ∀ q ∈ la.zip mv, PySem.W.nsIn K D0 q.1 = some (some q.2)) : PySem.W.Looks M h (bindArgs fd ⟨us, ks.zip ws⟩) (ps.zip (perm idx (us ++ mv ++ ws))) := by
  unfold bindArgs
  simp only [h1, h2, h3, hv, hkw, hd, hk, List.map_nil, List.nil_append, Option.isSome_none, Bool.false_eq_true, if_false]
  have d1 : (ps0 ++ ks).Nodup := by
    rw [List.append_assoc] at c2
    have := (List.nodup_append.mp c2)
    refine List.nodup_append.mpr ⟨this.1, (List.nodup_append.mp this.2.1).2.1, fun a ha b hb => this.2.2 a ha b (List.mem_append_right _ hb)⟩
  refine PySem.W.Looks.andThen (a := (ps0.zip us ++ ks.zip ws, [])) ?_ ?_
  · refine cast (congrArg (PySem.W.Looks M h _) ?_) (looks_forIn (M := M) (h := h) (fun (s : List (Str × Value) × List (Str × Value)) x => (s.1 ++ [x], s.2)) (ks.zip ws) (ps0.zip us, []) fun pre x post e => ?_)
    · have : ∀ (l : List (Str × Value)) (a b : List (Str × Value)), l.foldl (fun (s : List (Str × Value) × List (Str × Value)) x => (s.1 ++ [x], s.2)) (a, b) = (a ++ l, b) := by
        intro l
        induction l with
        | nil => intro a b; simp
        | cons x l ih => intro a b; rw [List.foldl_cons, ih]; simp
      exact this _ _ _
    · have fo : ∀ (l : List (Str × Value)) (a b : List (Str × Value)), l.foldl (fun (s : List (Str × Value) × List (Str × Value)) x => (s.1 ++ [x], s.2)) (a, b) = (a ++ l, b) := by
        intro l
        induction l with
        | nil => intro a b; simp
        | cons x l ih => intro a b; rw [List.foldl_cons, ih]; simp
      rw [fo]
      have hz := zip_fst l2
      rw [e, List.map_append, List.map_cons] at hz
      have hx : x.1 ∈ ks := by rw [← hz]; simp
      have hko : ko.contains x.1 = true := by simpa using c3 _ hx
      rw [← hz] at d1
      have no : List.lookup x.1 (ps0.zip us ++ pre) = none := lk_none.mpr fun z => by
        rw [List.map_append, zip_fst l1] at z
        obtain ⟨n1, n2, n3⟩ := List.nodup_append.mp d1
        rcases List.mem_append.mp z with z | z
        · exact n3 _ z x.1 (by simp) rfl
        · obtain ⟨m1, m2, m3⟩ := List.nodup_append.mp n2
          exact m3 _ z x.1 (by simp) rfl
      rw [if_pos (by rw [hko, Bool.or_true]), no]
      exact PySem.W.Looks.now
  refine PySem.W.Looks.andThen (a := none) (PySem.W.Looks.of_pure rfl) ?_
  dsimp only
  have z1 : ps0.filter (fun n => (List.lookup n (ps0.zip us ++ ks.zip ws)).isNone) = [] := List.filter_eq_nil_iff.mpr fun n hn => by
    obtain ⟨v, e⟩ := lookup_some (n := n) (l := ps0.zip us ++ ks.zip ws) (by rw [List.map_append, zip_fst l1]; exact List.mem_append_left _ hn)
    rw [e]
    simp
  have t1 : (decide (us.length > ps0.length) && (none : Option Arg).isNone) = false := by rw [l1]; simp
  rw [if_neg (by rw [t1]; decide)]
  simp only [Option.getD_none, List.drop_nil, List.length_nil, Nat.sub_zero, List.take_length, List.zip_nil_right, z1, List.isEmpty_nil, Bool.not_true, Bool.false_eq_true, if_false, List.forIn_nil, pure_bind]
  obtain ⟨S1, hS1⟩ : ∃ S1, ps0.zip us ++ ks.zip ws = S1 := ⟨_, rfl⟩
  rw [hS1]
  have k1 : S1.map (·.1) = ps0 ++ ks := by rw [← hS1, List.map_append, zip_fst l1, zip_fst l2]
  have fo : ∀ (l : List Str) (a : List (Str × Value)) (b : List Str), l.foldl (fun (s : List (Str × Value) × List Str) n => if ks.contains n = true then s else (s.1 ++ [(n, ((la.zip mv).lookup n).getD .none)], s.2)) (a, b) = (a ++ (l.filter (fun k => !ks.contains k)).map (fun n => (n, ((la.zip mv).lookup n).getD .none)), b) := by
    intro l
    induction l with
    | nil => intro a b; simp
    | cons x l ih =>
      intro a b
      rw [List.foldl_cons]
      by_cases q : ks.contains x = true
      · rw [if_pos q, ih, List.filter_cons_of_neg (by rw [q]; decide)]
      · rw [if_neg q, ih, List.filter_cons_of_pos (by simpa using q)]
        simp
  have dla : la.Nodup := by rw [← c4]; exact c2'.filter _
  refine PySem.W.Looks.andThen (a := (S1 ++ la.zip mv, [])) ?_ ?_
  · refine cast (congrArg (PySem.W.Looks M h _) ?_) (looks_forIn (M := M) (h := h) (fun (s : List (Str × Value) × List Str) n => if ks.contains n = true then s else (s.1 ++ [(n, ((la.zip mv).lookup n).getD .none)], s.2)) ko (S1, []) fun pre x post e => ?_)
    · rw [fo, c4, lookup_self l3 dla]
    · rw [fo]
      have px : x ∉ pre := fun z => by
        rw [e] at c2'
        exact (List.nodup_append.mp c2').2.2 _ z x (by simp) rfl
      by_cases q : ks.contains x = true
      · obtain ⟨v, ev⟩ := lookup_some (n := x) (l := S1 ++ (pre.filter (fun k => !ks.contains k)).map (fun n => (n, ((la.zip mv).lookup n).getD .none))) (by
          rw [List.map_append, k1]
          exact List.mem_append_left _ (List.mem_append_right _ (by simpa using q)))
        dsimp only
        rw [ev, if_pos q]
        exact PySem.W.Looks.now
      · have xla : x ∈ la := by rw [← c4, e]; exact List.mem_filter.mpr ⟨by simp, by simpa using q⟩
        have no : List.lookup x (S1 ++ (pre.filter (fun k => !ks.contains k)).map (fun n => (n, ((la.zip mv).lookup n).getD .none))) = none := lk_none.mpr fun z => by
          rw [List.map_append, k1, List.map_map] at z
          rcases List.mem_append.mp z with z | z
          · rcases List.mem_append.mp z with z | z
            · exact (List.nodup_append.mp (List.nodup_append.mp c2).1).2.2 _ z x xla rfl
            · exact q (by simpa using z)
          · obtain ⟨y, hy, hy2⟩ := List.mem_map.mp z
            cases hy2
            exact px (List.mem_filter.mp hy).1
        dsimp only
        rw [no, if_neg q]
        obtain ⟨v, hv⟩ := lookup_some (n := x) (l := la.zip mv) (by rw [zip_fst l3]; exact xla)
        have hm : (x, v) ∈ la.zip mv := by
          have := List.lookup_eq_some_iff.mp hv
          obtain ⟨l1, l2, e, _⟩ := this
          rw [e]; simp
        rw [if_pos (show (none : Option Value).isNone = true from rfl), hv]
        exact PySem.W.Looks.andThen (PySem.W.looks_nsIn X (hq _ hm)) PySem.W.Looks.now
  dsimp only
  simp only [List.isEmpty_nil, Bool.not_true, Bool.false_eq_true, if_false]
  rw [c1]
  refine PySem.W.Looks.of_pure (congrArg pure ?_)
  have nm : (ps0.zip us ++ la.zip mv ++ ks.zip ws) = (ps0 ++ la ++ ks).zip (us ++ mv ++ ws) := by
    rw [List.zip_append (by simp [l1, l3]), List.zip_append l1.symm]
  have sw : ∀ n, List.lookup n (S1 ++ la.zip mv) = List.lookup n ((ps0 ++ la ++ ks).zip (us ++ mv ++ ws)) := fun n => by
    rw [← nm, ← hS1, List.lookup_append, List.lookup_append, List.lookup_append, List.lookup_append]
    by_cases q : n ∈ ks
    · have : List.lookup n (la.zip mv) = none := lk_none.mpr fun z => by
        rw [zip_fst l3] at z
        exact (List.nodup_append.mp c2).2.2 _ (List.mem_append_right _ z) n q rfl
      rw [this]
      simp
    · have : List.lookup n (ks.zip ws) = none := lk_none.mpr fun z => by
        rw [zip_fst l2] at z
        exact q z
      rw [this]
      simp
  have inn : ∀ n ∈ ps, n ∈ ps0 ++ la ++ ks := fun n hn => by
    rw [← c1] at hn
    rcases List.mem_append.mp hn with z | z
    · exact List.mem_append_left _ (List.mem_append_left _ z)
    · by_cases q : n ∈ ks
      · exact List.mem_append_right _ q
      · refine List.mem_append_left _ (List.mem_append_right _ ?_)
        rw [← c4]
        exact List.mem_filter.mpr ⟨z, by simpa using q⟩
  have ll : (us ++ mv ++ ws).length = (ps0 ++ la ++ ks).length := by simp [l1, l2, l3]
  refine fill_zip (by rw [← c5, List.length_map]) (fun i n j e1 e2 => ?_) (fun n hn => ?_)
  · rw [sw, lookup_zip ll (inn n (List.mem_of_getElem? e1))]
    rw [← c5, List.getElem?_map, e1] at e2
    cases e2
    rfl
  · obtain ⟨v, e⟩ := lookup_some (n := n) (l := (ps0 ++ la ++ ks).zip (us ++ mv ++ ws)) (by rw [zip_fst ll]; exact inn n hn)
    exact ⟨v, by rw [sw, e]⟩
section
variable {P : Program} {w : World} {K : PySem.W.Frag} {mg : Str → Option Value} {base : Heap} {x qual : Str} {st : Stmt} {f C : Addr} {fd : FuncData} {F : FD}
/-- MkAt of a class whose __init__ has keyword-only defaults alone, by names that are compared once -/
theorem mk_at2 {b j : Nat} {ks ps : List Str} {idx : List Nat} {dm : List D} {ms : List (Str × V)} {D0 : Addr} {oc doc pm cdv ct : Value} {od an : Option Addr} {osl : Array (Option Value)} (ps0 ko la : List Str)
    (l : K.lookup f = some ⟨oc, od, .func (PySem.W.fnOf x qual (defArgs st) (defBody st) (defScope st) .none (.ref D0) doc pm an cdv ct), osl⟩) (c : PySem.W.codeIn K cdv qual = true) (kp : PySem.W.keepIn K (.ref f) = true)
    (M : Mk K C f) {cn : Str} (hC : mg cn = some (.ref C))
    (Fo : FnOk P w K mg base (L2.CX P w) b f (PySem.W.fnOf x qual (defArgs st) (defBody st) (defScope st) .none (.ref D0) doc pm an cdv ct) ps (spF K mg idx.length F))
    (hq : ∀ q ∈ ms, ∃ u, PySem.W.nsIn K D0 q.1 = some (some u) ∧ RelV q.2 u)
    (hidx : ∀ i ∈ idx, i < j + 1 + dm.length + ks.length) (hdm : ∀ m S, RepL K mg m S dm (ms.map (·.2)))
    (h1 : (defArgs st).posonlyargs = []) (h2 : (defArgs st).args.map (·.arg) = ps0) (h3 : (defArgs st).kwonlyargs.map (·.arg) = ko) (h4 : (defArgs st).vararg = none) (h5 : (defArgs st).kwarg = none) (h6 : ps0.length = j + 1) (h7 : ms.map (·.1) = la)
    (c0 : ps0 ++ ko = ps ∧ (ps0 ++ la ++ ks).Nodup ∧ ko.Nodup ∧ (∀ k ∈ ks, k ∈ ko) ∧ ko.filter (fun k => !ks.contains k) = la ∧ ps.map (fun n => (ps0 ++ la ++ ks).idxOf n) = idx) :
    MkAt P w K mg base cn b j ks idx dm F := by
  obtain ⟨mv, hlm, rk, hks⟩ := kwd_vals (ms := ms) hq
  obtain ⟨c1, c2, c3, c4, c5, c6⟩ := c0
  refine ⟨C, f, _, ps, fun us ws => perm idx (us ++ mv ++ ws), fun vs zs => perm idx (vs ++ ms.map (·.2) ++ zs), M, Fo, hC, ⟨fun s us ws X l1 l2 => BindsTo.of_looks fun M => binds_kw (D0 := D0) X ps0 ko ks la ps idx us ws mv h1 h2 h3 h4 h5 rfl rfl (by rw [h6]; exact l1) l2 (by rw [hlm, ← h7, List.length_map]) c1 c2 c3 c4 c5 c6 (by rw [← h7]; exact hks), fun r1 r2 => vals_perm ((r1.append rk).append r2) idx⟩, ⟨fun m S self v ds es vs zs h1 h2 r0 r1 r2 => ?_, fun self ds hl => ?_⟩⟩
  · unfold arrG
    rw [show (ds ++ es).take j = ds by rw [← h1, List.take_left], show (ds ++ es).drop j = es by rw [← h1, List.drop_left]]
    exact repL_perm (((RepL.cons r0 r1).append (hdm m S)).append r2) idx
  · unfold arrG
    refine len_perm fun i hi => ?_
    have := hidx i hi
    simp only [List.length_append, List.length_cons, List.length_take, List.length_drop]
    omega
end
end FK

/-! part: FKL -/
set_option maxRecDepth 100000
set_option maxHeartbeats 4000000
set_option linter.all false
namespace FK
open PySem PySem.Spec L2
/-! FKL: what is shared by the laws: loops, calls, cells drawn from the script. -/
noncomputable def cellsBody : SD := (sSeq (sAsg (eC (.int 0)) (gN 4))
  (sSeq (sIf (bT (e2 dLt (eVar 3) (eCall dLen (aCons (eVar 0) (aNil))))) (sAsg (eCall dInt (aCons (e2 dIdx (eVar 0) (eVar 3)) (aNil))) (gN 4)) (sNil))
  (sSeq (sIf (bT (e2 dLt (eVar 4) (eC (.int 0)))) (sAsg (e2 dSub (eC (.int 1)) (e2 dMul (eC (.int 2)) (eVar 4))) (gN 4)) (sNil))
  (sSeq (sIf (bOr (bT (e2 dGe (eVar 3) (eCall dLen (aCons (eVar 0) (aNil))))) (bT (e2 dLt (eVar 4) (eC (.int 1000000000))))) (sSeq (sIf (bT (e2 dGt (eCall dLen (aCons (eVar 0) (aNil))) (eC (.int 0)))) (sAsg (eCall dInt (aCons (e2 dIdx (eVar 0) (e2 dMod (eCall dInt (aCons (eVar 3) (aNil))) (eCall dLen (aCons (eVar 0) (aNil))))) (aNil))) (gN 4)) (sNil))
  (sSeq (sIf (bT (e2 dLt (eVar 4) (eC (.int 0)))) (sAsg (e2 dSub (eC (.int 1)) (e2 dMul (eC (.int 2)) (eVar 4))) (gN 4)) (sNil))
  (sSeq (sAsg (e2 dMod (eCall dInt (aCons (e2 dAdd (e2 dMul (e2 dAdd (e2 dAdd (eVar 4) (e2 dMul (eC (.int 131)) (eVar 3))) (eC (.int 7))) (eC (.int 48271))) (e2 dMul (e2 dMul (eVar 3) (eVar 3)) (eC (.int 69621)))) (aNil))) (eC (.int 1000000007))) (gN 4))
  (sAsg (e2 dMod (eCall dInt (aCons (e2 dMul (e2 dAdd (e2 dAdd (eVar 4) (e2 dMul (eC (.int 17)) (eVar 3))) (eC (.int 3))) (eC (.int 2862933555777941757))) (aNil))) (eC (.int 18446744073709551557))) (gN 4))))) (sNil))
  (sExpr (eMl dApp (eVar 2) (aCons (eVar 4) (aNil))))))))
theorem sz (n : Nat) : (n ≤ sizeLine) = (n ≤ 16777216) := by rw [sizeLine_eq]
theorem dOrd_one (c : Nat) (h : CH) : dOrd [.str ⟨#[c]⟩] h = .ok (.int c) h := rfl
theorem szl (n : Nat) : (n < sizeLine) = (n < 16777216) := by rw [sizeLine_eq]
theorem seq_eq {a b : SD} {ρ ρ1 : Env} {h h1 : CH} {r : RS} (e : a ρ h = .ok .nx ρ1 h1) (k : b ρ1 h1 = r) : sSeq a b ρ h = r := by
  unfold sSeq
  rw [e]
  exact k
theorem atI_in {ns : List Int} {k : Int} (h0 : 0 ≤ k) (h1 : k < ns.length) : ∃ v, atI (ns.map D.int) k = some (.int v) := by
  obtain ⟨j, rfl⟩ : ∃ j : Nat, k = (j : Int) := ⟨k.toNat, by omega⟩
  have hj : j < ns.length := by omega
  exact ⟨ns[j], L2.atI_nat (by rw [List.getElem?_map, List.getElem?_eq_getElem hj]; rfl)⟩
/-- an if that only stores an int at its end -/
theorem if_int {c : BD} {s : SD} {ρ : Env} {h : CH} {b : Bool} (e : c ρ h = .ok b h) {P : Env → CH → Prop} (h1 : b = true → ∃ ρ1 h1, s ρ h = .ok .nx ρ1 h1 ∧ P ρ1 h1) (h2 : b = false → P ρ h) : ∃ ρ1 h1, sIf c s sNil ρ h = .ok .nx ρ1 h1 ∧ P ρ1 h1 := by
  unfold sIf sB
  rw [e]
  cases b with
  | true => exact h1 rfl
  | false => exact ⟨ρ, h, rfl, h2 rfl⟩
abbrev cE (ns : List Int) (n k : Int) (x : Option D) : Env := [some (scrD ns), some (.int n), some (.ref 0), some (.int k), x]
theorem cells_turn (ns acc : List Int) (n k : Int) (x : Option D) (hl : ns.length ≤ 63) (h0 : 0 ≤ k) (hk : k < 1000) (ha : acc.length < 1000) :
    ∃ c, 0 ≤ c ∧ cellsBody (cE ns n k x) [.lst (acc.map .int)] = .ok .nx (cE ns n k (some (.int c))) [.lst ((acc ++ [c]).map .int)] := by
  unfold cellsBody
  have hs : sizeLine = 16777216 := sizeLine_eq
  have neg : ∀ c : Int, ∃ c2, 0 ≤ c2 ∧ (sIf (bT (e2 dLt (eVar 4) (eC (.int 0)))) (sAsg (e2 dSub (eC (.int 1)) (e2 dMul (eC (.int 2)) (eVar 4))) (gN 4)) (sNil)) (cE ns n k (some (.int c))) [.lst (acc.map .int)] = .ok .nx (cE ns n k (some (.int c2))) [.lst (acc.map .int)] := fun c => by
    by_cases hc : c < 0
    · refine ⟨1 - 2 * c, by omega, ?_⟩
      simp only [sSeq, sIf, sB, sE, sAsg, sRet, sRetN, sNil, sExpr, sBrk, sCnt, gN, gT, gsC, gsN, FK.e1, FK.e2, eC, eVar, eCall, aNil, aCons, M.bind, M.pure, eTup, eLst, eNew, eSl, oNone, oSome, bT, bNot, bAnd, bOr, eAnd, eOr, eNot, eIf, eCh, truth, eMs, eMl, dAdd, dSub, dMul, dFdiv, dMod, dLe, dLt, dGe, dGt, dEq, dNe, dIs, dIsnt, D.isNon, dIn, dNotIn, dIdx, dSl, dLen, dInt, dOrd_one, dMax2, dMin2, dTuple, dList, dListC, dApp, dNeg, vw, seq, lstOf, fnD, List.map_cons, List.map_nil, List.length_cons, List.length_nil, List.cons_append, List.nil_append, List.append_nil, List.replicate_succ, List.replicate_zero, List.getElem?_cons_zero, List.getElem?_cons_succ, List.set_cons_zero, List.set_cons_succ, Int.cast_ofNat_Int, Nat.reduceBEq, Int.reduceBEq, Nat.reduceAdd, Nat.reduceSub, Nat.reduceLT, Nat.reduceLeDiff, Nat.zero_add, Nat.add_zero, Nat.sub_zero, Nat.sub_self, ↓reduceIte, if_true, if_false, Bool.not_true, Bool.not_false, Bool.false_eq_true, Bool.true_eq_false, decide_true, decide_false, decide_not, true_and, and_true, and_self, true_or, or_true, not_true_eq_false, not_false_eq_true, ne_eq, reduceCtorEq, Int.reduceLT, Int.reduceLE, Int.reduceNeg, Int.reduceSub, Int.reduceAdd, Int.reduceMul, Int.reducePow, Int.reduceToNat, sz, D.dat, D.datL, D.dep, D.depL, szl, inb, List.any_cons, List.any_nil, Bool.true_and, Bool.false_and, Bool.and_true, Bool.and_false, Bool.or_false, Bool.false_or, Bool.true_or, Bool.or_true, Nat.max_self, Nat.max_zero, Nat.zero_max, Nat.min_self, Nat.zero_le, Nat.min_zero, Nat.zero_min, forL, forX, iR1, iR2, rng1, rng2, iE, itOf, sFor, bYes, decide_eq_true hc]
    · refine ⟨c, by omega, ?_⟩
      simp only [sSeq, sIf, sB, sE, sAsg, sRet, sRetN, sNil, sExpr, sBrk, sCnt, gN, gT, gsC, gsN, FK.e1, FK.e2, eC, eVar, eCall, aNil, aCons, M.bind, M.pure, eTup, eLst, eNew, eSl, oNone, oSome, bT, bNot, bAnd, bOr, eAnd, eOr, eNot, eIf, eCh, truth, eMs, eMl, dAdd, dSub, dMul, dFdiv, dMod, dLe, dLt, dGe, dGt, dEq, dNe, dIs, dIsnt, D.isNon, dIn, dNotIn, dIdx, dSl, dLen, dInt, dOrd_one, dMax2, dMin2, dTuple, dList, dListC, dApp, dNeg, vw, seq, lstOf, fnD, List.map_cons, List.map_nil, List.length_cons, List.length_nil, List.cons_append, List.nil_append, List.append_nil, List.replicate_succ, List.replicate_zero, List.getElem?_cons_zero, List.getElem?_cons_succ, List.set_cons_zero, List.set_cons_succ, Int.cast_ofNat_Int, Nat.reduceBEq, Int.reduceBEq, Nat.reduceAdd, Nat.reduceSub, Nat.reduceLT, Nat.reduceLeDiff, Nat.zero_add, Nat.add_zero, Nat.sub_zero, Nat.sub_self, ↓reduceIte, if_true, if_false, Bool.not_true, Bool.not_false, Bool.false_eq_true, Bool.true_eq_false, decide_true, decide_false, decide_not, true_and, and_true, and_self, true_or, or_true, not_true_eq_false, not_false_eq_true, ne_eq, reduceCtorEq, Int.reduceLT, Int.reduceLE, Int.reduceNeg, Int.reduceSub, Int.reduceAdd, Int.reduceMul, Int.reducePow, Int.reduceToNat, sz, D.dat, D.datL, D.dep, D.depL, szl, inb, List.any_cons, List.any_nil, Bool.true_and, Bool.false_and, Bool.and_true, Bool.and_false, Bool.or_false, Bool.false_or, Bool.true_or, Bool.or_true, Nat.max_self, Nat.max_zero, Nat.zero_max, Nat.min_self, Nat.zero_le, Nat.min_zero, Nat.zero_min, forL, forX, iR1, iR2, rng1, rng2, iE, itOf, sFor, bYes, decide_eq_false hc]
  obtain ⟨c1, e1⟩ : ∃ c1, (sIf (bT (e2 dLt (eVar 3) (eCall dLen (aCons (eVar 0) (aNil))))) (sAsg (eCall dInt (aCons (e2 dIdx (eVar 0) (eVar 3)) (aNil))) (gN 4)) (sNil)) (cE ns n k (some (.int 0))) [.lst (acc.map .int)] = .ok .nx (cE ns n k (some (.int c1))) [.lst (acc.map .int)] := by
    by_cases hc : k < ns.length
    · obtain ⟨v, hv⟩ := atI_in h0 hc
      refine ⟨v, ?_⟩
      simp only [sSeq, sIf, sB, sE, sAsg, sRet, sRetN, sNil, sExpr, sBrk, sCnt, gN, gT, gsC, gsN, FK.e1, FK.e2, eC, eVar, eCall, aNil, aCons, M.bind, M.pure, eTup, eLst, eNew, eSl, oNone, oSome, bT, bNot, bAnd, bOr, eAnd, eOr, eNot, eIf, eCh, truth, eMs, eMl, dAdd, dSub, dMul, dFdiv, dMod, dLe, dLt, dGe, dGt, dEq, dNe, dIs, dIsnt, D.isNon, dIn, dNotIn, dIdx, dSl, dLen, dInt, dOrd_one, dMax2, dMin2, dTuple, dList, dListC, dApp, dNeg, vw, seq, lstOf, fnD, List.map_cons, List.map_nil, List.length_cons, List.length_nil, List.cons_append, List.nil_append, List.append_nil, List.replicate_succ, List.replicate_zero, List.getElem?_cons_zero, List.getElem?_cons_succ, List.set_cons_zero, List.set_cons_succ, Int.cast_ofNat_Int, Nat.reduceBEq, Int.reduceBEq, Nat.reduceAdd, Nat.reduceSub, Nat.reduceLT, Nat.reduceLeDiff, Nat.zero_add, Nat.add_zero, Nat.sub_zero, Nat.sub_self, ↓reduceIte, if_true, if_false, Bool.not_true, Bool.not_false, Bool.false_eq_true, Bool.true_eq_false, decide_true, decide_false, decide_not, true_and, and_true, and_self, true_or, or_true, not_true_eq_false, not_false_eq_true, ne_eq, reduceCtorEq, Int.reduceLT, Int.reduceLE, Int.reduceNeg, Int.reduceSub, Int.reduceAdd, Int.reduceMul, Int.reducePow, Int.reduceToNat, sz, D.dat, D.datL, D.dep, D.depL, szl, inb, List.any_cons, List.any_nil, Bool.true_and, Bool.false_and, Bool.and_true, Bool.and_false, Bool.or_false, Bool.false_or, Bool.true_or, Bool.or_true, Nat.max_self, Nat.max_zero, Nat.zero_max, Nat.min_self, Nat.zero_le, Nat.min_zero, Nat.zero_min, forL, forX, iR1, iR2, rng1, rng2, iE, itOf, sFor, bYes, scrD, List.length_map, decide_eq_true hc, hv]
    · refine ⟨0, ?_⟩
      simp only [sSeq, sIf, sB, sE, sAsg, sRet, sRetN, sNil, sExpr, sBrk, sCnt, gN, gT, gsC, gsN, FK.e1, FK.e2, eC, eVar, eCall, aNil, aCons, M.bind, M.pure, eTup, eLst, eNew, eSl, oNone, oSome, bT, bNot, bAnd, bOr, eAnd, eOr, eNot, eIf, eCh, truth, eMs, eMl, dAdd, dSub, dMul, dFdiv, dMod, dLe, dLt, dGe, dGt, dEq, dNe, dIs, dIsnt, D.isNon, dIn, dNotIn, dIdx, dSl, dLen, dInt, dOrd_one, dMax2, dMin2, dTuple, dList, dListC, dApp, dNeg, vw, seq, lstOf, fnD, List.map_cons, List.map_nil, List.length_cons, List.length_nil, List.cons_append, List.nil_append, List.append_nil, List.replicate_succ, List.replicate_zero, List.getElem?_cons_zero, List.getElem?_cons_succ, List.set_cons_zero, List.set_cons_succ, Int.cast_ofNat_Int, Nat.reduceBEq, Int.reduceBEq, Nat.reduceAdd, Nat.reduceSub, Nat.reduceLT, Nat.reduceLeDiff, Nat.zero_add, Nat.add_zero, Nat.sub_zero, Nat.sub_self, ↓reduceIte, if_true, if_false, Bool.not_true, Bool.not_false, Bool.false_eq_true, Bool.true_eq_false, decide_true, decide_false, decide_not, true_and, and_true, and_self, true_or, or_true, not_true_eq_false, not_false_eq_true, ne_eq, reduceCtorEq, Int.reduceLT, Int.reduceLE, Int.reduceNeg, Int.reduceSub, Int.reduceAdd, Int.reduceMul, Int.reducePow, Int.reduceToNat, sz, D.dat, D.datL, D.dep, D.depL, szl, inb, List.any_cons, List.any_nil, Bool.true_and, Bool.false_and, Bool.and_true, Bool.and_false, Bool.or_false, Bool.false_or, Bool.true_or, Bool.or_true, Nat.max_self, Nat.max_zero, Nat.zero_max, Nat.min_self, Nat.zero_le, Nat.min_zero, Nat.zero_min, forL, forX, iR1, iR2, rng1, rng2, iE, itOf, sFor, bYes, scrD, List.length_map, decide_eq_false hc]
  obtain ⟨c2, h2, e2'⟩ := neg c1
  have last : ∀ c : Int, ∃ c4, 0 ≤ c4 ∧ (sSeq (sAsg (e2 dMod (eCall dInt (aCons (e2 dAdd (e2 dMul (e2 dAdd (e2 dAdd (eVar 4) (e2 dMul (eC (.int 131)) (eVar 3))) (eC (.int 7))) (eC (.int 48271))) (e2 dMul (e2 dMul (eVar 3) (eVar 3)) (eC (.int 69621)))) (aNil))) (eC (.int 1000000007))) (gN 4))
  (sAsg (e2 dMod (eCall dInt (aCons (e2 dMul (e2 dAdd (e2 dAdd (eVar 4) (e2 dMul (eC (.int 17)) (eVar 3))) (eC (.int 3))) (eC (.int 2862933555777941757))) (aNil))) (eC (.int 18446744073709551557))) (gN 4))) (cE ns n k (some (.int c))) [.lst (acc.map .int)] = .ok .nx (cE ns n k (some (.int c4))) [.lst (acc.map .int)] := fun c => by
    have hk2 : -18446744073709551616 < k ∧ k < 18446744073709551616 := by omega
    refine ⟨_, ?_, by simp only [sSeq, sIf, sB, sE, sAsg, sRet, sRetN, sNil, sExpr, sBrk, sCnt, gN, gT, gsC, gsN, FK.e1, FK.e2, eC, eVar, eCall, aNil, aCons, M.bind, M.pure, eTup, eLst, eNew, eSl, oNone, oSome, bT, bNot, bAnd, bOr, eAnd, eOr, eNot, eIf, eCh, truth, eMs, eMl, dAdd, dSub, dMul, dFdiv, dMod, dLe, dLt, dGe, dGt, dEq, dNe, dIs, dIsnt, D.isNon, dIn, dNotIn, dIdx, dSl, dLen, dInt, dOrd_one, dMax2, dMin2, dTuple, dList, dListC, dApp, dNeg, vw, seq, lstOf, fnD, List.map_cons, List.map_nil, List.length_cons, List.length_nil, List.cons_append, List.nil_append, List.append_nil, List.replicate_succ, List.replicate_zero, List.getElem?_cons_zero, List.getElem?_cons_succ, List.set_cons_zero, List.set_cons_succ, Int.cast_ofNat_Int, Nat.reduceBEq, Int.reduceBEq, Nat.reduceAdd, Nat.reduceSub, Nat.reduceLT, Nat.reduceLeDiff, Nat.zero_add, Nat.add_zero, Nat.sub_zero, Nat.sub_self, ↓reduceIte, if_true, if_false, Bool.not_true, Bool.not_false, Bool.false_eq_true, Bool.true_eq_false, decide_true, decide_false, decide_not, true_and, and_true, and_self, true_or, or_true, not_true_eq_false, not_false_eq_true, ne_eq, reduceCtorEq, Int.reduceLT, Int.reduceLE, Int.reduceNeg, Int.reduceSub, Int.reduceAdd, Int.reduceMul, Int.reducePow, Int.reduceToNat, sz, D.dat, D.datL, D.dep, D.depL, szl, inb, List.any_cons, List.any_nil, Bool.true_and, Bool.false_and, Bool.and_true, Bool.and_false, Bool.or_false, Bool.false_or, Bool.true_or, Bool.or_true, Nat.max_self, Nat.max_zero, Nat.zero_max, Nat.min_self, Nat.zero_le, Nat.min_zero, Nat.zero_min, forL, forX, iR1, iR2, rng1, rng2, iE, itOf, sFor, bYes, hk2.1, hk2.2]; rfl⟩
    omega
  obtain ⟨c4, h4, e4⟩ : ∃ c4, 0 ≤ c4 ∧ (sIf (bOr (bT (e2 dGe (eVar 3) (eCall dLen (aCons (eVar 0) (aNil))))) (bT (e2 dLt (eVar 4) (eC (.int 1000000000))))) (sSeq (sIf (bT (e2 dGt (eCall dLen (aCons (eVar 0) (aNil))) (eC (.int 0)))) (sAsg (eCall dInt (aCons (e2 dIdx (eVar 0) (e2 dMod (eCall dInt (aCons (eVar 3) (aNil))) (eCall dLen (aCons (eVar 0) (aNil))))) (aNil))) (gN 4)) (sNil))
  (sSeq (sIf (bT (e2 dLt (eVar 4) (eC (.int 0)))) (sAsg (e2 dSub (eC (.int 1)) (e2 dMul (eC (.int 2)) (eVar 4))) (gN 4)) (sNil))
  (sSeq (sAsg (e2 dMod (eCall dInt (aCons (e2 dAdd (e2 dMul (e2 dAdd (e2 dAdd (eVar 4) (e2 dMul (eC (.int 131)) (eVar 3))) (eC (.int 7))) (eC (.int 48271))) (e2 dMul (e2 dMul (eVar 3) (eVar 3)) (eC (.int 69621)))) (aNil))) (eC (.int 1000000007))) (gN 4))
  (sAsg (e2 dMod (eCall dInt (aCons (e2 dMul (e2 dAdd (e2 dAdd (eVar 4) (e2 dMul (eC (.int 17)) (eVar 3))) (eC (.int 3))) (eC (.int 2862933555777941757))) (aNil))) (eC (.int 18446744073709551557))) (gN 4))))) (sNil)) (cE ns n k (some (.int c2))) [.lst (acc.map .int)] = .ok .nx (cE ns n k (some (.int c4))) [.lst (acc.map .int)] := by
    obtain ⟨b, hb⟩ : ∃ b, (bOr (bT (e2 dGe (eVar 3) (eCall dLen (aCons (eVar 0) (aNil))))) (bT (e2 dLt (eVar 4) (eC (.int 1000000000))))) (cE ns n k (some (.int c2))) [.lst (acc.map .int)] = .ok b [.lst (acc.map .int)] := by
      by_cases hc : (ns.length : Int) ≤ k
      · exact ⟨true, by simp only [sSeq, sIf, sB, sE, sAsg, sRet, sRetN, sNil, sExpr, sBrk, sCnt, gN, gT, gsC, gsN, FK.e1, FK.e2, eC, eVar, eCall, aNil, aCons, M.bind, M.pure, eTup, eLst, eNew, eSl, oNone, oSome, bT, bNot, bAnd, bOr, eAnd, eOr, eNot, eIf, eCh, truth, eMs, eMl, dAdd, dSub, dMul, dFdiv, dMod, dLe, dLt, dGe, dGt, dEq, dNe, dIs, dIsnt, D.isNon, dIn, dNotIn, dIdx, dSl, dLen, dInt, dOrd_one, dMax2, dMin2, dTuple, dList, dListC, dApp, dNeg, vw, seq, lstOf, fnD, List.map_cons, List.map_nil, List.length_cons, List.length_nil, List.cons_append, List.nil_append, List.append_nil, List.replicate_succ, List.replicate_zero, List.getElem?_cons_zero, List.getElem?_cons_succ, List.set_cons_zero, List.set_cons_succ, Int.cast_ofNat_Int, Nat.reduceBEq, Int.reduceBEq, Nat.reduceAdd, Nat.reduceSub, Nat.reduceLT, Nat.reduceLeDiff, Nat.zero_add, Nat.add_zero, Nat.sub_zero, Nat.sub_self, ↓reduceIte, if_true, if_false, Bool.not_true, Bool.not_false, Bool.false_eq_true, Bool.true_eq_false, decide_true, decide_false, decide_not, true_and, and_true, and_self, true_or, or_true, not_true_eq_false, not_false_eq_true, ne_eq, reduceCtorEq, Int.reduceLT, Int.reduceLE, Int.reduceNeg, Int.reduceSub, Int.reduceAdd, Int.reduceMul, Int.reducePow, Int.reduceToNat, sz, D.dat, D.datL, D.dep, D.depL, szl, inb, List.any_cons, List.any_nil, Bool.true_and, Bool.false_and, Bool.and_true, Bool.and_false, Bool.or_false, Bool.false_or, Bool.true_or, Bool.or_true, Nat.max_self, Nat.max_zero, Nat.zero_max, Nat.min_self, Nat.zero_le, Nat.min_zero, Nat.zero_min, forL, forX, iR1, iR2, rng1, rng2, iE, itOf, sFor, bYes, scrD, List.length_map, decide_eq_true hc]⟩
      · exact ⟨decide (c2 < 1000000000), by simp only [sSeq, sIf, sB, sE, sAsg, sRet, sRetN, sNil, sExpr, sBrk, sCnt, gN, gT, gsC, gsN, FK.e1, FK.e2, eC, eVar, eCall, aNil, aCons, M.bind, M.pure, eTup, eLst, eNew, eSl, oNone, oSome, bT, bNot, bAnd, bOr, eAnd, eOr, eNot, eIf, eCh, truth, eMs, eMl, dAdd, dSub, dMul, dFdiv, dMod, dLe, dLt, dGe, dGt, dEq, dNe, dIs, dIsnt, D.isNon, dIn, dNotIn, dIdx, dSl, dLen, dInt, dOrd_one, dMax2, dMin2, dTuple, dList, dListC, dApp, dNeg, vw, seq, lstOf, fnD, List.map_cons, List.map_nil, List.length_cons, List.length_nil, List.cons_append, List.nil_append, List.append_nil, List.replicate_succ, List.replicate_zero, List.getElem?_cons_zero, List.getElem?_cons_succ, List.set_cons_zero, List.set_cons_succ, Int.cast_ofNat_Int, Nat.reduceBEq, Int.reduceBEq, Nat.reduceAdd, Nat.reduceSub, Nat.reduceLT, Nat.reduceLeDiff, Nat.zero_add, Nat.add_zero, Nat.sub_zero, Nat.sub_self, ↓reduceIte, if_true, if_false, Bool.not_true, Bool.not_false, Bool.false_eq_true, Bool.true_eq_false, decide_true, decide_false, decide_not, true_and, and_true, and_self, true_or, or_true, not_true_eq_false, not_false_eq_true, ne_eq, reduceCtorEq, Int.reduceLT, Int.reduceLE, Int.reduceNeg, Int.reduceSub, Int.reduceAdd, Int.reduceMul, Int.reducePow, Int.reduceToNat, sz, D.dat, D.datL, D.dep, D.depL, szl, inb, List.any_cons, List.any_nil, Bool.true_and, Bool.false_and, Bool.and_true, Bool.and_false, Bool.or_false, Bool.false_or, Bool.true_or, Bool.or_true, Nat.max_self, Nat.max_zero, Nat.zero_max, Nat.min_self, Nat.zero_le, Nat.min_zero, Nat.zero_min, forL, forX, iR1, iR2, rng1, rng2, iE, itOf, sFor, bYes, scrD, List.length_map, decide_eq_false hc]⟩
    cases b with
    | false =>
      refine ⟨c2, h2, ?_⟩
      unfold sIf sB
      rw [hb]
      rfl
    | true =>
      unfold sIf sB
      rw [hb]
      show ∃ c4, 0 ≤ c4 ∧ sSeq _ _ _ _ = _
      obtain ⟨c3, e3⟩ : ∃ c3, (sIf (bT (e2 dGt (eCall dLen (aCons (eVar 0) (aNil))) (eC (.int 0)))) (sAsg (eCall dInt (aCons (e2 dIdx (eVar 0) (e2 dMod (eCall dInt (aCons (eVar 3) (aNil))) (eCall dLen (aCons (eVar 0) (aNil))))) (aNil))) (gN 4)) (sNil)) (cE ns n k (some (.int c2))) [.lst (acc.map .int)] = .ok .nx (cE ns n k (some (.int c3))) [.lst (acc.map .int)] := by
        by_cases hc : (0 : Int) < ns.length
        · obtain ⟨v, hv⟩ := atI_in (ns := ns) (k := k % ns.length) (Int.emod_nonneg _ (by omega)) (Int.emod_lt_of_pos _ hc)
          refine ⟨v, ?_⟩
          simp only [sSeq, sIf, sB, sE, sAsg, sRet, sRetN, sNil, sExpr, sBrk, sCnt, gN, gT, gsC, gsN, FK.e1, FK.e2, eC, eVar, eCall, aNil, aCons, M.bind, M.pure, eTup, eLst, eNew, eSl, oNone, oSome, bT, bNot, bAnd, bOr, eAnd, eOr, eNot, eIf, eCh, truth, eMs, eMl, dAdd, dSub, dMul, dFdiv, dMod, dLe, dLt, dGe, dGt, dEq, dNe, dIs, dIsnt, D.isNon, dIn, dNotIn, dIdx, dSl, dLen, dInt, dOrd_one, dMax2, dMin2, dTuple, dList, dListC, dApp, dNeg, vw, seq, lstOf, fnD, List.map_cons, List.map_nil, List.length_cons, List.length_nil, List.cons_append, List.nil_append, List.append_nil, List.replicate_succ, List.replicate_zero, List.getElem?_cons_zero, List.getElem?_cons_succ, List.set_cons_zero, List.set_cons_succ, Int.cast_ofNat_Int, Nat.reduceBEq, Int.reduceBEq, Nat.reduceAdd, Nat.reduceSub, Nat.reduceLT, Nat.reduceLeDiff, Nat.zero_add, Nat.add_zero, Nat.sub_zero, Nat.sub_self, ↓reduceIte, if_true, if_false, Bool.not_true, Bool.not_false, Bool.false_eq_true, Bool.true_eq_false, decide_true, decide_false, decide_not, true_and, and_true, and_self, true_or, or_true, not_true_eq_false, not_false_eq_true, ne_eq, reduceCtorEq, Int.reduceLT, Int.reduceLE, Int.reduceNeg, Int.reduceSub, Int.reduceAdd, Int.reduceMul, Int.reducePow, Int.reduceToNat, sz, D.dat, D.datL, D.dep, D.depL, szl, inb, List.any_cons, List.any_nil, Bool.true_and, Bool.false_and, Bool.and_true, Bool.and_false, Bool.or_false, Bool.false_or, Bool.true_or, Bool.or_true, Nat.max_self, Nat.max_zero, Nat.zero_max, Nat.min_self, Nat.zero_le, Nat.min_zero, Nat.zero_min, forL, forX, iR1, iR2, rng1, rng2, iE, itOf, sFor, bYes, scrD, List.length_map, decide_eq_true hc, if_pos hc, hv]
        · refine ⟨c2, ?_⟩
          simp only [sSeq, sIf, sB, sE, sAsg, sRet, sRetN, sNil, sExpr, sBrk, sCnt, gN, gT, gsC, gsN, FK.e1, FK.e2, eC, eVar, eCall, aNil, aCons, M.bind, M.pure, eTup, eLst, eNew, eSl, oNone, oSome, bT, bNot, bAnd, bOr, eAnd, eOr, eNot, eIf, eCh, truth, eMs, eMl, dAdd, dSub, dMul, dFdiv, dMod, dLe, dLt, dGe, dGt, dEq, dNe, dIs, dIsnt, D.isNon, dIn, dNotIn, dIdx, dSl, dLen, dInt, dOrd_one, dMax2, dMin2, dTuple, dList, dListC, dApp, dNeg, vw, seq, lstOf, fnD, List.map_cons, List.map_nil, List.length_cons, List.length_nil, List.cons_append, List.nil_append, List.append_nil, List.replicate_succ, List.replicate_zero, List.getElem?_cons_zero, List.getElem?_cons_succ, List.set_cons_zero, List.set_cons_succ, Int.cast_ofNat_Int, Nat.reduceBEq, Int.reduceBEq, Nat.reduceAdd, Nat.reduceSub, Nat.reduceLT, Nat.reduceLeDiff, Nat.zero_add, Nat.add_zero, Nat.sub_zero, Nat.sub_self, ↓reduceIte, if_true, if_false, Bool.not_true, Bool.not_false, Bool.false_eq_true, Bool.true_eq_false, decide_true, decide_false, decide_not, true_and, and_true, and_self, true_or, or_true, not_true_eq_false, not_false_eq_true, ne_eq, reduceCtorEq, Int.reduceLT, Int.reduceLE, Int.reduceNeg, Int.reduceSub, Int.reduceAdd, Int.reduceMul, Int.reducePow, Int.reduceToNat, sz, D.dat, D.datL, D.dep, D.depL, szl, inb, List.any_cons, List.any_nil, Bool.true_and, Bool.false_and, Bool.and_true, Bool.and_false, Bool.or_false, Bool.false_or, Bool.true_or, Bool.or_true, Nat.max_self, Nat.max_zero, Nat.zero_max, Nat.min_self, Nat.zero_le, Nat.min_zero, Nat.zero_min, forL, forX, iR1, iR2, rng1, rng2, iE, itOf, sFor, bYes, scrD, List.length_map, decide_eq_false hc]
      obtain ⟨c5, h5, e5⟩ := neg c3
      obtain ⟨c6, h6, e6⟩ := last c5
      exact ⟨c6, h6, seq_eq e3 (seq_eq e5 e6)⟩
  refine ⟨c4, h4, seq_eq (ρ1 := cE ns n k (some (.int 0))) (h1 := [.lst (acc.map .int)]) (by simp only [sSeq, sIf, sB, sE, sAsg, sRet, sRetN, sNil, sExpr, sBrk, sCnt, gN, gT, gsC, gsN, FK.e1, FK.e2, eC, eVar, eCall, aNil, aCons, M.bind, M.pure, eTup, eLst, eNew, eSl, oNone, oSome, bT, bNot, bAnd, bOr, eAnd, eOr, eNot, eIf, eCh, truth, eMs, eMl, dAdd, dSub, dMul, dFdiv, dMod, dLe, dLt, dGe, dGt, dEq, dNe, dIs, dIsnt, D.isNon, dIn, dNotIn, dIdx, dSl, dLen, dInt, dOrd_one, dMax2, dMin2, dTuple, dList, dListC, dApp, dNeg, vw, seq, lstOf, fnD, List.map_cons, List.map_nil, List.length_cons, List.length_nil, List.cons_append, List.nil_append, List.append_nil, List.replicate_succ, List.replicate_zero, List.getElem?_cons_zero, List.getElem?_cons_succ, List.set_cons_zero, List.set_cons_succ, Int.cast_ofNat_Int, Nat.reduceBEq, Int.reduceBEq, Nat.reduceAdd, Nat.reduceSub, Nat.reduceLT, Nat.reduceLeDiff, Nat.zero_add, Nat.add_zero, Nat.sub_zero, Nat.sub_self, ↓reduceIte, if_true, if_false, Bool.not_true, Bool.not_false, Bool.false_eq_true, Bool.true_eq_false, decide_true, decide_false, decide_not, true_and, and_true, and_self, true_or, or_true, not_true_eq_false, not_false_eq_true, ne_eq, reduceCtorEq, Int.reduceLT, Int.reduceLE, Int.reduceNeg, Int.reduceSub, Int.reduceAdd, Int.reduceMul, Int.reducePow, Int.reduceToNat, sz, D.dat, D.datL, D.dep, D.depL, szl, inb, List.any_cons, List.any_nil, Bool.true_and, Bool.false_and, Bool.and_true, Bool.and_false, Bool.or_false, Bool.false_or, Bool.true_or, Bool.or_true, Nat.max_self, Nat.max_zero, Nat.zero_max, Nat.min_self, Nat.zero_le, Nat.min_zero, Nat.zero_min, forL, forX, iR1, iR2, rng1, rng2, iE, itOf, sFor, bYes]) (seq_eq e1 (seq_eq e2' (seq_eq e4 ?_)))⟩
  have hz : acc.length < 16777216 := by omega
  simp only [sSeq, sIf, sB, sE, sAsg, sRet, sRetN, sNil, sExpr, sBrk, sCnt, gN, gT, gsC, gsN, FK.e1, FK.e2, eC, eVar, eCall, aNil, aCons, M.bind, M.pure, eTup, eLst, eNew, eSl, oNone, oSome, bT, bNot, bAnd, bOr, eAnd, eOr, eNot, eIf, eCh, truth, eMs, eMl, dAdd, dSub, dMul, dFdiv, dMod, dLe, dLt, dGe, dGt, dEq, dNe, dIs, dIsnt, D.isNon, dIn, dNotIn, dIdx, dSl, dLen, dInt, dOrd_one, dMax2, dMin2, dTuple, dList, dListC, dApp, dNeg, vw, seq, lstOf, fnD, List.map_cons, List.map_nil, List.length_cons, List.length_nil, List.cons_append, List.nil_append, List.append_nil, List.replicate_succ, List.replicate_zero, List.getElem?_cons_zero, List.getElem?_cons_succ, List.set_cons_zero, List.set_cons_succ, Int.cast_ofNat_Int, Nat.reduceBEq, Int.reduceBEq, Nat.reduceAdd, Nat.reduceSub, Nat.reduceLT, Nat.reduceLeDiff, Nat.zero_add, Nat.add_zero, Nat.sub_zero, Nat.sub_self, ↓reduceIte, if_true, if_false, Bool.not_true, Bool.not_false, Bool.false_eq_true, Bool.true_eq_false, decide_true, decide_false, decide_not, true_and, and_true, and_self, true_or, or_true, not_true_eq_false, not_false_eq_true, ne_eq, reduceCtorEq, Int.reduceLT, Int.reduceLE, Int.reduceNeg, Int.reduceSub, Int.reduceAdd, Int.reduceMul, Int.reducePow, Int.reduceToNat, sz, D.dat, D.datL, D.dep, D.depL, szl, inb, List.any_cons, List.any_nil, Bool.true_and, Bool.false_and, Bool.and_true, Bool.and_false, Bool.or_false, Bool.false_or, Bool.true_or, Bool.or_true, Nat.max_self, Nat.max_zero, Nat.zero_max, Nat.min_self, Nat.zero_le, Nat.min_zero, Nat.zero_min, forL, forX, iR1, iR2, rng1, rng2, iE, itOf, sFor, bYes, List.length_map, if_pos hz, List.map_append]
theorem getElem?_rangeD {lo hi : Int} {i : Nat} {d : D} (e : (rangeD lo hi)[i]? = some d) : d = .int (lo + i) ∧ (i : Int) < hi - lo := by
  unfold rangeD at e
  rw [List.getElem?_map] at e
  cases q : (List.range (hi - lo).toNat)[i]? with
  | none => rw [q] at e; cases e
  | some k =>
    rw [q] at e
    obtain ⟨h1, h2⟩ := List.getElem?_eq_some_iff.mp q
    simp at h1 h2
    subst h2
    cases e
    exact ⟨rfl, by omega⟩
theorem length_rangeD (lo hi : Int) : (rangeD lo hi).length = (hi - lo).toNat := by unfold rangeD; simp
/-- a for, by what holds between two turns -/
theorem forL_post {g : GD} {body : SD} (I : Nat → Env → CH → Prop) (P : RS → Prop) : ∀ (ds : List D) (k : Nat), (∀ i d ρ h, ds[i]? = some d → I (k + i) ρ h → ∃ ρ1, g d ρ = some ρ1 ∧
      (match body ρ1 h with | .ok .nx ρ2 h2 => I (k + i + 1) ρ2 h2 | .ok .ct ρ2 h2 => I (k + i + 1) ρ2 h2 | .ok .bk ρ2 h2 => P (.ok .nx ρ2 h2) | r => P r)) →
    (∀ ρ h, I (k + ds.length) ρ h → P (.ok .nx ρ h)) → ∀ ρ h, I k ρ h → P (forL g body ds ρ h)
  | [], k, _, done, ρ, h, hi => done ρ h (by simpa using hi)
  | d :: ds, k, step, done, ρ, h, hi => by
    obtain ⟨ρ1, e1, q⟩ := step 0 d ρ h rfl (by simpa using hi)
    have ih := forL_post (g := g) (body := body) I P ds (k + 1) (fun i d' ρ h e q => by
      have := step (i + 1) d' ρ h (by simpa using e) (by rw [show k + (i + 1) = k + 1 + i by omega]; exact q)
      rw [show k + (i + 1) + 1 = k + 1 + i + 1 by omega] at this
      exact this) (fun ρ h q => done ρ h (by rw [List.length_cons, show k + (ds.length + 1) = k + 1 + ds.length by omega]; exact q))
    unfold forL
    rw [e1]
    dsimp only
    cases eb : body ρ1 h with
    | ok f ρ2 h2 =>
      rw [eb] at q
      cases f with
      | nx => exact ih ρ2 h2 q
      | ct => exact ih ρ2 h2 q
      | bk => exact q
      | rt d => exact q
    | exc c ρ2 h2 => rw [eb] at q; exact q
    | bad => rw [eb] at q; exact q
/-- .. every turn goes on -/
theorem forL_nx {g : GD} {body : SD} (I : Nat → Env → CH → Prop) (ds : List D) (step : ∀ i d ρ h, ds[i]? = some d → I i ρ h → ∃ ρ1, g d ρ = some ρ1 ∧ ∃ ρ2 h2, body ρ1 h = .ok .nx ρ2 h2 ∧ I (i + 1) ρ2 h2) {ρ : Env} {h : CH} (h0 : I 0 ρ h) :
    ∃ ρ' h', forL g body ds ρ h = .ok .nx ρ' h' ∧ I ds.length ρ' h' := by
  refine forL_post (g := g) (body := body) I (fun r => ∃ ρ' h', r = .ok .nx ρ' h' ∧ I ds.length ρ' h') ds 0 (fun i d ρ h e q => ?_) (fun ρ h q => ⟨ρ, h, rfl, by simpa using q⟩) ρ h h0
  rw [Nat.zero_add] at q ⊢
  obtain ⟨ρ1, e1, ρ2, h2, e2, q2⟩ := step i d ρ h e q
  refine ⟨ρ1, e1, ?_⟩
  rw [e2]
  exact q2
theorem mapO_id {f : D → Option D} : ∀ {xs : List D}, (∀ x ∈ xs, f x = some x) → mapO f xs = some xs
  | [], _ => rfl
  | x :: xs, h => by
    unfold mapO
    rw [h x List.mem_cons_self, mapO_id fun y hy => h y (List.mem_cons_of_mem _ hy)]
theorem nrL_iff : ∀ {xs : List D}, D.nrL xs = true ↔ ∀ x ∈ xs, x.nr = true
  | [] => by simp [D.nrL]
  | x :: xs => by simp [D.nrL, nrL_iff (xs := xs)]
theorem fzF_nr {n : Nat} {h : CH} {d : D} (e : d.nr = true) : fzF (n + 1) h d = some d := by unfold fzF; rw [if_pos e]
theorem fz_nr {h : CH} {d : D} (e : d.nr = true) : fz h d = some d := fzF_nr e
theorem fz_ref {h : CH} {k : Nat} {xs : List D} (e : h[k]? = some (.lst xs)) (n : D.nrL xs = true) : fz h (.ref k) = some (.lst xs) := by
  unfold fz fzF
  rw [if_neg (by simp [D.nr])]
  dsimp only
  rw [e]
  dsimp only
  rw [mapO_id fun x hx => fzF_nr (nrL_iff.mp n x hx)]
  rfl
/-- a call whose callee has cells of its own -/
theorem callP_ok {n : Nat} {F : FD} {ds : List D} {h h' : CH} {d d' : D} (hn : D.nrL ds = true) (e : F ds [] = .ok d h') (ef : fz h' d = some d') (hl : ds.length = n := by rfl) : callP n F ds h = .ok d' h := by
  unfold callP
  rw [if_pos hl, if_pos hn, e]
  dsimp only
  rw [ef]
theorem nrL_ints : ∀ ns : List Int, D.nrL (ns.map D.int) = true
  | [] => rfl
  | n :: ns => nrL_ints ns
theorem nr_scr (ns : List Int) : (scrD ns).nr = true := nrL_ints ns
theorem eNew_nil (ρ : Env) (h : CH) : eNew aNil ρ h = .ok (.ref h.length) (h ++ [.lst []]) := if_pos (e := R.bad) (Nat.zero_le sizeLine)
theorem fnD_rt {N : Nat} {body : SD} {ds : List D} {h h' : CH} {ρ ρ' : Env} {d : D} (e : body ρ h = .ok (.rt d) ρ' h') (he : ds.map some ++ List.replicate (N - ds.length) none = ρ := by rfl) : fnD N body ds h = .ok d h' := by
  subst he
  unfold fnD
  rw [e]
theorem fnD_nx {N : Nat} {body : SD} {ds : List D} {h h' : CH} {ρ ρ' : Env} (e : body ρ h = .ok .nx ρ' h') (he : ds.map some ++ List.replicate (N - ds.length) none = ρ := by rfl) : fnD N body ds h = .ok .non h' := by
  subst he
  unfold fnD
  rw [e]
/-- the cells that are drawn from the script -/
noncomputable def cellsB : SD := sSeq (sAsg (eNew (aNil)) (gN 2)) (sSeq (sFor (iR1 (aCons (eVar 1) (aNil))) (gN 3) cellsBody) (sRet (eVar 2)))
theorem cells_ok (ns : List Int) (n : Nat) (hl : ns.length ≤ 63) (hn : n < 1000) (h : CH) : ∃ cs : List Int, cs.length = n ∧ (∀ c ∈ cs, 0 ≤ c) ∧ callP 2 (fnD 5 cellsB) [scrD ns, .int n] h = .ok (.lst (cs.map .int)) h := by
  have hs : sizeLine = 16777216 := sizeLine_eq
  obtain ⟨ρ', h', e, x, y, cs, hc, hp, rfl, rfl⟩ := forL_nx (g := gN 3) (body := cellsBody) (fun i ρ h => ∃ x y, ∃ cs : List Int, cs.length = i ∧ (∀ c ∈ cs, 0 ≤ c) ∧ ρ = [some (scrD ns), some (.int n), some (.ref 0), x, y] ∧ h = [.lst (cs.map .int)]) (rangeD 0 n)
    (fun i d ρ h e ⟨x, y, cs, hc, hp, e1, e2⟩ => by
      obtain ⟨rfl, hi⟩ := getElem?_rangeD e
      subst e1 e2
      refine ⟨_, rfl, ?_⟩
      obtain ⟨c, h0, q⟩ := cells_turn ns cs n (0 + i) y hl (by omega) (by omega) (by omega)
      refine ⟨_, _, q, _, _, cs ++ [c], by simp [hc], fun c' hm => ?_, rfl, rfl⟩
      rcases List.mem_append.mp hm with z | z
      · exact hp c' z
      · rw [List.mem_singleton.mp z]; exact h0) (ρ := [some (scrD ns), some (.int n), some (.ref 0), none, none]) (h := [.lst []]) ⟨none, none, [], rfl, by simp, rfl, rfl⟩
  refine ⟨cs, by rw [hc, length_rangeD]; omega, hp, callP_ok (h' := [.lst (cs.map .int)]) (d := .ref 0) ?_ ?_ (fz_ref rfl (nrL_ints cs))⟩
  · show (D.nr (scrD ns) && true) = true
    rw [nr_scr]; rfl
  · have hr : inR (n : Int) := ⟨by omega, by omega⟩
    refine fnD_rt (ρ' := [some (scrD ns), some (.int n), some (.ref 0), x, y]) ?_
    unfold cellsB
    exact seq_eq (ρ1 := [some (scrD ns), some (.int n), some (.ref 0), none, none]) (h1 := [.lst []]) (by simp only [sSeq, sIf, sB, sE, sAsg, sRet, sRetN, sNil, sExpr, sBrk, sCnt, gN, gT, gsC, gsN, FK.e1, FK.e2, eC, eVar, eCall, aNil, aCons, M.bind, M.pure, eTup, eLst, eSl, oNone, oSome, bT, bNot, bAnd, bOr, eAnd, eOr, eNot, eIf, eCh, truth, eMs, eMl, dAdd, dSub, dMul, dFdiv, dMod, dLe, dLt, dGe, dGt, dEq, dNe, dIs, dIsnt, D.isNon, dIn, dNotIn, dIdx, dSl, dLen, dInt, dOrd_one, dMax2, dMin2, dTuple, dList, dListC, dApp, dNeg, vw, seq, lstOf, fnD, List.map_cons, List.map_nil, List.length_cons, List.length_nil, List.cons_append, List.nil_append, List.append_nil, List.replicate_succ, List.replicate_zero, List.getElem?_cons_zero, List.getElem?_cons_succ, List.set_cons_zero, List.set_cons_succ, Int.cast_ofNat_Int, Nat.reduceBEq, Int.reduceBEq, Nat.reduceAdd, Nat.reduceSub, Nat.reduceLT, Nat.reduceLeDiff, Nat.zero_add, Nat.add_zero, Nat.sub_zero, Nat.sub_self, ↓reduceIte, if_true, if_false, Bool.not_true, Bool.not_false, Bool.false_eq_true, Bool.true_eq_false, decide_true, decide_false, decide_not, true_and, and_true, and_self, true_or, or_true, not_true_eq_false, not_false_eq_true, ne_eq, reduceCtorEq, Int.reduceLT, Int.reduceLE, Int.reduceNeg, Int.reduceSub, Int.reduceAdd, Int.reduceMul, Int.reducePow, Int.reduceToNat, sz, D.dat, D.datL, D.dep, D.depL, szl, inb, List.any_cons, List.any_nil, Bool.true_and, Bool.false_and, Bool.and_true, Bool.and_false, Bool.or_false, Bool.false_or, Bool.true_or, Bool.or_true, Nat.max_self, Nat.max_zero, Nat.zero_max, Nat.min_self, Nat.zero_le, Nat.min_zero, Nat.zero_min, forL, forX, iR1, iR2, rng1, rng2, iE, itOf, sFor, bYes, eNew_nil]) (seq_eq (ρ1 := [some (scrD ns), some (.int n), some (.ref 0), x, y]) (h1 := [.lst (cs.map .int)]) (by simp only [sSeq, sIf, sB, sE, sAsg, sRet, sRetN, sNil, sExpr, sBrk, sCnt, gN, gT, gsC, gsN, FK.e1, FK.e2, eC, eVar, eCall, aNil, aCons, M.bind, M.pure, eTup, eLst, eNew, eSl, oNone, oSome, bT, bNot, bAnd, bOr, eAnd, eOr, eNot, eIf, eCh, truth, eMs, eMl, dAdd, dSub, dMul, dFdiv, dMod, dLe, dLt, dGe, dGt, dEq, dNe, dIs, dIsnt, D.isNon, dIn, dNotIn, dIdx, dSl, dLen, dInt, dOrd_one, dMax2, dMin2, dTuple, dList, dListC, dApp, dNeg, vw, seq, lstOf, fnD, List.map_cons, List.map_nil, List.length_cons, List.length_nil, List.cons_append, List.nil_append, List.append_nil, List.replicate_succ, List.replicate_zero, List.getElem?_cons_zero, List.getElem?_cons_succ, List.set_cons_zero, List.set_cons_succ, Int.cast_ofNat_Int, Nat.reduceBEq, Int.reduceBEq, Nat.reduceAdd, Nat.reduceSub, Nat.reduceLT, Nat.reduceLeDiff, Nat.zero_add, Nat.add_zero, Nat.sub_zero, Nat.sub_self, ↓reduceIte, if_true, if_false, Bool.not_true, Bool.not_false, Bool.false_eq_true, Bool.true_eq_false, decide_true, decide_false, decide_not, true_and, and_true, and_self, true_or, or_true, not_true_eq_false, not_false_eq_true, ne_eq, reduceCtorEq, Int.reduceLT, Int.reduceLE, Int.reduceNeg, Int.reduceSub, Int.reduceAdd, Int.reduceMul, Int.reducePow, Int.reduceToNat, sz, D.dat, D.datL, D.dep, D.depL, szl, inb, List.any_cons, List.any_nil, Bool.true_and, Bool.false_and, Bool.and_true, Bool.and_false, Bool.or_false, Bool.false_or, Bool.true_or, Bool.or_true, Nat.max_self, Nat.max_zero, Nat.zero_max, Nat.min_self, Nat.zero_le, Nat.min_zero, Nat.zero_min, forL, forX, iR1, iR2, rng1, rng2, iE, itOf, sFor, bYes, if_pos hr, e]) rfl)
/-- an end that is a next or a return -/
def Good (r : RS) (N : Env → CH → Prop) (T : D → CH → Prop) : Prop :=
  match r with
  | .ok .nx ρ h => N ρ h
  | .ok (.rt d) _ h => T d h
  | _ => False
theorem Good.seq {a b : SD} {ρ : Env} {h : CH} {N : Env → CH → Prop} {T : D → CH → Prop} (p : Good (a ρ h) (fun ρ1 h1 => Good (b ρ1 h1) N T) T) : Good (sSeq a b ρ h) N T := by
  unfold sSeq
  cases e : a ρ h with
  | ok f ρ1 h1 =>
    rw [e] at p
    cases f with
    | nx => exact p
    | rt d => exact p
    | _ => exact p.elim
  | _ => rw [e] at p; exact p.elim
theorem Good.ite {c : BD} {s t : SD} {ρ : Env} {h h1 : CH} {N : Env → CH → Prop} {T : D → CH → Prop} (b : Bool) (e : c ρ h = .ok b h1) (p : b = true → Good (s ρ h1) N T) (q : b = false → Good (t ρ h1) N T) : Good (sIf c s t ρ h) N T := by
  unfold sIf sB
  rw [e]
  cases b with
  | true => exact p rfl
  | false => exact q rfl
theorem Good.ifT {c : BD} {s t : SD} {ρ : Env} {h : CH} {N : Env → CH → Prop} {T : D → CH → Prop} (h1 : CH) (e : c ρ h = .ok true h1) (p : Good (s ρ h1) N T) : Good (sIf c s t ρ h) N T := Good.ite true e (fun _ => p) (fun q => nomatch q)
theorem Good.ifF {c : BD} {s t : SD} {ρ : Env} {h : CH} {N : Env → CH → Prop} {T : D → CH → Prop} (h1 : CH) (e : c ρ h = .ok false h1) (p : Good (t ρ h1) N T) : Good (sIf c s t ρ h) N T := Good.ite false e (fun q => nomatch q) (fun _ => p)
theorem Good.nx {r : RS} {N : Env → CH → Prop} {T : D → CH → Prop} {ρ : Env} {h : CH} (e : r = .ok .nx ρ h) (n : N ρ h) : Good r N T := by rw [e]; exact n
theorem Good.rt {r : RS} {N : Env → CH → Prop} {T : D → CH → Prop} {d : D} {ρ : Env} {h : CH} (e : r = .ok (.rt d) ρ h) (n : T d h) : Good r N T := by rw [e]; exact n
theorem Good.cut {r : RS} {N' N : Env → CH → Prop} {T : D → CH → Prop} (p : Good r N' T) (q : ∀ ρ h, N' ρ h → N ρ h) : Good r N T := by
  cases r with
  | ok f ρ h =>
    cases f with
    | nx => exact q _ _ p
    | _ => exact p
  | _ => exact p
theorem Good.fn {body : SD} {T : D → CH → Prop} {N : Nat} {ds : List D} {h : CH} {ρ : Env} (p : Good (body ρ h) (fun _ h' => T .non h') T) (he : ds.map some ++ List.replicate (N - ds.length) none = ρ := by rfl) : ∃ d h', fnD N body ds h = .ok d h' ∧ T d h' := by
  subst he
  unfold fnD
  cases e : body (ds.map some ++ List.replicate (N - ds.length) none) h with
  | ok f ρ1 h1 =>
    rw [e] at p
    cases f with
    | nx => exact ⟨_, _, rfl, p⟩
    | rt d => exact ⟨_, _, rfl, p⟩
    | _ => exact p.elim
  | _ => rw [e] at p; exact p.elim
theorem Good.forL {g : GD} {body : SD} {N : Env → CH → Prop} {T : D → CH → Prop} (I : Nat → Env → CH → Prop) (ds : List D) {ρ : Env} {h : CH} (h0 : I 0 ρ h)
    (step : ∀ i d ρ h, ds[i]? = some d → I i ρ h → ∃ ρ1, g d ρ = some ρ1 ∧ Good (body ρ1 h) (I (i + 1)) T) (done : ∀ ρ h, I ds.length ρ h → N ρ h) : Good (forL g body ds ρ h) N T := by
  refine forL_post (g := g) (body := body) I (fun r => Good r N T) ds 0 (fun i d ρ h e q => ?_) (fun ρ h q => done ρ h (by simpa using q)) ρ h h0
  rw [Nat.zero_add] at q
  rw [Nat.zero_add]
  obtain ⟨ρ1, e1, q2⟩ := step i d ρ h e q
  refine ⟨ρ1, e1, ?_⟩
  cases eb : body ρ1 h with
  | ok f ρ2 h2 =>
    rw [eb] at q2
    cases f with
    | nx => exact q2
    | rt d => exact q2
    | _ => exact q2.elim
  | _ => rw [eb] at q2; exact q2.elim
theorem Good.sFor {it : ITD} {g : GD} {body : SD} {ds : List D} {ρ : Env} {h h1 : CH} {N : Env → CH → Prop} {T : D → CH → Prop} (e : it ρ h = .ok (ds, none) h1) (p : Good (FK.forL g body ds ρ h1) N T) : Good (FK.sFor it g body ρ h) N T := by
  unfold FK.sFor
  rw [e]
  exact p
theorem chars_get {x : Str} {i : Nat} {d : D} (e : (chars x)[i]? = some d) : ∃ c, x.cps.toList[i]? = some c ∧ d = .str ⟨#[c]⟩ := by
  unfold chars at e
  rw [List.getElem?_map] at e
  cases q : x.cps.toList[i]? with
  | none => rw [q] at e; cases e
  | some c => rw [q] at e; cases e; exact ⟨c, rfl, rfl⟩
theorem atI_mem {α : Type} {xs : List α} {k : Int} (h0 : 0 ≤ k) (h1 : k < xs.length) : ∃ v, atI xs k = some v ∧ v ∈ xs := by
  obtain ⟨j, rfl⟩ : ∃ j : Nat, k = (j : Int) := ⟨k.toNat, by omega⟩
  have hj : j < xs.length := by omega
  exact ⟨xs[j], L2.atI_nat (List.getElem?_eq_getElem hj), List.getElem_mem hj⟩
end FK

/-! part: FKR -/
set_option linter.all false
set_option maxRecDepth 100000
set_option maxHeartbeats 4000000
namespace FK
open PySem PySem.Spec L2
/-! FKR: rows drawn from the script; comprehensions; texts by their lists. -/
noncomputable def rowsBody : SD := (sSeq (sAsg (eC (.int 0)) (gN 5))
  (sSeq (sIf (bT (e2 dLt (eVar 4) (eCall dLen (aCons (eVar 0) (aNil))))) (sAsg (eCall dInt (aCons (e2 dIdx (eVar 0) (eVar 4)) (aNil))) (gN 5)) (sNil))
  (sSeq (sIf (bT (e2 dLt (eVar 5) (eC (.int 0)))) (sAsg (e2 dSub (eC (.int 1)) (e2 dMul (eC (.int 2)) (eVar 5))) (gN 5)) (sNil))
  (sSeq (sAsg (e2 dMod (eCall dInt (aCons (e2 dAdd (e2 dAdd (e2 dAdd (e2 dMul (eVar 3) (eC (.int 48271))) (e2 dMul (eVar 5) (eC (.int 69621)))) (e2 dMul (eC (.int 2)) (eVar 4))) (eC (.int 1))) (aNil))) (eC (.int 1000000007))) (gN 3))
  (sIf (bT (e2 dGe (eVar 5) (eC (.int 1000000000)))) (sExpr (eMl dApp (eVar 2) (aCons (eVar 5) (aNil)))) (sExpr (eMl dApp (eVar 2) (aCons (e2 dMod (eCall dInt (aCons (e2 dAdd (e2 dMul (eVar 3) (eC (.int 2862933555777941757))) (eC (.int 3037000493))) (aNil))) (eC (.int 18446744073709551557))) (aNil)))))))))
noncomputable def rowsB : SD := sSeq (sAsg (eNew (aNil)) (gN 2))
  (sSeq (sAsg (eC (.int 1)) (gN 3))
  (sSeq (sFor (iR1 (aCons (eVar 1) (aNil))) (gN 4) rowsBody)
  (sRet (eVar 2))))
theorem rows_ok (ns : List Int) (n : Nat) (hl : ns.length ≤ 63) (hn : n < 1000) (h : CH) : ∃ cs : List Int, cs.length = n ∧ (∀ c ∈ cs, 0 ≤ c) ∧ callP 2 (fnD 6 rowsB) [scrD ns, .int n] h = .ok (.lst (cs.map .int)) h := by
  have hr : inR (n : Int) := ⟨by omega, by omega⟩
  obtain ⟨d, h', e, cs, rfl, rfl, hc, hp⟩ := Good.fn (N := 6) (body := rowsB) (ds := [scrD ns, .int n]) (h := []) (ρ := [some (scrD ns), some (.int n), none, none, none, none]) (T := fun d h' => ∃ cs : List Int, d = .ref 0 ∧ h' = [.lst (cs.map .int)] ∧ cs.length = n ∧ (∀ c ∈ cs, 0 ≤ c)) (by
    unfold rowsB
    refine Good.seq (Good.nx (ρ := [some (scrD ns), some (.int n), some (.ref 0), none, none, none]) (h := [.lst []]) ?_ ?_)
    · simp only [sSeq, sIf, sB, sE, sAsg, sRet, sRetN, sNil, sExpr, sBrk, sCnt, gN, gT, gsC, gsN, FK.e1, FK.e2, eC, eVar, eCall, aNil, aCons, M.bind, M.pure, eTup, eLst, eSl, oNone, oSome, bT, bNot, bAnd, bOr, eAnd, eOr, eNot, eIf, eCh, truth, eMs, eMl, dAdd, dSub, dMul, dFdiv, dMod, dLe, dLt, dGe, dGt, dEq, dNe, dIs, dIsnt, D.isNon, dIn, dNotIn, dIdx, dSl, dLen, dInt, dOrd_one, dMax2, dMin2, dTuple, dList, dListC, dApp, dNeg, vw, seq, lstOf, fnD, List.map_cons, List.map_nil, List.length_cons, List.length_nil, List.cons_append, List.nil_append, List.append_nil, List.replicate_succ, List.replicate_zero, List.getElem?_cons_zero, List.getElem?_cons_succ, List.set_cons_zero, List.set_cons_succ, Int.cast_ofNat_Int, Nat.reduceBEq, Int.reduceBEq, Nat.reduceAdd, Nat.reduceSub, Nat.reduceLT, Nat.reduceLeDiff, Nat.zero_add, Nat.add_zero, Nat.sub_zero, Nat.sub_self, ↓reduceIte, if_true, if_false, Bool.not_true, Bool.not_false, Bool.false_eq_true, Bool.true_eq_false, decide_true, decide_false, decide_not, true_and, and_true, and_self, true_or, or_true, not_true_eq_false, not_false_eq_true, ne_eq, reduceCtorEq, Int.reduceLT, Int.reduceLE, Int.reduceNeg, Int.reduceSub, Int.reduceAdd, Int.reduceMul, Int.reducePow, Int.reduceToNat, sz, D.dat, D.datL, D.dep, D.depL, szl, inb, List.any_cons, List.any_nil, Bool.true_and, Bool.false_and, Bool.and_true, Bool.and_false, Bool.or_false, Bool.false_or, Bool.true_or, Bool.or_true, Nat.max_self, Nat.max_zero, Nat.zero_max, Nat.min_self, Nat.zero_le, Nat.min_zero, Nat.zero_min, forL, forX, iR1, iR2, rng1, rng2, iE, itOf, sFor, bYes, eNew_nil]
    refine Good.seq (Good.nx rfl ?_)
    refine Good.seq (Good.sFor (ds := rangeD 0 n) (h1 := [.lst []]) ?_ (Good.forL (fun i ρ h => ∃ (m : Int) (k c : Option D) (cs : List Int), ρ = [some (scrD ns), some (.int n), some (.ref 0), some (.int m), k, c] ∧ h = [.lst (cs.map .int)] ∧ cs.length = i ∧ (∀ c ∈ cs, 0 ≤ c)) (rangeD 0 n) ⟨1, none, none, [], rfl, rfl, rfl, by simp⟩ ?_ ?_))
    · simp only [sSeq, sIf, sB, sE, sAsg, sRet, sRetN, sNil, sExpr, sBrk, sCnt, gN, gT, gsC, gsN, FK.e1, FK.e2, eC, eVar, eCall, aNil, aCons, M.bind, M.pure, eTup, eLst, eNew, eSl, oNone, oSome, bT, bNot, bAnd, bOr, eAnd, eOr, eNot, eIf, eCh, truth, eMs, eMl, dAdd, dSub, dMul, dFdiv, dMod, dLe, dLt, dGe, dGt, dEq, dNe, dIs, dIsnt, D.isNon, dIn, dNotIn, dIdx, dSl, dLen, dInt, dOrd_one, dMax2, dMin2, dTuple, dList, dListC, dApp, dNeg, vw, seq, lstOf, fnD, List.map_cons, List.map_nil, List.length_cons, List.length_nil, List.cons_append, List.nil_append, List.append_nil, List.replicate_succ, List.replicate_zero, List.getElem?_cons_zero, List.getElem?_cons_succ, List.set_cons_zero, List.set_cons_succ, Int.cast_ofNat_Int, Nat.reduceBEq, Int.reduceBEq, Nat.reduceAdd, Nat.reduceSub, Nat.reduceLT, Nat.reduceLeDiff, Nat.zero_add, Nat.add_zero, Nat.sub_zero, Nat.sub_self, ↓reduceIte, if_true, if_false, Bool.not_true, Bool.not_false, Bool.false_eq_true, Bool.true_eq_false, decide_true, decide_false, decide_not, true_and, and_true, and_self, true_or, or_true, not_true_eq_false, not_false_eq_true, ne_eq, reduceCtorEq, Int.reduceLT, Int.reduceLE, Int.reduceNeg, Int.reduceSub, Int.reduceAdd, Int.reduceMul, Int.reducePow, Int.reduceToNat, sz, D.dat, D.datL, D.dep, D.depL, szl, inb, List.any_cons, List.any_nil, Bool.true_and, Bool.false_and, Bool.and_true, Bool.and_false, Bool.or_false, Bool.false_or, Bool.true_or, Bool.or_true, Nat.max_self, Nat.max_zero, Nat.zero_max, Nat.min_self, Nat.zero_le, Nat.min_zero, Nat.zero_min, forL, forX, iR1, iR2, rng1, rng2, iE, itOf, sFor, bYes, if_pos hr]
    · rintro i d ρ h e ⟨m, k, c, cs, rfl, rfl, hc, hp⟩
      obtain ⟨rfl, hi⟩ := getElem?_rangeD e
      rw [Int.zero_add]
      rw [Int.zero_add] at e
      refine ⟨_, rfl, ?_⟩
      unfold rowsBody
      refine Good.seq (Good.nx (ρ := [some (scrD ns), some (.int n), some (.ref 0), some (.int m), some (.int i), some (.int 0)]) rfl ?_)
      refine Good.seq (Good.cut (N' := fun ρ h => ∃ v : Int, ρ = [some (scrD ns), some (.int n), some (.ref 0), some (.int m), some (.int i), some (.int v)] ∧ h = [.lst (cs.map .int)]) (Good.ite (decide ((i : Int) < ns.length)) (by (simp only [sSeq, sIf, sB, sE, sAsg, sRet, sRetN, sNil, sExpr, sBrk, sCnt, gN, gT, gsC, gsN, FK.e1, FK.e2, eC, eVar, eCall, aNil, aCons, M.bind, M.pure, eTup, eLst, eNew, eSl, oNone, oSome, bT, bNot, bAnd, bOr, eAnd, eOr, eNot, eIf, eCh, truth, eMs, eMl, dAdd, dSub, dMul, dFdiv, dMod, dLe, dLt, dGe, dGt, dEq, dNe, dIs, dIsnt, D.isNon, dIn, dNotIn, dIdx, dSl, dLen, dInt, dOrd_one, dMax2, dMin2, dTuple, dList, dListC, dApp, dNeg, vw, seq, lstOf, fnD, List.map_cons, List.map_nil, List.length_cons, List.length_nil, List.cons_append, List.nil_append, List.append_nil, List.replicate_succ, List.replicate_zero, List.getElem?_cons_zero, List.getElem?_cons_succ, List.set_cons_zero, List.set_cons_succ, Int.cast_ofNat_Int, Nat.reduceBEq, Int.reduceBEq, Nat.reduceAdd, Nat.reduceSub, Nat.reduceLT, Nat.reduceLeDiff, Nat.zero_add, Nat.add_zero, Nat.sub_zero, Nat.sub_self, ↓reduceIte, if_true, if_false, Bool.not_true, Bool.not_false, Bool.false_eq_true, Bool.true_eq_false, decide_true, decide_false, decide_not, true_and, and_true, and_self, true_or, or_true, not_true_eq_false, not_false_eq_true, ne_eq, reduceCtorEq, Int.reduceLT, Int.reduceLE, Int.reduceNeg, Int.reduceSub, Int.reduceAdd, Int.reduceMul, Int.reducePow, Int.reduceToNat, sz, D.dat, D.datL, D.dep, D.depL, szl, inb, List.any_cons, List.any_nil, Bool.true_and, Bool.false_and, Bool.and_true, Bool.and_false, Bool.or_false, Bool.false_or, Bool.true_or, Bool.or_true, Nat.max_self, Nat.max_zero, Nat.zero_max, Nat.min_self, Nat.zero_le, Nat.min_zero, Nat.zero_min, forL, forX, iR1, iR2, rng1, rng2, iE, itOf, sFor, bYes, scrD, List.length_map] <;> rfl)) (fun q => ?_) (fun _ => Good.nx rfl ⟨_, rfl, rfl⟩)) ?_)
      · have q := of_decide_eq_true q
        obtain ⟨v, hv⟩ := atI_in (ns := ns) (k := i) (by omega) q
        exact Good.nx (by (simp only [sSeq, sIf, sB, sE, sAsg, sRet, sRetN, sNil, sExpr, sBrk, sCnt, gN, gT, gsC, gsN, FK.e1, FK.e2, eC, eVar, eCall, aNil, aCons, M.bind, M.pure, eTup, eLst, eNew, eSl, oNone, oSome, bT, bNot, bAnd, bOr, eAnd, eOr, eNot, eIf, eCh, truth, eMs, eMl, dAdd, dSub, dMul, dFdiv, dMod, dLe, dLt, dGe, dGt, dEq, dNe, dIs, dIsnt, D.isNon, dIn, dNotIn, dIdx, dSl, dLen, dInt, dOrd_one, dMax2, dMin2, dTuple, dList, dListC, dApp, dNeg, vw, seq, lstOf, fnD, List.map_cons, List.map_nil, List.length_cons, List.length_nil, List.cons_append, List.nil_append, List.append_nil, List.replicate_succ, List.replicate_zero, List.getElem?_cons_zero, List.getElem?_cons_succ, List.set_cons_zero, List.set_cons_succ, Int.cast_ofNat_Int, Nat.reduceBEq, Int.reduceBEq, Nat.reduceAdd, Nat.reduceSub, Nat.reduceLT, Nat.reduceLeDiff, Nat.zero_add, Nat.add_zero, Nat.sub_zero, Nat.sub_self, ↓reduceIte, if_true, if_false, Bool.not_true, Bool.not_false, Bool.false_eq_true, Bool.true_eq_false, decide_true, decide_false, decide_not, true_and, and_true, and_self, true_or, or_true, not_true_eq_false, not_false_eq_true, ne_eq, reduceCtorEq, Int.reduceLT, Int.reduceLE, Int.reduceNeg, Int.reduceSub, Int.reduceAdd, Int.reduceMul, Int.reducePow, Int.reduceToNat, sz, D.dat, D.datL, D.dep, D.depL, szl, inb, List.any_cons, List.any_nil, Bool.true_and, Bool.false_and, Bool.and_true, Bool.and_false, Bool.or_false, Bool.false_or, Bool.true_or, Bool.or_true, Nat.max_self, Nat.max_zero, Nat.zero_max, Nat.min_self, Nat.zero_le, Nat.min_zero, Nat.zero_min, forL, forX, iR1, iR2, rng1, rng2, iE, itOf, sFor, bYes, scrD, hv] <;> rfl)) ⟨v, rfl, rfl⟩
      rintro ρ h ⟨v, rfl, rfl⟩
      refine Good.seq (Good.cut (N' := fun ρ h => ∃ v : Int, ρ = [some (scrD ns), some (.int n), some (.ref 0), some (.int m), some (.int i), some (.int v)] ∧ h = [.lst (cs.map .int)] ∧ 0 ≤ v) (Good.ite (decide (v < 0)) (by (simp only [sSeq, sIf, sB, sE, sAsg, sRet, sRetN, sNil, sExpr, sBrk, sCnt, gN, gT, gsC, gsN, FK.e1, FK.e2, eC, eVar, eCall, aNil, aCons, M.bind, M.pure, eTup, eLst, eNew, eSl, oNone, oSome, bT, bNot, bAnd, bOr, eAnd, eOr, eNot, eIf, eCh, truth, eMs, eMl, dAdd, dSub, dMul, dFdiv, dMod, dLe, dLt, dGe, dGt, dEq, dNe, dIs, dIsnt, D.isNon, dIn, dNotIn, dIdx, dSl, dLen, dInt, dOrd_one, dMax2, dMin2, dTuple, dList, dListC, dApp, dNeg, vw, seq, lstOf, fnD, List.map_cons, List.map_nil, List.length_cons, List.length_nil, List.cons_append, List.nil_append, List.append_nil, List.replicate_succ, List.replicate_zero, List.getElem?_cons_zero, List.getElem?_cons_succ, List.set_cons_zero, List.set_cons_succ, Int.cast_ofNat_Int, Nat.reduceBEq, Int.reduceBEq, Nat.reduceAdd, Nat.reduceSub, Nat.reduceLT, Nat.reduceLeDiff, Nat.zero_add, Nat.add_zero, Nat.sub_zero, Nat.sub_self, ↓reduceIte, if_true, if_false, Bool.not_true, Bool.not_false, Bool.false_eq_true, Bool.true_eq_false, decide_true, decide_false, decide_not, true_and, and_true, and_self, true_or, or_true, not_true_eq_false, not_false_eq_true, ne_eq, reduceCtorEq, Int.reduceLT, Int.reduceLE, Int.reduceNeg, Int.reduceSub, Int.reduceAdd, Int.reduceMul, Int.reducePow, Int.reduceToNat, sz, D.dat, D.datL, D.dep, D.depL, szl, inb, List.any_cons, List.any_nil, Bool.true_and, Bool.false_and, Bool.and_true, Bool.and_false, Bool.or_false, Bool.false_or, Bool.true_or, Bool.or_true, Nat.max_self, Nat.max_zero, Nat.zero_max, Nat.min_self, Nat.zero_le, Nat.min_zero, Nat.zero_min, forL, forX, iR1, iR2, rng1, rng2, iE, itOf, sFor, bYes] <;> rfl)) (fun q => ?_) (fun q => Good.nx rfl ⟨_, rfl, rfl, by have := of_decide_eq_false q; omega⟩)) ?_)
      · have q := of_decide_eq_true q
        exact Good.nx (by (simp only [sSeq, sIf, sB, sE, sAsg, sRet, sRetN, sNil, sExpr, sBrk, sCnt, gN, gT, gsC, gsN, FK.e1, FK.e2, eC, eVar, eCall, aNil, aCons, M.bind, M.pure, eTup, eLst, eNew, eSl, oNone, oSome, bT, bNot, bAnd, bOr, eAnd, eOr, eNot, eIf, eCh, truth, eMs, eMl, dAdd, dSub, dMul, dFdiv, dMod, dLe, dLt, dGe, dGt, dEq, dNe, dIs, dIsnt, D.isNon, dIn, dNotIn, dIdx, dSl, dLen, dInt, dOrd_one, dMax2, dMin2, dTuple, dList, dListC, dApp, dNeg, vw, seq, lstOf, fnD, List.map_cons, List.map_nil, List.length_cons, List.length_nil, List.cons_append, List.nil_append, List.append_nil, List.replicate_succ, List.replicate_zero, List.getElem?_cons_zero, List.getElem?_cons_succ, List.set_cons_zero, List.set_cons_succ, Int.cast_ofNat_Int, Nat.reduceBEq, Int.reduceBEq, Nat.reduceAdd, Nat.reduceSub, Nat.reduceLT, Nat.reduceLeDiff, Nat.zero_add, Nat.add_zero, Nat.sub_zero, Nat.sub_self, ↓reduceIte, if_true, if_false, Bool.not_true, Bool.not_false, Bool.false_eq_true, Bool.true_eq_false, decide_true, decide_false, decide_not, true_and, and_true, and_self, true_or, or_true, not_true_eq_false, not_false_eq_true, ne_eq, reduceCtorEq, Int.reduceLT, Int.reduceLE, Int.reduceNeg, Int.reduceSub, Int.reduceAdd, Int.reduceMul, Int.reducePow, Int.reduceToNat, sz, D.dat, D.datL, D.dep, D.depL, szl, inb, List.any_cons, List.any_nil, Bool.true_and, Bool.false_and, Bool.and_true, Bool.and_false, Bool.or_false, Bool.false_or, Bool.true_or, Bool.or_true, Nat.max_self, Nat.max_zero, Nat.zero_max, Nat.min_self, Nat.zero_le, Nat.min_zero, Nat.zero_min, forL, forX, iR1, iR2, rng1, rng2, iE, itOf, sFor, bYes] <;> rfl)) ⟨1 - 2 * v, rfl, rfl, by omega⟩
      rintro ρ h ⟨v, rfl, rfl, hv⟩
      refine Good.seq (Good.nx (ρ := [some (scrD ns), some (.int n), some (.ref 0), some (.int ((m * 48271 + v * 69621 + 2 * i + 1) % 1000000007)), some (.int i), some (.int v)]) (h := [.lst (cs.map .int)]) (by simp only [sSeq, sIf, sB, sE, sAsg, sRet, sRetN, sNil, sExpr, sBrk, sCnt, gN, gT, gsC, gsN, FK.e1, FK.e2, eC, eVar, eCall, aNil, aCons, M.bind, M.pure, eTup, eLst, eNew, eSl, oNone, oSome, bT, bNot, bAnd, bOr, eAnd, eOr, eNot, eIf, eCh, truth, eMs, eMl, dAdd, dSub, dMul, dFdiv, dMod, dLe, dLt, dGe, dGt, dEq, dNe, dIs, dIsnt, D.isNon, dIn, dNotIn, dIdx, dSl, dLen, dInt, dOrd_one, dMax2, dMin2, dTuple, dList, dListC, dApp, dNeg, vw, seq, lstOf, fnD, List.map_cons, List.map_nil, List.length_cons, List.length_nil, List.cons_append, List.nil_append, List.append_nil, List.replicate_succ, List.replicate_zero, List.getElem?_cons_zero, List.getElem?_cons_succ, List.set_cons_zero, List.set_cons_succ, Int.cast_ofNat_Int, Nat.reduceBEq, Int.reduceBEq, Nat.reduceAdd, Nat.reduceSub, Nat.reduceLT, Nat.reduceLeDiff, Nat.zero_add, Nat.add_zero, Nat.sub_zero, Nat.sub_self, ↓reduceIte, if_true, if_false, Bool.not_true, Bool.not_false, Bool.false_eq_true, Bool.true_eq_false, decide_true, decide_false, decide_not, true_and, and_true, and_self, true_or, or_true, not_true_eq_false, not_false_eq_true, ne_eq, reduceCtorEq, Int.reduceLT, Int.reduceLE, Int.reduceNeg, Int.reduceSub, Int.reduceAdd, Int.reduceMul, Int.reducePow, Int.reduceToNat, sz, D.dat, D.datL, D.dep, D.depL, szl, inb, List.any_cons, List.any_nil, Bool.true_and, Bool.false_and, Bool.and_true, Bool.and_false, Bool.or_false, Bool.false_or, Bool.true_or, Bool.or_true, Nat.max_self, Nat.max_zero, Nat.zero_max, Nat.min_self, Nat.zero_le, Nat.min_zero, Nat.zero_min, forL, forX, iR1, iR2, rng1, rng2, iE, itOf, sFor, bYes]) ?_)
      have hz : (cs.map D.int).length < 16777216 := by rw [List.length_map]; omega
      refine Good.ite (decide (1000000000 ≤ v)) (by (simp only [sSeq, sIf, sB, sE, sAsg, sRet, sRetN, sNil, sExpr, sBrk, sCnt, gN, gT, gsC, gsN, FK.e1, FK.e2, eC, eVar, eCall, aNil, aCons, M.bind, M.pure, eTup, eLst, eNew, eSl, oNone, oSome, bT, bNot, bAnd, bOr, eAnd, eOr, eNot, eIf, eCh, truth, eMs, eMl, dAdd, dSub, dMul, dFdiv, dMod, dLe, dLt, dGe, dGt, dEq, dNe, dIs, dIsnt, D.isNon, dIn, dNotIn, dIdx, dSl, dLen, dInt, dOrd_one, dMax2, dMin2, dTuple, dList, dListC, dApp, dNeg, vw, seq, lstOf, fnD, List.map_cons, List.map_nil, List.length_cons, List.length_nil, List.cons_append, List.nil_append, List.append_nil, List.replicate_succ, List.replicate_zero, List.getElem?_cons_zero, List.getElem?_cons_succ, List.set_cons_zero, List.set_cons_succ, Int.cast_ofNat_Int, Nat.reduceBEq, Int.reduceBEq, Nat.reduceAdd, Nat.reduceSub, Nat.reduceLT, Nat.reduceLeDiff, Nat.zero_add, Nat.add_zero, Nat.sub_zero, Nat.sub_self, ↓reduceIte, if_true, if_false, Bool.not_true, Bool.not_false, Bool.false_eq_true, Bool.true_eq_false, decide_true, decide_false, decide_not, true_and, and_true, and_self, true_or, or_true, not_true_eq_false, not_false_eq_true, ne_eq, reduceCtorEq, Int.reduceLT, Int.reduceLE, Int.reduceNeg, Int.reduceSub, Int.reduceAdd, Int.reduceMul, Int.reducePow, Int.reduceToNat, sz, D.dat, D.datL, D.dep, D.depL, szl, inb, List.any_cons, List.any_nil, Bool.true_and, Bool.false_and, Bool.and_true, Bool.and_false, Bool.or_false, Bool.false_or, Bool.true_or, Bool.or_true, Nat.max_self, Nat.max_zero, Nat.zero_max, Nat.min_self, Nat.zero_le, Nat.min_zero, Nat.zero_min, forL, forX, iR1, iR2, rng1, rng2, iE, itOf, sFor, bYes] <;> rfl)) (fun q => ?_) (fun q => ?_)
      · refine Good.nx (h := [.lst ((cs ++ [v]).map .int)]) (by (simp only [sSeq, sIf, sB, sE, sAsg, sRet, sRetN, sNil, sExpr, sBrk, sCnt, gN, gT, gsC, gsN, FK.e1, FK.e2, eC, eVar, eCall, aNil, aCons, M.bind, M.pure, eTup, eLst, eNew, eSl, oNone, oSome, bT, bNot, bAnd, bOr, eAnd, eOr, eNot, eIf, eCh, truth, eMs, eMl, dAdd, dSub, dMul, dFdiv, dMod, dLe, dLt, dGe, dGt, dEq, dNe, dIs, dIsnt, D.isNon, dIn, dNotIn, dIdx, dSl, dLen, dInt, dOrd_one, dMax2, dMin2, dTuple, dList, dListC, dApp, dNeg, vw, seq, lstOf, fnD, List.map_cons, List.map_nil, List.length_cons, List.length_nil, List.cons_append, List.nil_append, List.append_nil, List.replicate_succ, List.replicate_zero, List.getElem?_cons_zero, List.getElem?_cons_succ, List.set_cons_zero, List.set_cons_succ, Int.cast_ofNat_Int, Nat.reduceBEq, Int.reduceBEq, Nat.reduceAdd, Nat.reduceSub, Nat.reduceLT, Nat.reduceLeDiff, Nat.zero_add, Nat.add_zero, Nat.sub_zero, Nat.sub_self, ↓reduceIte, if_true, if_false, Bool.not_true, Bool.not_false, Bool.false_eq_true, Bool.true_eq_false, decide_true, decide_false, decide_not, true_and, and_true, and_self, true_or, or_true, not_true_eq_false, not_false_eq_true, ne_eq, reduceCtorEq, Int.reduceLT, Int.reduceLE, Int.reduceNeg, Int.reduceSub, Int.reduceAdd, Int.reduceMul, Int.reducePow, Int.reduceToNat, sz, D.dat, D.datL, D.dep, D.depL, szl, inb, List.any_cons, List.any_nil, Bool.true_and, Bool.false_and, Bool.and_true, Bool.and_false, Bool.or_false, Bool.false_or, Bool.true_or, Bool.or_true, Nat.max_self, Nat.max_zero, Nat.zero_max, Nat.min_self, Nat.zero_le, Nat.min_zero, Nat.zero_min, forL, forX, iR1, iR2, rng1, rng2, iE, itOf, sFor, bYes, hz, List.map_append] <;> rfl)) ⟨_, _, _, cs ++ [v], rfl, rfl, by simp [hc], fun c' hm => ?_⟩
        rcases List.mem_append.mp hm with z | z
        · exact hp c' z
        · rw [List.mem_singleton.mp z]; exact hv
      · refine Good.nx (h := [.lst ((cs ++ [(((m * 48271 + v * 69621 + 2 * i + 1) % 1000000007) * 2862933555777941757 + 3037000493) % 18446744073709551557]).map .int)]) (by (simp only [sSeq, sIf, sB, sE, sAsg, sRet, sRetN, sNil, sExpr, sBrk, sCnt, gN, gT, gsC, gsN, FK.e1, FK.e2, eC, eVar, eCall, aNil, aCons, M.bind, M.pure, eTup, eLst, eNew, eSl, oNone, oSome, bT, bNot, bAnd, bOr, eAnd, eOr, eNot, eIf, eCh, truth, eMs, eMl, dAdd, dSub, dMul, dFdiv, dMod, dLe, dLt, dGe, dGt, dEq, dNe, dIs, dIsnt, D.isNon, dIn, dNotIn, dIdx, dSl, dLen, dInt, dOrd_one, dMax2, dMin2, dTuple, dList, dListC, dApp, dNeg, vw, seq, lstOf, fnD, List.map_cons, List.map_nil, List.length_cons, List.length_nil, List.cons_append, List.nil_append, List.append_nil, List.replicate_succ, List.replicate_zero, List.getElem?_cons_zero, List.getElem?_cons_succ, List.set_cons_zero, List.set_cons_succ, Int.cast_ofNat_Int, Nat.reduceBEq, Int.reduceBEq, Nat.reduceAdd, Nat.reduceSub, Nat.reduceLT, Nat.reduceLeDiff, Nat.zero_add, Nat.add_zero, Nat.sub_zero, Nat.sub_self, ↓reduceIte, if_true, if_false, Bool.not_true, Bool.not_false, Bool.false_eq_true, Bool.true_eq_false, decide_true, decide_false, decide_not, true_and, and_true, and_self, true_or, or_true, not_true_eq_false, not_false_eq_true, ne_eq, reduceCtorEq, Int.reduceLT, Int.reduceLE, Int.reduceNeg, Int.reduceSub, Int.reduceAdd, Int.reduceMul, Int.reducePow, Int.reduceToNat, sz, D.dat, D.datL, D.dep, D.depL, szl, inb, List.any_cons, List.any_nil, Bool.true_and, Bool.false_and, Bool.and_true, Bool.and_false, Bool.or_false, Bool.false_or, Bool.true_or, Bool.or_true, Nat.max_self, Nat.max_zero, Nat.zero_max, Nat.min_self, Nat.zero_le, Nat.min_zero, Nat.zero_min, forL, forX, iR1, iR2, rng1, rng2, iE, itOf, sFor, bYes, hz, List.map_append] <;> rfl)) ⟨_, _, _, _, rfl, rfl, by simp [hc], fun c' hm => ?_⟩
        rcases List.mem_append.mp hm with z | z
        · exact hp c' z
        · rw [List.mem_singleton.mp z]; exact Int.emod_nonneg _ (by omega)
    · rintro ρ h ⟨m, k, c, cs, rfl, rfl, hc, hp⟩
      rw [length_rangeD] at hc
      exact Good.rt rfl ⟨cs, rfl, rfl, by omega, hp⟩)
  refine ⟨cs, hc, hp, callP_ok (h' := [.lst (cs.map .int)]) (d := .ref 0) ?_ e (fz_ref rfl (nrL_ints cs))⟩
  show (D.nr (scrD ns) && true) = true
  rw [nr_scr]; rfl
/-! comprehensions -/
theorem lcL_some {g : GD} {b : BD} {f : ED} {ρ : Env} {h : CH} (P : Nat → D → Prop) : ∀ (ds : List D), (∀ i d, ds[i]? = some d → ∃ y, lcT g b f ρ d h = .ok (some y) h ∧ P i y) → ∃ ys, lcL g b f ρ ds h = .ok ys h ∧ ys.length = ds.length ∧ ∀ i y, ys[i]? = some y → P i y
  | [], _ => ⟨[], rfl, rfl, fun i y e => by simp at e⟩
  | d :: ds, q => by
    obtain ⟨y, e1, p1⟩ := q 0 d rfl
    obtain ⟨ys, e2, l2, p2⟩ := lcL_some (P := fun i y => P (i + 1) y) ds (fun i d e => q (i + 1) d (by simpa using e))
    refine ⟨y :: ys, ?_, by simp [l2], fun i z e => ?_⟩
    · unfold lcL
      unfold M.bind
      rw [e1]
      dsimp only
      rw [e2]
      rfl
    · cases i with
      | zero => cases e; exact p1
      | succ i => exact p2 i z (by simpa using e)
/-- the list, for what is drawn without a condition -/
theorem eLc_list {it : ITD} {g : GD} {f : ED} {vs : List Nat} {ρ : Env} {h : CH} {ds : List D} (P : Nat → D → Prop) (hi : it ρ h = .ok (ds, none) h) (hl : ds.length ≤ 16777216) (q : ∀ i d, ds[i]? = some d → ∃ ρ1 y, g d (wipeE ρ vs) = some ρ1 ∧ f ρ1 h = .ok y h ∧ P i y) :
    ∃ ys, eLc lcEnd it g bYes f vs ρ h = .ok (.lst ys) h ∧ ys.length = ds.length ∧ ∀ i y, ys[i]? = some y → P i y := by
  obtain ⟨ys, e, l, p⟩ := lcL_some (g := g) (b := bYes) (f := f) (ρ := wipeE ρ vs) (h := h) P ds (fun i d e => by
    obtain ⟨ρ1, y, e1, e2, p⟩ := q i d e
    refine ⟨y, ?_, p⟩
    unfold lcT
    rw [e1]
    show (match f ρ1 h with | .ok x h2 => R.ok (some x) h2 | _ => .bad) = _
    rw [e2])
  refine ⟨ys, ?_, l, p⟩
  unfold eLc
  unfold M.bind
  rw [hi]
  dsimp only
  unfold lcX
  dsimp only
  rw [e]
  dsimp only
  unfold lcEnd
  rw [← l] at hl
  exact if_pos (by rw [sz]; exact hl)
theorem strsD_map : ∀ zs : List Str, strsD (zs.map D.str) = some zs
  | [] => rfl
  | z :: zs => by rw [List.map_cons, strsD, strsD_map zs]; rfl
theorem strs_of {p : Str → Prop} : ∀ {ys : List D}, (∀ (i : Nat) y, ys[i]? = some y → ∃ z : Str, y = D.str z ∧ p z) → ∃ zs : List Str, ys = zs.map D.str ∧ ∀ z ∈ zs, p z
  | [], _ => ⟨[], rfl, fun z h => by cases h⟩
  | y :: ys, q => by
    obtain ⟨z, rfl, pz⟩ := q 0 y rfl
    obtain ⟨zs, rfl, pzs⟩ := strs_of (ys := ys) fun i y e => q (i + 1) y (by simpa using e)
    refine ⟨z :: zs, rfl, fun w h => ?_⟩
    rcases List.mem_cons.mp h with rfl | h
    · exact pz
    · exact pzs w h
/-! texts by their lists -/
abbrev tx (x : Str) : List Nat := x.cps.toList
theorem tx_ext {a b : Str} (h : tx a = tx b) : a = b := by
  cases a; cases b
  simp only [tx, Array.toList_inj] at h
  rw [h]
theorem tx_len (a : Str) : (tx a).length = a.length := by simp [tx, Str.length]
theorem tx_app (a b : Str) : tx (a ++ b) = tx a ++ tx b := by
  show (a.cps ++ b.cps).toList = _
  rw [Array.toList_append]
theorem tx_cut (a : Str) (lo hi : Option Int) : tx (cutS a lo hi) = ((tx a).drop (HT.sIx a.length 0 lo)).take (HT.sIx a.length a.length hi - HT.sIx a.length 0 lo) := by
  unfold cutS
  simp [tx]
theorem dJoin_lst {a : Str} {zs : List Str} {h : CH} (hz : (zs.map (·.length)).sum + zs.length * a.length ≤ 16777216) : dJoin a [.lst (zs.map .str)] h = .ok (.str (Txt.join a zs)) h := by
  unfold dJoin seq vw
  dsimp only
  rw [strsD_map]
  exact if_pos hz
theorem dJoin_tup {a : Str} {zs : List Str} {h : CH} (hz : (zs.map (·.length)).sum + zs.length * a.length ≤ 16777216) : dJoin a [.tup (zs.map .str)] h = .ok (.str (Txt.join a zs)) h := by
  unfold dJoin seq vw
  dsimp only
  rw [strsD_map]
  exact if_pos hz
theorem len_mul (x : Str) (n : Nat) : (Txt.mul x n).length = x.length * n := by
  have h := PyProof.Rows.len_mul x n
  rw [decide_eq_false (by omega), if_neg (by decide)] at h
  exact_mod_cast h
theorem len_cut_le (a : Str) (lo hi : Option Int) : (cutS a lo hi).length ≤ a.length := by
  rw [← tx_len, tx_cut, List.length_take, List.length_drop, tx_len]
  omega
theorem len_cut_to (x : Str) (n : Nat) : (cutS x none (some (n : Int))).length = min n x.length := by
  rw [← tx_len, tx_cut, HT.sIx_nat]
  show (((tx x).drop 0).take (min n x.length - 0)).length = _
  rw [List.drop_zero, List.length_take, tx_len]
  omega
theorem len_join (a : Str) (zs : List Str) : (Txt.join a zs).length = (zs.map (·.length)).sum + (zs.length - 1) * a.length := size_glued a zs
end FK

/-! part: FKN -/
set_option linter.all false
set_option maxRecDepth 100000
set_option maxHeartbeats 4000000
namespace FK
open PySem PySem.Spec L2
/-! FKN: names and paths. -/
noncomputable def isNameB : SD := sSeq (sIf (bOr (bNot (bT (eCh dLe dLe (eC (.int 1)) (eCall dLen (aCons (eVar 0) (aNil))) (eC (.int 100))))) (bT (e2 dIn (eVar 0) (eTup (aCons (eC (.str ".")) (aCons (eC (.str "..")) (aNil))))))) (sRet (eC (.bl false))) (sNil))
  (sSeq (sFor (iE (eVar 0)) (gN 1) (sIf (bOr (bT (e2 dLt (eCall dOrd (aCons (eVar 1) (aNil))) (eC (.int 32)))) (bT (e2 dEq (eVar 1) (eC (.str "/"))))) (sRet (eC (.bl false))) (sNil)))
  (sRet (eC (.bl true))))
/-! is_name -/
def badC (c : Nat) : Bool := decide ((c : Int) < 32) || D.eqb (.str ⟨#[c]⟩) (.str "/")
theorem badC_ok {v : Nat} {ρ : Env} {h : CH} {c : Nat} (e : eVar v ρ h = .ok (.str ⟨#[c]⟩) h) : (bOr (bT (e2 dLt (eCall dOrd (aCons (eVar v) (aNil))) (eC (.int 32)))) (bT (e2 dEq (eVar v) (eC (.str "/"))))) ρ h = .ok (badC c) h := by
  have e1 : bT (e2 dLt (eCall dOrd (aCons (eVar v) (aNil))) (eC (.int 32))) ρ h = .ok (decide ((c : Int) < 32)) h := by
    unfold bT e2 eCall aCons aNil
    unfold M.bind
    rw [e]
    rfl
  have e2 : bT (e2 dEq (eVar v) (eC (.str "/"))) ρ h = .ok (D.eqb (.str ⟨#[c]⟩) (.str "/")) h := by
    unfold bT FK.e2
    unfold M.bind
    rw [e]
    rfl
  unfold bOr badC
  unfold M.bind
  rw [e1]
  cases decide ((c : Int) < 32) with
  | true => rfl
  | false => exact e2
def st0 (x : Str) : Bool := decide ((1 : Int) ≤ x.length) && decide ((x.length : Int) ≤ 100) && !D.eqb (.str ".") (.str x) && !D.eqb (.str "..") (.str x)
theorem eqb_comm (a b : D) : D.eqb a b = D.eqb b a := PySem.W.eqv_comm a.py b.py
theorem any_take {p : Nat → Bool} : ∀ {cs : List Nat} {i c : Nat}, cs[i]? = some c → (cs.take (i + 1)).any p = ((cs.take i).any p || p c)
  | _ :: _, 0, _, e => by cases e; simp
  | _ :: cs, i + 1, _, e => by
    have := any_take (p := p) (cs := cs) (i := i) (by simpa using e)
    simp only [List.take_succ_cons, List.any_cons] at this ⊢
    rw [this, Bool.or_assoc]
theorem any_of_mem {p : Nat → Bool} {cs : List Nat} {i c : Nat} (e : cs[i]? = some c) (h : p c = true) : cs.any p = true := List.any_eq_true.mpr ⟨c, List.mem_of_getElem? e, h⟩
/-- is_name -/
def nm (x : Str) : Bool := st0 x && !x.cps.toList.any badC
theorem isn_fn (x : Str) (hl : x.length ≤ 16777216) (h : CH) : ∃ d h', fnD 2 isNameB [.str x] h = .ok d h' ∧ d = .bl (st0 x && !x.cps.toList.any badC) ∧ h' = h := by
  refine Good.fn (ρ := [some (.str x), none]) (T := fun d h' => d = .bl (st0 x && !x.cps.toList.any badC) ∧ h' = h) ?_
  unfold isNameB
  refine Good.seq (Good.ite (h1 := h) (!st0 x) ?_ (fun e => ?_) (fun e => ?_))
  · have c1 : (bT (eCh dLe dLe (eC (.int 1)) (eCall dLen (aCons (eVar 0) (aNil))) (eC (.int 100)))) [some (.str x), none] h = .ok (decide ((1 : Int) ≤ x.length) && decide ((x.length : Int) ≤ 100)) h := by
      by_cases a : (1 : Int) ≤ x.length
      · simp only [sSeq, sIf, sB, sE, sAsg, sRet, sRetN, sNil, sExpr, sBrk, sCnt, gN, gT, gsC, gsN, FK.e1, FK.e2, eC, eVar, eCall, aNil, aCons, M.bind, M.pure, eTup, eLst, eNew, eSl, oNone, oSome, bT, bNot, bAnd, bOr, eAnd, eOr, eNot, eIf, eCh, truth, eMs, eMl, dAdd, dSub, dMul, dFdiv, dMod, dLe, dLt, dGe, dGt, dEq, dNe, dIs, dIsnt, D.isNon, dIn, dNotIn, dIdx, dSl, dLen, dInt, dOrd_one, dMax2, dMin2, dTuple, dList, dListC, dApp, dNeg, vw, seq, lstOf, fnD, List.map_cons, List.map_nil, List.length_cons, List.length_nil, List.cons_append, List.nil_append, List.append_nil, List.replicate_succ, List.replicate_zero, List.getElem?_cons_zero, List.getElem?_cons_succ, List.set_cons_zero, List.set_cons_succ, Int.cast_ofNat_Int, Nat.reduceBEq, Int.reduceBEq, Nat.reduceAdd, Nat.reduceSub, Nat.reduceLT, Nat.reduceLeDiff, Nat.zero_add, Nat.add_zero, Nat.sub_zero, Nat.sub_self, ↓reduceIte, if_true, if_false, Bool.not_true, Bool.not_false, Bool.false_eq_true, Bool.true_eq_false, decide_true, decide_false, decide_not, true_and, and_true, and_self, true_or, or_true, not_true_eq_false, not_false_eq_true, ne_eq, reduceCtorEq, Int.reduceLT, Int.reduceLE, Int.reduceNeg, Int.reduceSub, Int.reduceAdd, Int.reduceMul, Int.reducePow, Int.reduceToNat, sz, D.dat, D.datL, D.dep, D.depL, szl, inb, List.any_cons, List.any_nil, Bool.true_and, Bool.false_and, Bool.and_true, Bool.and_false, Bool.or_false, Bool.false_or, Bool.true_or, Bool.or_true, Nat.max_self, Nat.max_zero, Nat.zero_max, Nat.min_self, Nat.zero_le, Nat.min_zero, Nat.zero_min, forL, forX, iR1, iR2, rng1, rng2, iE, itOf, sFor, bYes, hl, decide_eq_true a]
      · simp only [sSeq, sIf, sB, sE, sAsg, sRet, sRetN, sNil, sExpr, sBrk, sCnt, gN, gT, gsC, gsN, FK.e1, FK.e2, eC, eVar, eCall, aNil, aCons, M.bind, M.pure, eTup, eLst, eNew, eSl, oNone, oSome, bT, bNot, bAnd, bOr, eAnd, eOr, eNot, eIf, eCh, truth, eMs, eMl, dAdd, dSub, dMul, dFdiv, dMod, dLe, dLt, dGe, dGt, dEq, dNe, dIs, dIsnt, D.isNon, dIn, dNotIn, dIdx, dSl, dLen, dInt, dOrd_one, dMax2, dMin2, dTuple, dList, dListC, dApp, dNeg, vw, seq, lstOf, fnD, List.map_cons, List.map_nil, List.length_cons, List.length_nil, List.cons_append, List.nil_append, List.append_nil, List.replicate_succ, List.replicate_zero, List.getElem?_cons_zero, List.getElem?_cons_succ, List.set_cons_zero, List.set_cons_succ, Int.cast_ofNat_Int, Nat.reduceBEq, Int.reduceBEq, Nat.reduceAdd, Nat.reduceSub, Nat.reduceLT, Nat.reduceLeDiff, Nat.zero_add, Nat.add_zero, Nat.sub_zero, Nat.sub_self, ↓reduceIte, if_true, if_false, Bool.not_true, Bool.not_false, Bool.false_eq_true, Bool.true_eq_false, decide_true, decide_false, decide_not, true_and, and_true, and_self, true_or, or_true, not_true_eq_false, not_false_eq_true, ne_eq, reduceCtorEq, Int.reduceLT, Int.reduceLE, Int.reduceNeg, Int.reduceSub, Int.reduceAdd, Int.reduceMul, Int.reducePow, Int.reduceToNat, sz, D.dat, D.datL, D.dep, D.depL, szl, inb, List.any_cons, List.any_nil, Bool.true_and, Bool.false_and, Bool.and_true, Bool.and_false, Bool.or_false, Bool.false_or, Bool.true_or, Bool.or_true, Nat.max_self, Nat.max_zero, Nat.zero_max, Nat.min_self, Nat.zero_le, Nat.min_zero, Nat.zero_min, forL, forX, iR1, iR2, rng1, rng2, iE, itOf, sFor, bYes, hl, decide_eq_false a]
    have c2 : bT (e2 dIn (eVar 0) (eTup (aCons (eC (.str ".")) (aCons (eC (.str "..")) (aNil))))) [some (.str x), none] h = .ok (D.eqb (.str ".") (.str x) || (D.eqb (.str "..") (.str x) || false)) h := by
      simp only [sSeq, sIf, sB, sE, sAsg, sRet, sRetN, sNil, sExpr, sBrk, sCnt, gN, gT, gsC, gsN, FK.e1, FK.e2, eC, eVar, eCall, aNil, aCons, M.bind, M.pure, eTup, eLst, eNew, eSl, oNone, oSome, bT, bNot, bAnd, bOr, eAnd, eOr, eNot, eIf, eCh, truth, eMs, eMl, dAdd, dSub, dMul, dFdiv, dMod, dLe, dLt, dGe, dGt, dEq, dNe, dIs, dIsnt, D.isNon, dIn, dNotIn, dIdx, dSl, dLen, dInt, dOrd_one, dMax2, dMin2, dTuple, dList, dListC, dApp, dNeg, vw, seq, lstOf, fnD, List.map_cons, List.map_nil, List.length_cons, List.length_nil, List.cons_append, List.nil_append, List.append_nil, List.replicate_succ, List.replicate_zero, List.getElem?_cons_zero, List.getElem?_cons_succ, List.set_cons_zero, List.set_cons_succ, Int.cast_ofNat_Int, Nat.reduceBEq, Int.reduceBEq, Nat.reduceAdd, Nat.reduceSub, Nat.reduceLT, Nat.reduceLeDiff, Nat.zero_add, Nat.add_zero, Nat.sub_zero, Nat.sub_self, ↓reduceIte, if_true, if_false, Bool.not_true, Bool.not_false, Bool.false_eq_true, Bool.true_eq_false, decide_true, decide_false, decide_not, true_and, and_true, and_self, true_or, or_true, not_true_eq_false, not_false_eq_true, ne_eq, reduceCtorEq, Int.reduceLT, Int.reduceLE, Int.reduceNeg, Int.reduceSub, Int.reduceAdd, Int.reduceMul, Int.reducePow, Int.reduceToNat, sz, D.dat, D.datL, D.dep, D.depL, szl, inb, List.any_cons, List.any_nil, Bool.true_and, Bool.false_and, Bool.and_true, Bool.and_false, Bool.or_false, Bool.false_or, Bool.true_or, Bool.or_true, Nat.max_self, Nat.max_zero, Nat.zero_max, Nat.min_self, Nat.zero_le, Nat.min_zero, Nat.zero_min, forL, forX, iR1, iR2, rng1, rng2, iE, itOf, sFor, bYes]
    unfold st0 bOr bNot
    unfold M.bind
    rw [c1]
    cases decide ((1 : Int) ≤ x.length) && decide ((x.length : Int) ≤ 100) with
    | false => rfl
    | true =>
      rw [Bool.true_and]
      refine c2.trans ?_
      cases D.eqb (.str ".") (.str x) <;> cases D.eqb (.str "..") (.str x) <;> rfl
  · rw [Bool.not_eq_true'] at e
    refine Good.rt rfl ?_
    rw [e]
    exact ⟨rfl, rfl⟩
  · have e' : st0 x = true := by simpa using e
    rw [e', Bool.true_and]
    refine Good.seq (Good.forL (fun i ρ h' => h' = h ∧ (∃ y, ρ = [some (.str x), y]) ∧ (x.cps.toList.take i).any badC = false) (chars x) ⟨rfl, ⟨_, rfl⟩, rfl⟩ (fun i d ρ h' e q => ?_) (fun ρ h' q => ?_))
    · obtain ⟨rfl, ⟨y, rfl⟩, q⟩ := q
      obtain ⟨c, e2, rfl⟩ := chars_get e
      refine ⟨_, rfl, Good.ite (badC c) (badC_ok rfl) (fun b => ?_) (fun b => ?_)⟩
      · refine Good.rt rfl ?_
        rw [any_of_mem e2 b]
        exact ⟨rfl, rfl⟩
      · exact Good.nx rfl ⟨rfl, ⟨_, rfl⟩, by rw [any_take e2, q, b]; rfl⟩
    · obtain ⟨rfl, ⟨y, rfl⟩, q⟩ := q
      have : (chars x).length = x.cps.toList.length := by simp [chars]
      rw [this, List.take_length] at q
      exact Good.rt rfl ⟨by rw [q]; rfl, rfl⟩
theorem isn_ok (x : Str) (hl : x.length ≤ 16777216) (h : CH) : callP 1 (fnD 2 isNameB) [.str x] h = .ok (.bl (nm x)) h := by
  obtain ⟨d, h', e, rfl, rfl⟩ := isn_fn x hl []
  exact callP_ok rfl e (fz_nr rfl)
/-- the elements alone -/
theorem eLc_map {it : ITD} {g : GD} {f : ED} {vs : List Nat} {ρ : Env} {h : CH} {ds : List D} (F : D → D) {o : Option Nat} (ho : o = none := by rfl) (hi : it ρ h = .ok (ds, o) h) (hl : ds.length ≤ 16777216) (q : ∀ d ∈ ds, ∃ ρ1, g d (wipeE ρ vs) = some ρ1 ∧ f ρ1 h = .ok (F d) h) :
    eLc lcEnd it g bYes f vs ρ h = .ok (.lst (ds.map F)) h := by
  subst ho
  obtain ⟨ys, e, l, p⟩ := eLc_list (it := it) (g := g) (f := f) (vs := vs) (ρ := ρ) (h := h) (fun i y => ∃ d, ds[i]? = some d ∧ y = F d) hi hl (fun i d e => by
    obtain ⟨ρ1, e1, e2⟩ := q d (List.mem_of_getElem? e)
    exact ⟨ρ1, _, e1, e2, d, e, rfl⟩)
  rw [e, show ys = ds.map F from List.ext_getElem? fun i => by
    rw [List.getElem?_map]
    cases e1 : ys[i]? with
    | some y =>
      obtain ⟨d, e2, rfl⟩ := p i y e1
      rw [e2]; rfl
    | none =>
      have := List.getElem?_eq_none_iff.mp e1
      rw [List.getElem?_eq_none_iff.mpr (by omega)]; rfl]
theorem len_join_mem {a : Str} : ∀ {ys : List Str} {y : Str}, y ∈ ys → y.length ≤ (Str.join a ys).length
  | [y], _, h => by rw [List.mem_singleton.mp h]; exact Nat.le_refl _
  | y :: z :: ys, w, h => by
    have e : (Str.join a (y :: z :: ys)).length = y.length + a.length + (Str.join a (z :: ys)).length := by
      show ((y ++ a) ++ Str.join a (z :: ys)).length = _
      rw [PySem.Str.length_append, PySem.Str.length_append]
    rcases List.mem_cons.mp h with rfl | h
    · omega
    · have := len_join_mem (a := a) h
      omega
theorem len_split {x y : Str} : ∀ p ∈ Txt.split x y, p.length ≤ x.length := fun p hp => by
  have := len_join_mem (a := y) hp
  rwa [StrLaws.join_split] at this
theorem count_join {a : Str} (ha : a.length = 1) : ∀ ys : List Str, ys.length ≤ (Str.join a ys).length + 1
  | [] => Nat.zero_le _
  | [y] => by simp
  | y :: z :: ys => by
    have e : (Str.join a (y :: z :: ys)).length = y.length + a.length + (Str.join a (z :: ys)).length := by
      show ((y ++ a) ++ Str.join a (z :: ys)).length = _
      rw [PySem.Str.length_append, PySem.Str.length_append]
    have := count_join ha (z :: ys)
    simp only [List.length_cons] at *
    omega
theorem count_split {x y : Str} (hy : y.length = 1) : (Txt.split x y).length ≤ x.length + 1 := by
  have := count_join hy (Txt.split x y)
  rwa [StrLaws.join_split] at this
theorem nrL_strs : ∀ zs : List Str, D.nrL (zs.map D.str) = true
  | [] => rfl
  | z :: zs => nrL_strs zs
theorem nrL_tup (zs : List Str) : D.nrL [D.tup (zs.map D.str)] = true := by
  show (D.nrL (zs.map D.str) && true) = true
  rw [nrL_strs]; rfl
noncomputable def readPathB : SD := sSeq (sIf (bT (e2 dEq (eVar 0) (eC (.str "")))) (sRet (eTup (aNil))) (sNil))
  (sSeq (sAsg (eMs dSplit (eVar 0) (aCons (eC (.str "/")) (aNil))) (gN 1))
  (sSeq (sFor (iE (eVar 1)) (gN 2) (sIf (bNot (bT (eCall (callP 1 (fnD 2 isNameB)) (aCons (eVar 2) (aNil))))) (sRet (eC .non)) (sNil)))
  (sRet (eCall dTuple (aCons (eVar 1) (aNil))))))
abbrev sl : Str := "/"
theorem len_sl : sl.length = 1 := by decide
def rdPath (x : Str) : D := if D.eqb (.str x) (.str "") then .tup [] else if (Txt.split x sl).all nm then .tup ((Txt.split x sl).map D.str) else .non
theorem read_ok (x : Str) (hl : x.length ≤ 1000000) (h : CH) : callP 1 (fnD 3 readPathB) [.str x] h = .ok (rdPath x) h := by
  have hl2 : x.length + 2 ≤ 16777216 := by omega
  have lsl : (Str.ofString "/").length = 1 := len_sl
  obtain ⟨d, h', e, rfl, rfl⟩ := Good.fn (N := 3) (body := readPathB) (ds := [.str x]) (h := []) (ρ := [some (.str x), none, none]) (T := fun d h' => d = rdPath x ∧ h' = []) (by
    unfold readPathB rdPath
    refine Good.seq (Good.ite (D.eqb (.str x) (.str "")) (by (simp only [sSeq, sIf, sB, sE, sAsg, sRet, sRetN, sNil, sExpr, sBrk, sCnt, gN, gT, gsC, gsN, FK.e1, FK.e2, eC, eVar, eCall, aNil, aCons, M.bind, M.pure, eTup, eLst, eNew, eSl, oNone, oSome, bT, bNot, bAnd, bOr, eAnd, eOr, eNot, eIf, eCh, truth, eMs, eMl, dAdd, dSub, dMul, dFdiv, dMod, dLe, dLt, dGe, dGt, dEq, dNe, dIs, dIsnt, D.isNon, dIn, dNotIn, dIdx, dSl, dLen, dInt, dOrd_one, dMax2, dMin2, dTuple, dList, dListC, dApp, dNeg, vw, seq, lstOf, fnD, List.map_cons, List.map_nil, List.length_cons, List.length_nil, List.cons_append, List.nil_append, List.append_nil, List.replicate_succ, List.replicate_zero, List.getElem?_cons_zero, List.getElem?_cons_succ, List.set_cons_zero, List.set_cons_succ, Int.cast_ofNat_Int, Nat.reduceBEq, Int.reduceBEq, Nat.reduceAdd, Nat.reduceSub, Nat.reduceLT, Nat.reduceLeDiff, Nat.zero_add, Nat.add_zero, Nat.sub_zero, Nat.sub_self, ↓reduceIte, if_true, if_false, Bool.not_true, Bool.not_false, Bool.false_eq_true, Bool.true_eq_false, decide_true, decide_false, decide_not, true_and, and_true, and_self, true_or, or_true, not_true_eq_false, not_false_eq_true, ne_eq, reduceCtorEq, Int.reduceLT, Int.reduceLE, Int.reduceNeg, Int.reduceSub, Int.reduceAdd, Int.reduceMul, Int.reducePow, Int.reduceToNat, sz, D.dat, D.datL, D.dep, D.depL, szl, inb, List.any_cons, List.any_nil, Bool.true_and, Bool.false_and, Bool.and_true, Bool.and_false, Bool.or_false, Bool.false_or, Bool.true_or, Bool.or_true, Nat.max_self, Nat.max_zero, Nat.zero_max, Nat.min_self, Nat.zero_le, Nat.min_zero, Nat.zero_min, forL, forX, iR1, iR2, rng1, rng2, iE, itOf, sFor, bYes] <;> rfl)) (fun q => Good.rt (d := .tup []) (by (simp only [sSeq, sIf, sB, sE, sAsg, sRet, sRetN, sNil, sExpr, sBrk, sCnt, gN, gT, gsC, gsN, FK.e1, FK.e2, eC, eVar, eCall, aNil, aCons, M.bind, M.pure, eTup, eLst, eNew, eSl, oNone, oSome, bT, bNot, bAnd, bOr, eAnd, eOr, eNot, eIf, eCh, truth, eMs, eMl, dAdd, dSub, dMul, dFdiv, dMod, dLe, dLt, dGe, dGt, dEq, dNe, dIs, dIsnt, D.isNon, dIn, dNotIn, dIdx, dSl, dLen, dInt, dOrd_one, dMax2, dMin2, dTuple, dList, dListC, dApp, dNeg, vw, seq, lstOf, fnD, List.map_cons, List.map_nil, List.length_cons, List.length_nil, List.cons_append, List.nil_append, List.append_nil, List.replicate_succ, List.replicate_zero, List.getElem?_cons_zero, List.getElem?_cons_succ, List.set_cons_zero, List.set_cons_succ, Int.cast_ofNat_Int, Nat.reduceBEq, Int.reduceBEq, Nat.reduceAdd, Nat.reduceSub, Nat.reduceLT, Nat.reduceLeDiff, Nat.zero_add, Nat.add_zero, Nat.sub_zero, Nat.sub_self, ↓reduceIte, if_true, if_false, Bool.not_true, Bool.not_false, Bool.false_eq_true, Bool.true_eq_false, decide_true, decide_false, decide_not, true_and, and_true, and_self, true_or, or_true, not_true_eq_false, not_false_eq_true, ne_eq, reduceCtorEq, Int.reduceLT, Int.reduceLE, Int.reduceNeg, Int.reduceSub, Int.reduceAdd, Int.reduceMul, Int.reducePow, Int.reduceToNat, sz, D.dat, D.datL, D.dep, D.depL, szl, inb, List.any_cons, List.any_nil, Bool.true_and, Bool.false_and, Bool.and_true, Bool.and_false, Bool.or_false, Bool.false_or, Bool.true_or, Bool.or_true, Nat.max_self, Nat.max_zero, Nat.zero_max, Nat.min_self, Nat.zero_le, Nat.min_zero, Nat.zero_min, forL, forX, iR1, iR2, rng1, rng2, iE, itOf, sFor, bYes] <;> rfl)) ⟨by rw [if_pos q], rfl⟩) (fun q => ?_))
    rw [q]
    refine Good.nx rfl (Good.seq (Good.nx (ρ := [some (.str x), some (.lst ((Txt.split x sl).map D.str)), none]) (h := []) (by (simp only [sSeq, sIf, sB, sE, sAsg, sRet, sRetN, sNil, sExpr, sBrk, sCnt, gN, gT, gsC, gsN, FK.e1, FK.e2, eC, eVar, eCall, aNil, aCons, M.bind, M.pure, eTup, eLst, eNew, eSl, oNone, oSome, bT, bNot, bAnd, bOr, eAnd, eOr, eNot, eIf, eCh, truth, eMs, eMl, dAdd, dSub, dMul, dFdiv, dMod, dLe, dLt, dGe, dGt, dEq, dNe, dIs, dIsnt, D.isNon, dIn, dNotIn, dIdx, dSl, dLen, dInt, dOrd_one, dMax2, dMin2, dTuple, dList, dListC, dApp, dNeg, vw, seq, lstOf, fnD, List.map_cons, List.map_nil, List.length_cons, List.length_nil, List.cons_append, List.nil_append, List.append_nil, List.replicate_succ, List.replicate_zero, List.getElem?_cons_zero, List.getElem?_cons_succ, List.set_cons_zero, List.set_cons_succ, Int.cast_ofNat_Int, Nat.reduceBEq, Int.reduceBEq, Nat.reduceAdd, Nat.reduceSub, Nat.reduceLT, Nat.reduceLeDiff, Nat.zero_add, Nat.add_zero, Nat.sub_zero, Nat.sub_self, ↓reduceIte, if_true, if_false, Bool.not_true, Bool.not_false, Bool.false_eq_true, Bool.true_eq_false, decide_true, decide_false, decide_not, true_and, and_true, and_self, true_or, or_true, not_true_eq_false, not_false_eq_true, ne_eq, reduceCtorEq, Int.reduceLT, Int.reduceLE, Int.reduceNeg, Int.reduceSub, Int.reduceAdd, Int.reduceMul, Int.reducePow, Int.reduceToNat, sz, D.dat, D.datL, D.dep, D.depL, szl, inb, List.any_cons, List.any_nil, Bool.true_and, Bool.false_and, Bool.and_true, Bool.and_false, Bool.or_false, Bool.false_or, Bool.true_or, Bool.or_true, Nat.max_self, Nat.max_zero, Nat.zero_max, Nat.min_self, Nat.zero_le, Nat.min_zero, Nat.zero_min, forL, forX, iR1, iR2, rng1, rng2, iE, itOf, sFor, bYes, dSplit, lsl, hl2] <;> rfl)) ?_))
    refine Good.seq (Good.sFor (ds := (Txt.split x sl).map D.str) rfl (Good.forL (fun i ρ h => ∃ y, ρ = [some (.str x), some (.lst ((Txt.split x sl).map D.str)), y] ∧ h = [] ∧ ((Txt.split x sl).take i).all nm = true) _ ⟨_, rfl, rfl, rfl⟩ ?_ ?_))
    · rintro i d ρ h e ⟨y, rfl, rfl, hy⟩
      rw [List.getElem?_map] at e
      cases ez : (Txt.split x sl)[i]? with
      | none => rw [ez] at e; cases e
      | some z =>
        rw [ez] at e
        cases e
        have hz := len_split z (List.mem_of_getElem? ez)
        have e3 := isn_ok z (by omega) []
        refine ⟨_, rfl, Good.ite (!nm z) (by (simp only [sSeq, sIf, sB, sE, sAsg, sRet, sRetN, sNil, sExpr, sBrk, sCnt, gN, gT, gsC, gsN, FK.e1, FK.e2, eC, eVar, eCall, aNil, aCons, M.bind, M.pure, eTup, eLst, eNew, eSl, oNone, oSome, bT, bNot, bAnd, bOr, eAnd, eOr, eNot, eIf, eCh, truth, eMs, eMl, dAdd, dSub, dMul, dFdiv, dMod, dLe, dLt, dGe, dGt, dEq, dNe, dIs, dIsnt, D.isNon, dIn, dNotIn, dIdx, dSl, dLen, dInt, dOrd_one, dMax2, dMin2, dTuple, dList, dListC, dApp, dNeg, vw, seq, lstOf, fnD, List.map_cons, List.map_nil, List.length_cons, List.length_nil, List.cons_append, List.nil_append, List.append_nil, List.replicate_succ, List.replicate_zero, List.getElem?_cons_zero, List.getElem?_cons_succ, List.set_cons_zero, List.set_cons_succ, Int.cast_ofNat_Int, Nat.reduceBEq, Int.reduceBEq, Nat.reduceAdd, Nat.reduceSub, Nat.reduceLT, Nat.reduceLeDiff, Nat.zero_add, Nat.add_zero, Nat.sub_zero, Nat.sub_self, ↓reduceIte, if_true, if_false, Bool.not_true, Bool.not_false, Bool.false_eq_true, Bool.true_eq_false, decide_true, decide_false, decide_not, true_and, and_true, and_self, true_or, or_true, not_true_eq_false, not_false_eq_true, ne_eq, reduceCtorEq, Int.reduceLT, Int.reduceLE, Int.reduceNeg, Int.reduceSub, Int.reduceAdd, Int.reduceMul, Int.reducePow, Int.reduceToNat, sz, D.dat, D.datL, D.dep, D.depL, szl, inb, List.any_cons, List.any_nil, Bool.true_and, Bool.false_and, Bool.and_true, Bool.and_false, Bool.or_false, Bool.false_or, Bool.true_or, Bool.or_true, Nat.max_self, Nat.max_zero, Nat.zero_max, Nat.min_self, Nat.zero_le, Nat.min_zero, Nat.zero_min, forL, forX, iR1, iR2, rng1, rng2, iE, itOf, sFor, bYes, e3] <;> rfl)) (fun q => ?_) (fun q => ?_)⟩
        · refine Good.rt (by (simp only [sSeq, sIf, sB, sE, sAsg, sRet, sRetN, sNil, sExpr, sBrk, sCnt, gN, gT, gsC, gsN, FK.e1, FK.e2, eC, eVar, eCall, aNil, aCons, M.bind, M.pure, eTup, eLst, eNew, eSl, oNone, oSome, bT, bNot, bAnd, bOr, eAnd, eOr, eNot, eIf, eCh, truth, eMs, eMl, dAdd, dSub, dMul, dFdiv, dMod, dLe, dLt, dGe, dGt, dEq, dNe, dIs, dIsnt, D.isNon, dIn, dNotIn, dIdx, dSl, dLen, dInt, dOrd_one, dMax2, dMin2, dTuple, dList, dListC, dApp, dNeg, vw, seq, lstOf, fnD, List.map_cons, List.map_nil, List.length_cons, List.length_nil, List.cons_append, List.nil_append, List.append_nil, List.replicate_succ, List.replicate_zero, List.getElem?_cons_zero, List.getElem?_cons_succ, List.set_cons_zero, List.set_cons_succ, Int.cast_ofNat_Int, Nat.reduceBEq, Int.reduceBEq, Nat.reduceAdd, Nat.reduceSub, Nat.reduceLT, Nat.reduceLeDiff, Nat.zero_add, Nat.add_zero, Nat.sub_zero, Nat.sub_self, ↓reduceIte, if_true, if_false, Bool.not_true, Bool.not_false, Bool.false_eq_true, Bool.true_eq_false, decide_true, decide_false, decide_not, true_and, and_true, and_self, true_or, or_true, not_true_eq_false, not_false_eq_true, ne_eq, reduceCtorEq, Int.reduceLT, Int.reduceLE, Int.reduceNeg, Int.reduceSub, Int.reduceAdd, Int.reduceMul, Int.reducePow, Int.reduceToNat, sz, D.dat, D.datL, D.dep, D.depL, szl, inb, List.any_cons, List.any_nil, Bool.true_and, Bool.false_and, Bool.and_true, Bool.and_false, Bool.or_false, Bool.false_or, Bool.true_or, Bool.or_true, Nat.max_self, Nat.max_zero, Nat.zero_max, Nat.min_self, Nat.zero_le, Nat.min_zero, Nat.zero_min, forL, forX, iR1, iR2, rng1, rng2, iE, itOf, sFor, bYes] <;> rfl)) ⟨?_, rfl⟩
          rw [if_neg (by decide), if_neg]
          intro hh
          have := List.all_eq_true.mp hh z (List.mem_of_getElem? ez)
          rw [this] at q
          cases q
        · refine Good.nx rfl ⟨_, rfl, rfl, ?_⟩
          rw [List.take_succ, ez, List.all_append, hy]
          have : nm z = true := by simpa using q
          simp [this]
    · rintro ρ h ⟨y, rfl, rfl, hy⟩
      rw [List.length_map, List.take_length] at hy
      refine Good.rt (by (simp only [sSeq, sIf, sB, sE, sAsg, sRet, sRetN, sNil, sExpr, sBrk, sCnt, gN, gT, gsC, gsN, FK.e1, FK.e2, eC, eVar, eCall, aNil, aCons, M.bind, M.pure, eTup, eLst, eNew, eSl, oNone, oSome, bT, bNot, bAnd, bOr, eAnd, eOr, eNot, eIf, eCh, truth, eMs, eMl, dAdd, dSub, dMul, dFdiv, dMod, dLe, dLt, dGe, dGt, dEq, dNe, dIs, dIsnt, D.isNon, dIn, dNotIn, dIdx, dSl, dLen, dInt, dOrd_one, dMax2, dMin2, dTuple, dList, dListC, dApp, dNeg, vw, seq, lstOf, fnD, List.map_cons, List.map_nil, List.length_cons, List.length_nil, List.cons_append, List.nil_append, List.append_nil, List.replicate_succ, List.replicate_zero, List.getElem?_cons_zero, List.getElem?_cons_succ, List.set_cons_zero, List.set_cons_succ, Int.cast_ofNat_Int, Nat.reduceBEq, Int.reduceBEq, Nat.reduceAdd, Nat.reduceSub, Nat.reduceLT, Nat.reduceLeDiff, Nat.zero_add, Nat.add_zero, Nat.sub_zero, Nat.sub_self, ↓reduceIte, if_true, if_false, Bool.not_true, Bool.not_false, Bool.false_eq_true, Bool.true_eq_false, decide_true, decide_false, decide_not, true_and, and_true, and_self, true_or, or_true, not_true_eq_false, not_false_eq_true, ne_eq, reduceCtorEq, Int.reduceLT, Int.reduceLE, Int.reduceNeg, Int.reduceSub, Int.reduceAdd, Int.reduceMul, Int.reducePow, Int.reduceToNat, sz, D.dat, D.datL, D.dep, D.depL, szl, inb, List.any_cons, List.any_nil, Bool.true_and, Bool.false_and, Bool.and_true, Bool.and_false, Bool.or_false, Bool.false_or, Bool.true_or, Bool.or_true, Nat.max_self, Nat.max_zero, Nat.zero_max, Nat.min_self, Nat.zero_le, Nat.min_zero, Nat.zero_min, forL, forX, iR1, iR2, rng1, rng2, iE, itOf, sFor, bYes] <;> rfl)) ⟨?_, rfl⟩
      rw [if_neg (by decide), if_pos hy])
  refine callP_ok rfl e (fz_nr ?_)
  unfold rdPath
  split
  · rfl
  · split
    · exact nrL_strs _
    · rfl
theorem datL_strs : ∀ zs : List Str, D.datL (zs.map D.str) = true
  | [] => rfl
  | z :: zs => datL_strs zs
theorem depL_strs : ∀ zs : List Str, D.depL (zs.map D.str) = 0
  | [] => rfl
  | z :: zs => by
    show max 0 (D.depL (zs.map D.str)) = 0
    rw [depL_strs zs]; rfl
theorem eqvAll_strs : ∀ zs : List Str, PyData.eqvAll (D.pyL (zs.map D.str)) (D.pyL (zs.map D.str)) = true
  | [] => rfl
  | z :: zs => by
    show (PyData.eqv (.str z) (.str z) && PyData.eqvAll (D.pyL (zs.map D.str)) (D.pyL (zs.map D.str))) = true
    rw [eqvAll_strs zs]
    show ((z == z) && true) = true
    simp
theorem eqb_tupS (zs : List Str) : D.eqb (.tup (zs.map .str)) (.tup (zs.map .str)) = true := eqvAll_strs zs
theorem eqb_refl (x : Str) : D.eqb (.str x) (.str x) = true := by
  show (x == x) = true
  simp
theorem blsD_map : ∀ zs : List Bool, blsD (zs.map D.bl) = some zs
  | [] => rfl
  | z :: zs => by rw [List.map_cons, blsD, blsD_map zs]; rfl
theorem dAll_lst {bs : List Bool} {h : CH} : dAll [.lst (bs.map .bl)] h = .ok (.bl (bs.all id)) h := by
  unfold dAll lstOf vw
  dsimp only
  rw [blsD_map]
theorem dAny_lst {bs : List Bool} {h : CH} : dAny [.lst (bs.map .bl)] h = .ok (.bl (bs.any id)) h := by
  unfold dAny lstOf vw
  dsimp only
  rw [blsD_map]
theorem gN_wipe {ρ : Env} {i : Nat} {d : D} : gN i d (wipeE ρ [i]) = some ((wipeE ρ [i]).set i (some d)) := rfl
end FK

/-! part: FKE -/
set_option linter.all false
set_option maxRecDepth 100000
set_option maxHeartbeats 4000000
namespace FK
open PySem PySem.Spec L2
/-! FKE: endings, stems, names with a word. -/
theorem Good.wh {c : BD} {b : SD} {N : Env → CH → Prop} {T : D → CH → Prop} (I : Nat → Env → CH → Prop)
    (step : ∀ n ρ h, I n ρ h → ∃ k h1, c ρ h = .ok k h1 ∧ (k = false → N ρ h1) ∧ (k = true → Good (b ρ h1) (fun ρ2 h2 => ∃ m, m < n ∧ I m ρ2 h2) T)) : ∀ (fuel n : Nat) (ρ : Env) (h : CH), n < fuel → I n ρ h → Good (whL c b fuel ρ h) N T
  | 0, n, _, _, hn, _ => absurd hn (Nat.not_lt_zero n)
  | fuel + 1, n, ρ, h, hn, hi => by
    obtain ⟨k, h1, e, q1, q2⟩ := step n ρ h hi
    unfold whL sB
    rw [e]
    cases k with
    | false => exact q1 rfl
    | true =>
      have g := q2 rfl
      show Good (match b ρ h1 with | .ok .nx ρ2 h2 => whL c b fuel ρ2 h2 | .ok .ct ρ2 h2 => whL c b fuel ρ2 h2 | .ok .bk ρ2 h2 => .ok .nx ρ2 h2 | r => r) N T
      cases eb : b ρ h1 with
      | ok f ρ2 h2 =>
        rw [eb] at g
        cases f with
        | nx =>
          obtain ⟨m, hm, hi2⟩ := g
          exact Good.wh I step fuel m ρ2 h2 (by omega) hi2
        | rt d => exact g
        | _ => exact g.elim
      | _ => rw [eb] at g; exact g.elim
abbrev dot : Str := "."
/-- where the last dot behind the first sign is, or 0 -/
def LastDot (x : Str) (a : Nat) : Prop := (a = 0 ∨ (tx x)[a]? = some 46) ∧ ∀ k, a < k → (tx x)[k]? ≠ some 46
theorem LastDot.uniq {x : Str} {a b : Nat} (ha : LastDot x a) (hb : LastDot x b) : a = b := by
  rcases Nat.lt_trichotomy a b with h | h | h
  · rcases hb.1 with rfl | e
    · omega
    · exact absurd e (ha.2 b h)
  · exact h
  · rcases ha.1 with rfl | e
    · omega
    · exact absurd e (hb.2 a h)
theorem dot_eq : dot = ⟨#[46]⟩ := by decide
theorem rfind_dot (x : Str) : ∃ a, LastDot x a ∧ ((0 < a ∧ Txt.rfind x dot = (a : Int)) ∨ (a = 0 ∧ Txt.rfind x dot ≤ 0)) := by
  have key : ∀ i, StrLaws.At x dot x.length i ↔ (tx x)[i]? = some 46 := fun i => by
    unfold StrLaws.At
    rw [dot_eq]
    exact StrLaws.subAt_one x 46 i
  rcases PyProof.Rows.rfind_whole x dot with ⟨e, hn⟩ | ⟨i, e, hi, hn⟩
  · exact ⟨0, ⟨.inl rfl, fun k _ => fun h => hn k ((key k).mpr h)⟩, .inr ⟨rfl, by omega⟩⟩
  · refine ⟨i, ⟨.inr ((key i).mp hi), fun k hk => fun h => hn k hk ((key k).mpr h)⟩, ?_⟩
    rcases Nat.eq_zero_or_pos i with rfl | h
    · exact .inr ⟨rfl, by omega⟩
    · exact .inl ⟨h, e⟩
noncomputable def ldot (x : Str) : Nat := (rfind_dot x).choose
theorem ldot_spec (x : Str) : LastDot x (ldot x) := (rfind_dot x).choose_spec.1
theorem ldot_rfind (x : Str) : (0 < ldot x ∧ Txt.rfind x dot = (ldot x : Int)) ∨ (ldot x = 0 ∧ Txt.rfind x dot ≤ 0) := (rfind_dot x).choose_spec.2
theorem ldot_lt (x : Str) : 0 < ldot x → ldot x < x.length := fun h => by
  rcases (ldot_spec x).1 with e | e
  · omega
  · rw [← tx_len]
    exact (List.getElem?_eq_some_iff.mp e).1
/-- the ending -/
noncomputable def endg (x : Str) : Str := if 0 < ldot x ∧ x.length - ldot x ≤ 10 then cutS x (some (ldot x : Int)) none else ""
theorem endg_tx (x : Str) : tx (endg x) = (tx x).drop (x.length - (endg x).length) ∧ (endg x).length ≤ 10 ∧ (endg x).length ≤ x.length := by
  unfold endg
  by_cases h : 0 < ldot x ∧ x.length - ldot x ≤ 10
  · rw [if_pos h]
    have hl := ldot_lt x h.1
    have e : tx (cutS x (some (ldot x : Int)) none) = (tx x).drop (ldot x) := by
      rw [tx_cut, HT.sIx_nat, Nat.min_eq_left (by omega)]
      show List.take (x.length - ldot x) _ = _
      exact List.take_of_length_le (by rw [List.length_drop, tx_len]; omega)
    have el : (cutS x (some (ldot x : Int)) none).length = x.length - ldot x := by rw [← tx_len, e, List.length_drop, tx_len]
    rw [el, e]
    exact ⟨by rw [show x.length - (x.length - ldot x) = ldot x by omega], by omega, by omega⟩
  · rw [if_neg h]
    have e0 : (Str.ofString "").length = 0 := by decide
    rw [e0]
    refine ⟨?_, by omega, by omega⟩
    rw [Nat.sub_zero, ← tx_len, List.drop_length]
    decide
noncomputable def endingB : SD := sSeq (sAsg (eMs dRfind (eVar 0) (aCons (eC (.str ".")) (aNil))) (gN 1))
  (sSeq (sIf (bAnd (bT (e2 dGt (eVar 1) (eC (.int 0)))) (bT (e2 dLe (e2 dSub (eCall dLen (aCons (eVar 0) (aNil))) (eVar 1)) (eC (.int 10))))) (sRet (eSl (eVar 0) (oSome (eVar 1)) (oNone))) (sNil))
  (sRet (eC (.str ""))))
theorem ending_ok (x : Str) (hl : x.length ≤ 16777216) (h : CH) : callP 1 (fnD 2 endingB) [.str x] h = .ok (.str (endg x)) h := by
  refine callP_ok rfl (?_ : fnD 2 endingB [.str x] [] = .ok (.str (endg x)) []) (fz_nr rfl)
  obtain ⟨d, h', e, rfl, rfl⟩ := Good.fn (N := 2) (body := endingB) (ds := [.str x]) (h := []) (ρ := [some (.str x), none]) (T := fun d h' => d = .str (endg x) ∧ h' = []) (by
    unfold endingB endg
    refine Good.seq (Good.nx (ρ := [some (.str x), some (.int (Txt.rfind x dot))]) (h := []) (by (simp only [sSeq, sIf, sB, sE, sAsg, sRet, sRetN, sNil, sExpr, sBrk, sCnt, gN, gT, gsC, gsN, FK.e1, FK.e2, eC, eVar, eCall, aNil, aCons, M.bind, M.pure, eTup, eLst, eNew, eSl, oNone, oSome, bT, bNot, bAnd, bOr, eAnd, eOr, eNot, eIf, eCh, truth, eMs, eMl, dAdd, dSub, dMul, dFdiv, dMod, dLe, dLt, dGe, dGt, dEq, dNe, dIs, dIsnt, D.isNon, dIn, dNotIn, dIdx, dSl, dLen, dInt, dOrd_one, dMax2, dMin2, dTuple, dList, dListC, dApp, dNeg, vw, seq, lstOf, fnD, List.map_cons, List.map_nil, List.length_cons, List.length_nil, List.cons_append, List.nil_append, List.append_nil, List.replicate_succ, List.replicate_zero, List.getElem?_cons_zero, List.getElem?_cons_succ, List.set_cons_zero, List.set_cons_succ, Int.cast_ofNat_Int, Nat.reduceBEq, Int.reduceBEq, Nat.reduceAdd, Nat.reduceSub, Nat.reduceLT, Nat.reduceLeDiff, Nat.zero_add, Nat.add_zero, Nat.sub_zero, Nat.sub_self, ↓reduceIte, if_true, if_false, Bool.not_true, Bool.not_false, Bool.false_eq_true, Bool.true_eq_false, decide_true, decide_false, decide_not, true_and, and_true, and_self, true_or, or_true, not_true_eq_false, not_false_eq_true, ne_eq, reduceCtorEq, Int.reduceLT, Int.reduceLE, Int.reduceNeg, Int.reduceSub, Int.reduceAdd, Int.reduceMul, Int.reducePow, Int.reduceToNat, sz, D.dat, D.datL, D.dep, D.depL, szl, inb, List.any_cons, List.any_nil, Bool.true_and, Bool.false_and, Bool.and_true, Bool.and_false, Bool.or_false, Bool.false_or, Bool.true_or, Bool.or_true, Nat.max_self, Nat.max_zero, Nat.zero_max, Nat.min_self, Nat.zero_le, Nat.min_zero, Nat.zero_min, forL, forX, iR1, iR2, rng1, rng2, iE, itOf, sFor, bYes, dRfind] <;> rfl)) ?_)
    rcases ldot_rfind x with ⟨h0, e⟩ | ⟨h0, e⟩
    · rw [e]
      have hlt := ldot_lt x h0
      have h1 : (0 : Int) < ldot x := by omega
      by_cases h2 : (x.length : Int) - ldot x ≤ 10
      · refine Good.seq (Good.ifT [] (by simp only [sSeq, sIf, sB, sE, sAsg, sRet, sRetN, sNil, sExpr, sBrk, sCnt, gN, gT, gsC, gsN, FK.e1, FK.e2, eC, eVar, eCall, aNil, aCons, M.bind, M.pure, eTup, eLst, eNew, eSl, oNone, oSome, bT, bNot, bAnd, bOr, eAnd, eOr, eNot, eIf, eCh, truth, eMs, eMl, dAdd, dSub, dMul, dFdiv, dMod, dLe, dLt, dGe, dGt, dEq, dNe, dIs, dIsnt, D.isNon, dIn, dNotIn, dIdx, dSl, dLen, dInt, dOrd_one, dMax2, dMin2, dTuple, dList, dListC, dApp, dNeg, vw, seq, lstOf, fnD, List.map_cons, List.map_nil, List.length_cons, List.length_nil, List.cons_append, List.nil_append, List.append_nil, List.replicate_succ, List.replicate_zero, List.getElem?_cons_zero, List.getElem?_cons_succ, List.set_cons_zero, List.set_cons_succ, Int.cast_ofNat_Int, Nat.reduceBEq, Int.reduceBEq, Nat.reduceAdd, Nat.reduceSub, Nat.reduceLT, Nat.reduceLeDiff, Nat.zero_add, Nat.add_zero, Nat.sub_zero, Nat.sub_self, ↓reduceIte, if_true, if_false, Bool.not_true, Bool.not_false, Bool.false_eq_true, Bool.true_eq_false, decide_true, decide_false, decide_not, true_and, and_true, and_self, true_or, or_true, not_true_eq_false, not_false_eq_true, ne_eq, reduceCtorEq, Int.reduceLT, Int.reduceLE, Int.reduceNeg, Int.reduceSub, Int.reduceAdd, Int.reduceMul, Int.reducePow, Int.reduceToNat, sz, D.dat, D.datL, D.dep, D.depL, szl, inb, List.any_cons, List.any_nil, Bool.true_and, Bool.false_and, Bool.and_true, Bool.and_false, Bool.or_false, Bool.false_or, Bool.true_or, Bool.or_true, Nat.max_self, Nat.max_zero, Nat.zero_max, Nat.min_self, Nat.zero_le, Nat.min_zero, Nat.zero_min, forL, forX, iR1, iR2, rng1, rng2, iE, itOf, sFor, bYes, hl, decide_eq_true h1, decide_eq_true h2, gt_iff_lt]) (Good.rt (d := .str (cutS x (some (ldot x : Int)) none)) (ρ := [some (.str x), some (.int (ldot x))]) (h := []) (by simp only [sSeq, sIf, sB, sE, sAsg, sRet, sRetN, sNil, sExpr, sBrk, sCnt, gN, gT, gsC, gsN, FK.e1, FK.e2, eC, eVar, eCall, aNil, aCons, M.bind, M.pure, eTup, eLst, eNew, eSl, oNone, oSome, bT, bNot, bAnd, bOr, eAnd, eOr, eNot, eIf, eCh, truth, eMs, eMl, dAdd, dSub, dMul, dFdiv, dMod, dLe, dLt, dGe, dGt, dEq, dNe, dIs, dIsnt, D.isNon, dIn, dNotIn, dIdx, dSl, dLen, dInt, dOrd_one, dMax2, dMin2, dTuple, dList, dListC, dApp, dNeg, vw, seq, lstOf, fnD, List.map_cons, List.map_nil, List.length_cons, List.length_nil, List.cons_append, List.nil_append, List.append_nil, List.replicate_succ, List.replicate_zero, List.getElem?_cons_zero, List.getElem?_cons_succ, List.set_cons_zero, List.set_cons_succ, Int.cast_ofNat_Int, Nat.reduceBEq, Int.reduceBEq, Nat.reduceAdd, Nat.reduceSub, Nat.reduceLT, Nat.reduceLeDiff, Nat.zero_add, Nat.add_zero, Nat.sub_zero, Nat.sub_self, ↓reduceIte, if_true, if_false, Bool.not_true, Bool.not_false, Bool.false_eq_true, Bool.true_eq_false, decide_true, decide_false, decide_not, true_and, and_true, and_self, true_or, or_true, not_true_eq_false, not_false_eq_true, ne_eq, reduceCtorEq, Int.reduceLT, Int.reduceLE, Int.reduceNeg, Int.reduceSub, Int.reduceAdd, Int.reduceMul, Int.reducePow, Int.reduceToNat, sz, D.dat, D.datL, D.dep, D.depL, szl, inb, List.any_cons, List.any_nil, Bool.true_and, Bool.false_and, Bool.and_true, Bool.and_false, Bool.or_false, Bool.false_or, Bool.true_or, Bool.or_true, Nat.max_self, Nat.max_zero, Nat.zero_max, Nat.min_self, Nat.zero_le, Nat.min_zero, Nat.zero_min, forL, forX, iR1, iR2, rng1, rng2, iE, itOf, sFor, bYes, hl]) ⟨by rw [if_pos ⟨h0, by omega⟩], rfl⟩))
      · refine Good.seq (Good.ifF [] (by simp only [sSeq, sIf, sB, sE, sAsg, sRet, sRetN, sNil, sExpr, sBrk, sCnt, gN, gT, gsC, gsN, FK.e1, FK.e2, eC, eVar, eCall, aNil, aCons, M.bind, M.pure, eTup, eLst, eNew, eSl, oNone, oSome, bT, bNot, bAnd, bOr, eAnd, eOr, eNot, eIf, eCh, truth, eMs, eMl, dAdd, dSub, dMul, dFdiv, dMod, dLe, dLt, dGe, dGt, dEq, dNe, dIs, dIsnt, D.isNon, dIn, dNotIn, dIdx, dSl, dLen, dInt, dOrd_one, dMax2, dMin2, dTuple, dList, dListC, dApp, dNeg, vw, seq, lstOf, fnD, List.map_cons, List.map_nil, List.length_cons, List.length_nil, List.cons_append, List.nil_append, List.append_nil, List.replicate_succ, List.replicate_zero, List.getElem?_cons_zero, List.getElem?_cons_succ, List.set_cons_zero, List.set_cons_succ, Int.cast_ofNat_Int, Nat.reduceBEq, Int.reduceBEq, Nat.reduceAdd, Nat.reduceSub, Nat.reduceLT, Nat.reduceLeDiff, Nat.zero_add, Nat.add_zero, Nat.sub_zero, Nat.sub_self, ↓reduceIte, if_true, if_false, Bool.not_true, Bool.not_false, Bool.false_eq_true, Bool.true_eq_false, decide_true, decide_false, decide_not, true_and, and_true, and_self, true_or, or_true, not_true_eq_false, not_false_eq_true, ne_eq, reduceCtorEq, Int.reduceLT, Int.reduceLE, Int.reduceNeg, Int.reduceSub, Int.reduceAdd, Int.reduceMul, Int.reducePow, Int.reduceToNat, sz, D.dat, D.datL, D.dep, D.depL, szl, inb, List.any_cons, List.any_nil, Bool.true_and, Bool.false_and, Bool.and_true, Bool.and_false, Bool.or_false, Bool.false_or, Bool.true_or, Bool.or_true, Nat.max_self, Nat.max_zero, Nat.zero_max, Nat.min_self, Nat.zero_le, Nat.min_zero, Nat.zero_min, forL, forX, iR1, iR2, rng1, rng2, iE, itOf, sFor, bYes, hl, decide_eq_true h1, decide_eq_false h2, gt_iff_lt]) (Good.nx rfl (Good.rt rfl ⟨by rw [if_neg (by omega)], rfl⟩)))
    · have h1 : ¬ (0 : Int) < Txt.rfind x dot := by omega
      refine Good.seq (Good.ifF [] (by simp only [sSeq, sIf, sB, sE, sAsg, sRet, sRetN, sNil, sExpr, sBrk, sCnt, gN, gT, gsC, gsN, FK.e1, FK.e2, eC, eVar, eCall, aNil, aCons, M.bind, M.pure, eTup, eLst, eNew, eSl, oNone, oSome, bT, bNot, bAnd, bOr, eAnd, eOr, eNot, eIf, eCh, truth, eMs, eMl, dAdd, dSub, dMul, dFdiv, dMod, dLe, dLt, dGe, dGt, dEq, dNe, dIs, dIsnt, D.isNon, dIn, dNotIn, dIdx, dSl, dLen, dInt, dOrd_one, dMax2, dMin2, dTuple, dList, dListC, dApp, dNeg, vw, seq, lstOf, fnD, List.map_cons, List.map_nil, List.length_cons, List.length_nil, List.cons_append, List.nil_append, List.append_nil, List.replicate_succ, List.replicate_zero, List.getElem?_cons_zero, List.getElem?_cons_succ, List.set_cons_zero, List.set_cons_succ, Int.cast_ofNat_Int, Nat.reduceBEq, Int.reduceBEq, Nat.reduceAdd, Nat.reduceSub, Nat.reduceLT, Nat.reduceLeDiff, Nat.zero_add, Nat.add_zero, Nat.sub_zero, Nat.sub_self, ↓reduceIte, if_true, if_false, Bool.not_true, Bool.not_false, Bool.false_eq_true, Bool.true_eq_false, decide_true, decide_false, decide_not, true_and, and_true, and_self, true_or, or_true, not_true_eq_false, not_false_eq_true, ne_eq, reduceCtorEq, Int.reduceLT, Int.reduceLE, Int.reduceNeg, Int.reduceSub, Int.reduceAdd, Int.reduceMul, Int.reducePow, Int.reduceToNat, sz, D.dat, D.datL, D.dep, D.depL, szl, inb, List.any_cons, List.any_nil, Bool.true_and, Bool.false_and, Bool.and_true, Bool.and_false, Bool.or_false, Bool.false_or, Bool.true_or, Bool.or_true, Nat.max_self, Nat.max_zero, Nat.zero_max, Nat.min_self, Nat.zero_le, Nat.min_zero, Nat.zero_min, forL, forX, iR1, iR2, rng1, rng2, iE, itOf, sFor, bYes, hl, decide_eq_false h1, gt_iff_lt]) (Good.nx rfl (Good.rt rfl ⟨by rw [if_neg (by omega)], rfl⟩))))
  exact e
noncomputable def stemB : SD := sRet (eSl (eVar 0) (oNone) (oSome (e2 dSub (eCall dLen (aCons (eVar 0) (aNil))) (eCall dLen (aCons (eCall (callP 1 (fnD 2 endingB)) (aCons (eVar 0) (aNil))) (aNil))))))
noncomputable def stm (x : Str) : Str := cutS x none (some ((x.length - (endg x).length : Nat) : Int))
theorem stm_tx (x : Str) : tx (stm x) = (tx x).take (x.length - (endg x).length) := by
  unfold stm
  rw [tx_cut, HT.sIx_nat, Nat.min_eq_left (by omega)]
  show List.take (x.length - (endg x).length - 0) ((tx x).drop 0) = _
  rw [Nat.sub_zero, List.drop_zero]
theorem stm_len (x : Str) : (stm x).length = x.length - (endg x).length := by rw [← tx_len, stm_tx, List.length_take, tx_len]; omega
theorem stm_end (x : Str) : stm x ++ endg x = x := tx_ext (by
  have h := (endg_tx x).1
  rw [tx_app, stm_tx]
  conv => lhs; rhs; rw [h]
  exact List.take_append_drop _ _)
theorem stem_ok (x : Str) (hl : x.length ≤ 16777216) (h : CH) : callP 1 (fnD 1 stemB) [.str x] h = .ok (.str (stm x)) h := by
  refine callP_ok rfl (fnD_rt (ρ := [some (.str x)]) (ρ' := [some (.str x)]) (d := .str (stm x)) (h' := []) ?_) (fz_nr rfl)
  unfold stemB
  have e := ending_ok x hl []
  have h2 := endg_tx x
  have hle : (endg x).length ≤ 16777216 := by omega
  have hc : (x.length : Int) - (endg x).length = ((x.length - (endg x).length : Nat) : Int) := by omega
  simp only [sSeq, sIf, sB, sE, sAsg, sRet, sRetN, sNil, sExpr, sBrk, sCnt, gN, gT, gsC, gsN, FK.e1, FK.e2, eC, eVar, eCall, aNil, aCons, M.bind, M.pure, eTup, eLst, eNew, eSl, oNone, oSome, bT, bNot, bAnd, bOr, eAnd, eOr, eNot, eIf, eCh, truth, eMs, eMl, dAdd, dSub, dMul, dFdiv, dMod, dLe, dLt, dGe, dGt, dEq, dNe, dIs, dIsnt, D.isNon, dIn, dNotIn, dIdx, dSl, dLen, dInt, dOrd_one, dMax2, dMin2, dTuple, dList, dListC, dApp, dNeg, vw, seq, lstOf, fnD, List.map_cons, List.map_nil, List.length_cons, List.length_nil, List.cons_append, List.nil_append, List.append_nil, List.replicate_succ, List.replicate_zero, List.getElem?_cons_zero, List.getElem?_cons_succ, List.set_cons_zero, List.set_cons_succ, Int.cast_ofNat_Int, Nat.reduceBEq, Int.reduceBEq, Nat.reduceAdd, Nat.reduceSub, Nat.reduceLT, Nat.reduceLeDiff, Nat.zero_add, Nat.add_zero, Nat.sub_zero, Nat.sub_self, ↓reduceIte, if_true, if_false, Bool.not_true, Bool.not_false, Bool.false_eq_true, Bool.true_eq_false, decide_true, decide_false, decide_not, true_and, and_true, and_self, true_or, or_true, not_true_eq_false, not_false_eq_true, ne_eq, reduceCtorEq, Int.reduceLT, Int.reduceLE, Int.reduceNeg, Int.reduceSub, Int.reduceAdd, Int.reduceMul, Int.reducePow, Int.reduceToNat, sz, D.dat, D.datL, D.dep, D.depL, szl, inb, List.any_cons, List.any_nil, Bool.true_and, Bool.false_and, Bool.and_true, Bool.and_false, Bool.or_false, Bool.false_or, Bool.true_or, Bool.or_true, Nat.max_self, Nat.max_zero, Nat.zero_max, Nat.min_self, Nat.zero_le, Nat.min_zero, Nat.zero_min, forL, forX, iR1, iR2, rng1, rng2, iE, itOf, sFor, bYes, e, hl, hle, hc]
  rfl
noncomputable def withB : SD := sSeq (sAsg (e2 dSub (e2 dSub (eVar 0) (eCall dLen (aCons (eVar 2) (aNil)))) (eCall dLen (aCons (eCall (callP 1 (fnD 2 endingB)) (aCons (eVar 1) (aNil))) (aNil)))) (gN 3))
  (sRet (e2 dAdd (e2 dAdd (eSl (eCall (callP 1 (fnD 1 stemB)) (aCons (eVar 1) (aNil))) (oNone) (oSome (eVar 3))) (eVar 2)) (eCall (callP 1 (fnD 2 endingB)) (aCons (eVar 1) (aNil)))))
/-- a name with a word in it, of at most L signs -/
noncomputable def withW (L : Nat) (x w : Str) : Str := cutS (stm x) none (some ((L - w.length - (endg x).length : Nat) : Int)) ++ w ++ endg x
theorem withW_tx (L : Nat) (x w : Str) : tx (withW L x w) = (tx x).take (min (x.length - (endg x).length) (L - w.length - (endg x).length)) ++ tx w ++ tx (endg x) := by
  unfold withW
  rw [tx_app, tx_app, tx_cut, HT.sIx_nat, stm_len]
  show List.take (_ - 0) ((tx (stm x)).drop 0) ++ _ ++ _ = _
  rw [Nat.sub_zero, List.drop_zero, stm_tx, List.take_take, Nat.min_comm (min _ _), Nat.min_comm (L - w.length - (endg x).length)]
  congr 3
  omega
theorem withW_len (L : Nat) (x w : Str) (hw : w.length + (endg x).length ≤ L) : (withW L x w).length ≤ L := by
  rw [← tx_len, withW_tx, List.length_append, List.length_append, List.length_take, tx_len, tx_len, tx_len]
  omega
theorem with_ok (L : Nat) (x w : Str) (hl : x.length ≤ 10000000) (hw : w.length + 10 ≤ L) (hL : L ≤ 1000) (h : CH) : callP 3 (fnD 4 withB) [.int L, .str x, .str w] h = .ok (.str (withW L x w)) h := by
  have h2 := endg_tx x
  have hl2 : x.length ≤ 16777216 := by omega
  have e1 := ending_ok x hl2 []
  have e2 := stem_ok x hl2 []
  have hle : (endg x).length ≤ 16777216 := by omega
  have hls : (stm x).length ≤ 16777216 := by rw [stm_len]; omega
  have hlw : w.length ≤ 16777216 := by omega
  have hc : (L : Int) - w.length - (endg x).length = ((L - w.length - (endg x).length : Nat) : Int) := by omega
  have hlc : (cutS (stm x) none (some ((L - w.length - (endg x).length : Nat) : Int))).length + w.length ≤ 16777216 := by
    rw [len_cut_to]; omega
  have hlc2 : (cutS (stm x) none (some ((L - w.length - (endg x).length : Nat) : Int)) ++ w).length + (endg x).length ≤ 16777216 := by
    rw [PySem.Str.length_append, len_cut_to]; omega
  refine callP_ok rfl (fnD_rt (ρ := [some (.int L), some (.str x), some (.str w), none]) (ρ' := [some (.int L), some (.str x), some (.str w), some (.int ((L - w.length - (endg x).length : Nat) : Int))]) (d := .str (withW L x w)) (h' := []) ?_) (fz_nr rfl)
  unfold withB
  simp only [sSeq, sIf, sB, sE, sAsg, sRet, sRetN, sNil, sExpr, sBrk, sCnt, gN, gT, gsC, gsN, FK.e1, FK.e2, eC, eVar, eCall, aNil, aCons, M.bind, M.pure, eTup, eLst, eNew, eSl, oNone, oSome, bT, bNot, bAnd, bOr, eAnd, eOr, eNot, eIf, eCh, truth, eMs, eMl, dAdd, dSub, dMul, dFdiv, dMod, dLe, dLt, dGe, dGt, dEq, dNe, dIs, dIsnt, D.isNon, dIn, dNotIn, dIdx, dSl, dLen, dInt, dOrd_one, dMax2, dMin2, dTuple, dList, dListC, dApp, dNeg, vw, seq, lstOf, fnD, List.map_cons, List.map_nil, List.length_cons, List.length_nil, List.cons_append, List.nil_append, List.append_nil, List.replicate_succ, List.replicate_zero, List.getElem?_cons_zero, List.getElem?_cons_succ, List.set_cons_zero, List.set_cons_succ, Int.cast_ofNat_Int, Nat.reduceBEq, Int.reduceBEq, Nat.reduceAdd, Nat.reduceSub, Nat.reduceLT, Nat.reduceLeDiff, Nat.zero_add, Nat.add_zero, Nat.sub_zero, Nat.sub_self, ↓reduceIte, if_true, if_false, Bool.not_true, Bool.not_false, Bool.false_eq_true, Bool.true_eq_false, decide_true, decide_false, decide_not, true_and, and_true, and_self, true_or, or_true, not_true_eq_false, not_false_eq_true, ne_eq, reduceCtorEq, Int.reduceLT, Int.reduceLE, Int.reduceNeg, Int.reduceSub, Int.reduceAdd, Int.reduceMul, Int.reducePow, Int.reduceToNat, sz, D.dat, D.datL, D.dep, D.depL, szl, inb, List.any_cons, List.any_nil, Bool.true_and, Bool.false_and, Bool.and_true, Bool.and_false, Bool.or_false, Bool.false_or, Bool.true_or, Bool.or_true, Nat.max_self, Nat.max_zero, Nat.zero_max, Nat.min_self, Nat.zero_le, Nat.min_zero, Nat.zero_min, forL, forX, iR1, iR2, rng1, rng2, iE, itOf, sFor, bYes, e1, e2, hl2, hle, hls, hlw, hc, hlc, hlc2]
  rfl
/-! words -/
def numT (n : Nat) : Str := toString ((n : Nat) : Int)
theorem numT_tx (n : Nat) : tx (numT n) = TL.numL n := TL.tl_num n
theorem numT_len {n k : Nat} (hk : 0 < k) (h : n < 10 ^ k) : (numT n).length ≤ k := by
  rw [← tx_len, numT_tx]
  exact TL.numL_len hk h
theorem log2_lt (n : Nat) (h : n < 2 ^ 64) : ((n : Nat) : Int).natAbs.log2 < 1920 := by
  rw [Int.natAbs_natCast]
  rcases Nat.eq_zero_or_pos n with rfl | h0
  · decide
  · have : n.log2 < 64 := (Nat.log2_lt (by omega)).mpr h
    omega
theorem dStr_nat (n : Nat) (h : n < 2 ^ 64) (c : CH) : dStr [.int n] c = .ok (.str (numT n)) c := if_pos (log2_lt n h)
def wordN (k : Nat) : Str := Str.ofString " " ++ numT k
noncomputable def numbB : SD := sSeq (sIf (bT (e2 dEq (eVar 2) (eC (.int 0)))) (sRet (eVar 1)) (sNil))
  (sRet (eCall (callP 3 (fnD 4 withB)) (aCons (eVar 0) (aCons (eVar 1) (aCons (e2 dAdd (eC (.str " ")) (eCall dStr (aCons (eVar 2) (aNil)))) (aNil))))))
theorem numbS_ok (L : Nat) (x : Str) (k : Nat) (hl : x.length ≤ 10000) (hL : L ≤ 1000) (hL2 : 48 ≤ L) (hk : k + 1 < 10 ^ 5) (h : CH) :
    callP 3 (fnD 3 numbB) [.int L, .str x, .int (k + 1)] h = .ok (.str (withW L x (wordN (k + 1)))) h ∧ (wordN (k + 1)).length + 10 ≤ L := by
  have l4 : (Str.ofString " ").length = 1 := by decide
  have tk := numT_len (k := 5) (by omega) hk
  have sk := dStr_nat (k + 1) (by omega) []
  rw [show ((k + 1 : Nat) : Int) = (k : Int) + 1 by omega] at sk
  have wl : (wordN (k + 1)).length + 10 ≤ L := by
    unfold wordN
    simp only [PySem.Str.length_append, l4]
    omega
  refine ⟨?_, wl⟩
  have e := with_ok L x (wordN (k + 1)) (by omega) wl hL []
  replace e : callP 3 (fnD 4 withB) [.int L, .str x, .str (Str.ofString " " ++ numT (k + 1))] [] = .ok (.str (withW L x (wordN (k + 1)))) [] := e
  have z : 1 + (numT (k + 1)).length ≤ 16777216 := by omega
  have q : ((k : Int) + 1 == 0) = false := by
    rw [beq_eq_false_iff_ne]; omega
  refine callP_ok rfl (fnD_rt (ρ := [some (.int L), some (.str x), some (.int (k + 1))]) (ρ' := [some (.int L), some (.str x), some (.int (k + 1))]) (d := .str (withW L x (wordN (k + 1)))) (h' := []) ?_) (fz_nr rfl)
  unfold numbB
  refine seq_eq (ρ1 := [some (.int L), some (.str x), some (.int (k + 1))]) (h1 := []) ?_ ?_
  · simp only [sSeq, sIf, sB, sE, sAsg, sRet, sRetN, sNil, sExpr, sBrk, sCnt, gN, gT, gsC, gsN, FK.e1, FK.e2, eC, eVar, eCall, aNil, aCons, M.bind, M.pure, eTup, eLst, eNew, eSl, oNone, oSome, bT, bNot, bAnd, bOr, eAnd, eOr, eNot, eIf, eCh, truth, eMs, eMl, dAdd, dSub, dMul, dFdiv, dMod, dLe, dLt, dGe, dGt, dEq, dNe, dIs, dIsnt, D.isNon, dIn, dNotIn, dIdx, dSl, dLen, dInt, dOrd_one, dMax2, dMin2, dTuple, dList, dListC, dApp, dNeg, vw, seq, lstOf, fnD, List.map_cons, List.map_nil, List.length_cons, List.length_nil, List.cons_append, List.nil_append, List.append_nil, List.replicate_succ, List.replicate_zero, List.getElem?_cons_zero, List.getElem?_cons_succ, List.set_cons_zero, List.set_cons_succ, Int.cast_ofNat_Int, Nat.reduceBEq, Int.reduceBEq, Nat.reduceAdd, Nat.reduceSub, Nat.reduceLT, Nat.reduceLeDiff, Nat.zero_add, Nat.add_zero, Nat.sub_zero, Nat.sub_self, ↓reduceIte, if_true, if_false, Bool.not_true, Bool.not_false, Bool.false_eq_true, Bool.true_eq_false, decide_true, decide_false, decide_not, true_and, and_true, and_self, true_or, or_true, not_true_eq_false, not_false_eq_true, ne_eq, reduceCtorEq, Int.reduceLT, Int.reduceLE, Int.reduceNeg, Int.reduceSub, Int.reduceAdd, Int.reduceMul, Int.reducePow, Int.reduceToNat, sz, D.dat, D.datL, D.dep, D.depL, szl, inb, List.any_cons, List.any_nil, Bool.true_and, Bool.false_and, Bool.and_true, Bool.and_false, Bool.or_false, Bool.false_or, Bool.true_or, Bool.or_true, Nat.max_self, Nat.max_zero, Nat.zero_max, Nat.min_self, Nat.zero_le, Nat.min_zero, Nat.zero_min, forL, forX, iR1, iR2, rng1, rng2, iE, itOf, sFor, bYes, D.eqb, D.py, PyData.eqv, q]
  · simp only [sSeq, sIf, sB, sE, sAsg, sRet, sRetN, sNil, sExpr, sBrk, sCnt, gN, gT, gsC, gsN, FK.e1, FK.e2, eC, eVar, eCall, aNil, aCons, M.bind, M.pure, eTup, eLst, eNew, eSl, oNone, oSome, bT, bNot, bAnd, bOr, eAnd, eOr, eNot, eIf, eCh, truth, eMs, eMl, dAdd, dSub, dMul, dFdiv, dMod, dLe, dLt, dGe, dGt, dEq, dNe, dIs, dIsnt, D.isNon, dIn, dNotIn, dIdx, dSl, dLen, dInt, dOrd_one, dMax2, dMin2, dTuple, dList, dListC, dApp, dNeg, vw, seq, lstOf, fnD, List.map_cons, List.map_nil, List.length_cons, List.length_nil, List.cons_append, List.nil_append, List.append_nil, List.replicate_succ, List.replicate_zero, List.getElem?_cons_zero, List.getElem?_cons_succ, List.set_cons_zero, List.set_cons_succ, Int.cast_ofNat_Int, Nat.reduceBEq, Int.reduceBEq, Nat.reduceAdd, Nat.reduceSub, Nat.reduceLT, Nat.reduceLeDiff, Nat.zero_add, Nat.add_zero, Nat.sub_zero, Nat.sub_self, ↓reduceIte, if_true, if_false, Bool.not_true, Bool.not_false, Bool.false_eq_true, Bool.true_eq_false, decide_true, decide_false, decide_not, true_and, and_true, and_self, true_or, or_true, not_true_eq_false, not_false_eq_true, ne_eq, reduceCtorEq, Int.reduceLT, Int.reduceLE, Int.reduceNeg, Int.reduceSub, Int.reduceAdd, Int.reduceMul, Int.reducePow, Int.reduceToNat, sz, D.dat, D.datL, D.dep, D.depL, szl, inb, List.any_cons, List.any_nil, Bool.true_and, Bool.false_and, Bool.and_true, Bool.and_false, Bool.or_false, Bool.false_or, Bool.true_or, Bool.or_true, Nat.max_self, Nat.max_zero, Nat.zero_max, Nat.min_self, Nat.zero_le, Nat.min_zero, Nat.zero_min, forL, forX, iR1, iR2, rng1, rng2, iE, itOf, sFor, bYes, sk, l4, z, e]
theorem numbS0_ok (L : Nat) (x : Str) (h : CH) : callP 3 (fnD 3 numbB) [.int L, .str x, .int 0] h = .ok (.str x) h := by
  refine callP_ok rfl (fnD_rt (ρ := [some (.int L), some (.str x), some (.int 0)]) (ρ' := [some (.int L), some (.str x), some (.int 0)]) (d := .str x) (h' := []) ?_) (fz_nr rfl)
  rfl
end FK

/-! part: FKU -/
set_option linter.all false
set_option maxRecDepth 100000
set_option maxHeartbeats 4000000
namespace FK
open PySem PySem.Spec L2
/-! FKU: rules (instances of Rule), callees that are handed instances. -/
theorem get_last (h : CH) (c : Cell) : (h ++ [c])[h.length]? = some c := by simp
theorem set_last (h : CH) (c d : Cell) : (h ++ [c]).set h.length d = h ++ [d] := by simp
theorem callP_fz {n : Nat} {F : FD} {ds es : List D} {h h' : CH} {d : D} (hn : D.nrL ds = false) (hm : mapO (fz h) ds = some es) (e : F es [] = .ok d h') (hf : d.flat = true) (hl : ds.length = n := by rfl) : callP n F ds h = .ok d h := by
  unfold callP
  rw [if_pos hl, if_neg (by rw [hn]; decide), hm]
  dsimp only
  rw [e]
  dsimp only
  rw [if_pos hf]
noncomputable def ruleB : SD := sSeq (sFldS ["Rule"] "alike" (eVar 0) (eVar 1))
  (sSeq (sFldS ["Rule"] "unfit" (eVar 0) (eVar 2))
  (sSeq (sFldS ["Rule"] "longest" (eVar 0) (eVar 3))
  (sSeq (sFldS ["Rule"] "swaps" (eVar 0) (eVar 4))
  (sSeq (sFldS ["Rule"] "reads" (eVar 0) (eVar 5))
  (sSeq (sFldS ["Rule"] "cuts" (eVar 0) (eVar 6))
  (sFldS ["Rule"] "turns" (eVar 0) (eVar 7)))))))
abbrev ruleNs : List Str := ["alike", "unfit", "longest", "swaps", "reads", "cuts", "turns"]
theorem fld_step {cs : List Str} {f : Str} {eo ev : ED} {ρ : Env} {h : CH} {c : Str} {ns : List Str} {xs : List D} {d : D} {c' : Cell} (e1 : ev ρ (h ++ [.ins c ns xs]) = .ok d (h ++ [.ins c ns xs])) (e2 : eo ρ (h ++ [.ins c ns xs]) = .ok (.ref h.length) (h ++ [.ins c ns xs]))
    (hc : c ∈ cs) (hn : ns.length < 1000) (hp : Cell.ins c (putNs f ns) (putXs f d ns xs) = c') : sFldS cs f eo ev ρ (h ++ [.ins c ns xs]) = .ok .nx ρ (h ++ [c']) := by
  subst hp
  unfold sFldS sE
  rw [e1]
  dsimp only
  rw [e2]
  dsimp only
  rw [get_last]
  dsimp only
  rw [if_pos ⟨hc, hn⟩, set_last]
theorem rule_mk (h : CH) (a b c d e f g : D) : fnD 8 ruleB [.ref h.length, a, b, c, d, e, f, g] (h ++ [.ins "Rule" [] []]) = .ok .non (h ++ [.ins "Rule" ruleNs [a, b, c, d, e, f, g]]) := by
  refine fnD_nx (ρ := [some (.ref h.length), some a, some b, some c, some d, some e, some f, some g]) (ρ' := [some (.ref h.length), some a, some b, some c, some d, some e, some f, some g]) ?_
  unfold ruleB
  refine seq_eq (fld_step rfl rfl (by decide) (by decide) rfl) ?_
  refine seq_eq (fld_step rfl rfl (by decide) (by decide) rfl) ?_
  refine seq_eq (fld_step rfl rfl (by decide) (by decide) rfl) ?_
  refine seq_eq (fld_step rfl rfl (by decide) (by decide) rfl) ?_
  refine seq_eq (fld_step rfl rfl (by decide) (by decide) rfl) ?_
  refine seq_eq (fld_step rfl rfl (by decide) (by decide) rfl) ?_
  exact fld_step rfl rfl (by decide) (by decide) (by rfl)
theorem fz_ins {h : CH} {k : Nat} {c : Str} {ns : List Str} {xs : List D} (e : h[k]? = some (.ins c ns xs)) (n : D.nrL xs = true) : fz h (.ref k) = some (.obj c ns xs) := by
  unfold fz fzF
  rw [if_neg (by simp [D.nr])]
  dsimp only
  rw [e]
  dsimp only
  rw [mapO_id fun x hx => fzF_nr (nrL_iff.mp n x hx)]
  rfl
abbrev ruleX (a b : D) (L : Int) : List D := [a, b, .int L, .bl true, .bl true, .bl true, .bl true]
theorem rule_new (h : CH) (L : Int) : mkO "Rule" (arrG [0, 1, 2, 7, 3, 4, 5, 6] 0 [.tup [], .tup [], .bl true, .bl true, .bl true, .bl true]) (fnD 8 ruleB) [.int L] h = .ok (.ref h.length) (h ++ [.ins "Rule" ruleNs (ruleX (.tup []) (.tup []) L)]) := by
  unfold mkO
  show (match fnD 8 ruleB [.ref h.length, .tup [], .tup [], .int L, .bl true, .bl true, .bl true, .bl true] (h ++ [.ins "Rule" [] []]) with | .ok .non h' => R.ok (D.ref h.length) h' | _ => .bad) = _
  rw [rule_mk]
theorem flat_strs : ∀ zs : List Str, D.flatL (zs.map D.str) = true
  | [] => rfl
  | z :: zs => flat_strs zs
end FK

/-! part: FKG -/
set_option linter.all false
set_option maxRecDepth 100000
set_option maxHeartbeats 4000000
namespace FK
open PySem PySem.Spec L2
/-! FKG: loops that look for something, loops that build a list; ids, paths. -/
theorem set_set {ρ : Env} {v : Nat} {a b : Option D} : (ρ.set v a).set v b = ρ.set v b := by simp
def lastV {X : Type} (en : X → D) (xs : List X) (o : Option D) : Option D := match xs.getLast? with
  | some x => some (en x)
  | none => o
theorem lastV_cons {X : Type} {en : X → D} {x : X} {xs : List X} {o : Option D} : lastV en (x :: xs) o = lastV en xs (some (en x)) := by
  unfold lastV
  cases xs with
  | nil => rfl
  | cons y ys => rw [List.getLast?_cons_cons]; simp [List.getLast?_cons]
theorem set_old {ρ : Env} {v : Nat} {o : Option D} (e : ρ[v]? = some o) : ρ.set v o = ρ := by
  obtain ⟨h, rfl⟩ := List.getElem?_eq_some_iff.mp e
  exact List.set_getElem_self h
/-- a loop that returns at the first item with p -/
theorem find_eq {X : Type} {en : X → D} {p : X → Bool} {val : X → D} {c : BD} {r : ED} {v : Nat} {h : CH} {o : Option Nat} {all : List D} (hg : gd o all h) : ∀ (xs : List X) {ρ : Env} {u : Option D}, ρ[v]? = some u →
    (∀ x ∈ xs, c (ρ.set v (some (en x))) h = .ok (p x) h) → (∀ x ∈ xs, p x = true → r (ρ.set v (some (en x))) h = .ok (val x) h) →
    forX o all (gN v) (sIf c (sRet r) sNil) (xs.map en) ρ h = (match xs.find? p with
      | some x => .ok (.rt (val x)) (ρ.set v (some (en x))) h
      | none => .ok .nx (ρ.set v (lastV en xs u)) h)
  | [], ρ, u, hu, _, _ => by
    rw [List.map_nil, List.find?_nil]
    show _ = RS.ok .nx (ρ.set v u) h
    rw [set_old hu]
    cases o with
    | none => rfl
    | some n => exact if_pos hg
  | x :: xs, ρ, u, hu, hc, hr => by
    have hv : v < ρ.length := (List.getElem?_eq_some_iff.mp hu).1
    have ih := find_eq (en := en) (p := p) (val := val) (c := c) (r := r) (v := v) hg xs (ρ := ρ.set v (some (en x))) (u := some (en x)) (by simp [hv]) (fun y hy => by rw [set_set]; exact hc y (List.mem_cons_of_mem _ hy)) (fun y hy q => by rw [set_set]; exact hr y (List.mem_cons_of_mem _ hy) q)
    simp only [set_set] at ih
    have e1 := hc x List.mem_cons_self
    have body : sIf c (sRet r) sNil (ρ.set v (some (en x))) h = if p x = true then .ok (.rt (val x)) (ρ.set v (some (en x))) h else .ok .nx (ρ.set v (some (en x))) h := by
      unfold sIf sB
      rw [e1]
      dsimp only
      by_cases q : p x = true
      · rw [if_pos q, if_pos q]
        unfold sRet sE
        rw [hr x List.mem_cons_self q]
      · rw [if_neg q, if_neg q]; rfl
    have step : forX o all (gN v) (sIf c (sRet r) sNil) ((x :: xs).map en) ρ h = (match sIf c (sRet r) sNil (ρ.set v (some (en x))) h with
      | .ok .nx ρ2 h2 => forX o all (gN v) (sIf c (sRet r) sNil) (xs.map en) ρ2 h2
      | .ok .ct ρ2 h2 => forX o all (gN v) (sIf c (sRet r) sNil) (xs.map en) ρ2 h2
      | .ok .bk ρ2 h2 => .ok .nx ρ2 h2
      | r => r) := by
      cases o with
      | none => rfl
      | some n => exact (if_pos hg)
    rw [step, body, List.find?_cons, lastV_cons]
    by_cases q : p x = true
    · rw [if_pos q, q]
    · rw [if_neg q, Bool.eq_false_iff.mpr q]
      exact ih
/-- a loop that builds: with I kept, each turn adds f x to what is built; hh: the heap by what is built -/
theorem build {X : Type} {en : X → D} {f : X → List D} {v : Nat} {g : GD} {body : SD} {hh : List D → CH} {o : Option Nat} {all : List D} {I : Env → Prop} {B : Nat} (hg : ∀ acc, gd o all (hh acc)) :
    ∀ (xs : List X) (acc : List D) (ρ : Env), I ρ → acc.length + (xs.flatMap f).length ≤ B → (∀ x ∈ xs, ∀ ρ acc, I ρ → acc.length + (f x).length ≤ B → ∃ ρ1, g (en x) ρ = some ρ1 ∧ ∃ ρ2, I ρ2 ∧ (body ρ1 (hh acc) = .ok .nx ρ2 (hh (acc ++ f x)) ∨ body ρ1 (hh acc) = .ok .ct ρ2 (hh (acc ++ f x)))) →
    ∃ ρ', I ρ' ∧ forX o all g body (xs.map en) ρ (hh acc) = .ok .nx ρ' (hh (acc ++ xs.flatMap f))
  | [], acc, ρ, hI, _, _ => by
    refine ⟨ρ, hI, ?_⟩
    rw [List.flatMap_nil, List.append_nil]
    cases o with
    | none => rfl
    | some n => exact if_pos (hg acc)
  | x :: xs, acc, ρ, hI, hB, st => by
    rw [List.flatMap_cons, List.length_append] at hB
    obtain ⟨ρ1, e1, ρ2, hI2, e2⟩ := st x List.mem_cons_self ρ acc hI (by omega)
    obtain ⟨ρ', hI', e3⟩ := build (body := body) (g := g) (en := en) (f := f) (v := v) hg xs (acc ++ f x) ρ2 hI2 (by rw [List.length_append]; omega) (fun y hy => st y (List.mem_cons_of_mem _ hy))
    refine ⟨ρ', hI', ?_⟩
    rw [List.flatMap_cons, ← List.append_assoc, ← e3]
    have step : forX o all g body ((x :: xs).map en) ρ (hh acc) = (match body ρ1 (hh acc) with
      | .ok .nx ρ2 h2 => forX o all g body (xs.map en) ρ2 h2
      | .ok .ct ρ2 h2 => forX o all g body (xs.map en) ρ2 h2
      | .ok .bk ρ2 h2 => .ok .nx ρ2 h2
      | r => r) := by
      cases o with
      | none =>
        show forL g body (en x :: xs.map en) ρ (hh acc) = _
        unfold forL
        rw [e1]
        rfl
      | some n =>
        show forC n all g body (en x :: xs.map en) ρ (hh acc) = _
        unfold forC
        rw [if_pos (show (hh acc)[n]? = some (.lst all) from hg acc), e1]
        rfl
    rw [step]
    rcases e2 with e2 | e2 <;> rw [e2]
theorem gd_none {all : List D} {h : CH} : gd none all h := trivial
/-- a list that may be a cell -/
theorem itOf_lst {h : CH} {d : D} {xs : List D} (e : lstOf h d = some xs) : ∃ o, itOf d h = .ok (xs, o) h ∧ gd o xs h := by
  unfold lstOf vw at e
  cases d with
  | ref n =>
    dsimp only at e
    cases q : h[n]? with
    | none => rw [q] at e; cases e
    | some c =>
      rw [q] at e
      cases c with
      | lst ys => cases e; exact ⟨some n, by unfold itOf; dsimp only; rw [q], q⟩
      | _ => cases e
  | lst ys => cases e; exact ⟨none, rfl, trivial⟩
  | _ => cases e
/-! equality of a datum with itself -/
mutual
theorem eqb_self : ∀ d : D, D.eqb d d = true
  | .non => rfl
  | .bl b => by cases b <;> rfl
  | .int i => by show PyData.eqv (.int i) (.int i) = true; simp [PyData.eqv]
  | .str x => eqb_refl x
  | .tup xs => eqb_selfL xs
  | .lst xs => eqb_selfL xs
  | .scr xs => eqb_selfL xs
  | .obj _ _ _ => rfl
  | .ref _ => rfl
theorem eqb_selfL : ∀ ds : List D, PyData.eqvAll (D.pyL ds) (D.pyL ds) = true
  | [] => rfl
  | d :: ds => by
    show (PyData.eqv d.py d.py && PyData.eqvAll (D.pyL ds) (D.pyL ds)) = true
    rw [eqb_selfL ds, show PyData.eqv d.py d.py = true from eqb_self d]
    rfl
end
/-! indices -/
theorem atI_n {α : Type} {xs : List α} {k : Nat} {a : α} (e : xs[k]? = some a) : atI xs (k : Int) = some a := L2.atI_nat e
theorem atI0 {α : Type} {a : α} {l : List α} : atI (a :: l) 0 = some a := L2.atI_nat (j := 0) rfl
theorem atI1 {α : Type} {a b : α} {l : List α} : atI (a :: b :: l) 1 = some b := L2.atI_nat (j := 1) rfl
theorem atI2 {α : Type} {a b c : α} {l : List α} : atI (a :: b :: c :: l) 2 = some c := L2.atI_nat (j := 2) rfl
theorem atI3 {α : Type} {a b c d : α} {l : List α} : atI (a :: b :: c :: d :: l) 3 = some d := L2.atI_nat (j := 3) rfl
theorem atI4 {α : Type} {a b c d e : α} {l : List α} : atI (a :: b :: c :: d :: e :: l) 4 = some e := L2.atI_nat (j := 4) rfl
theorem atI5 {α : Type} {a b c d e f : α} {l : List α} : atI (a :: b :: c :: d :: e :: f :: l) 5 = some f := L2.atI_nat (j := 5) rfl
/-! ids -/
abbrev Id := Int × Int
def encI (i : Id) : D := .tup [.int i.1, .int i.2]
def encO : Option Id → D
  | none => .non
  | some i => encI i
theorem encO_none : encO none = .non := rfl
theorem encO_some (i : Id) : encO (some i) = encI i := rfl
def encP (p : List Str) : D := .tup (p.map .str)
theorem eqb_II (i j : Id) : D.eqb (encI i) (encI j) = decide (i = j) := by
  show (PyData.eqv (.int i.1) (.int j.1) && (PyData.eqv (.int i.2) (.int j.2) && true)) = _
  rw [Bool.and_true]
  obtain ⟨a, b⟩ := i
  obtain ⟨c, d⟩ := j
  by_cases h : a = c <;> by_cases h2 : b = d <;> simp [PyData.eqv, h, h2]
theorem eqb_OO (i j : Option Id) : D.eqb (encO i) (encO j) = decide (i = j) := by
  cases i with
  | none => cases j with
    | none => rfl
    | some j => simp [encO, encI, D.eqb, D.py, PyData.eqv]
  | some i => cases j with
    | none => simp [encO, encI, D.eqb, D.py, PyData.eqv]
    | some j => show D.eqb (encI i) (encI j) = _; rw [eqb_II]; simp
theorem eqb_PP (p q : List Str) : D.eqb (encP p) (encP q) = decide (p = q) := by
  show PyData.eqvAll (D.pyL (p.map .str)) (D.pyL (q.map .str)) = _
  induction p generalizing q with
  | nil => cases q with
    | nil => rfl
    | cons y q => rfl
  | cons x p ih => cases q with
    | nil => rfl
    | cons y q =>
      show (PyData.eqv (.str x) (.str y) && PyData.eqvAll (D.pyL (p.map .str)) (D.pyL (q.map .str))) = _
      rw [ih q]
      have : PyData.eqv (.str x) (.str y) = decide (x = y) := by
        show (x == y) = _
        by_cases h : x = y <;> simp [h]
      rw [this]
      by_cases h : x = y <;> by_cases h2 : p = q <;> simp [h, h2]
theorem dat_I (i : Id) : D.dat (encI i) = true := rfl
theorem dep_I (i : Id) : D.dep (encI i) = 1 := rfl
theorem nr_I (i : Id) : D.nr (encI i) = true := rfl
theorem flat_I (i : Id) : D.flat (encI i) = true := rfl
theorem vw_I (i : Id) (h : CH) : vw h (encI i) = encI i := rfl
theorem isNon_I (i : Id) : D.isNon (encI i) = false := rfl
theorem dat_O (i : Option Id) : D.dat (encO i) = true := by cases i <;> rfl
theorem dep_O (i : Option Id) : D.dep (encO i) ≤ 1 := by
  cases i with
  | none => exact Nat.zero_le _
  | some i => exact Nat.le_refl 1
theorem nr_O (i : Option Id) : D.nr (encO i) = true := by cases i <;> rfl
theorem flat_O (i : Option Id) : D.flat (encO i) = true := by cases i <;> rfl
theorem vw_O (i : Option Id) (h : CH) : vw h (encO i) = encO i := by cases i <;> rfl
theorem isNon_O (i : Option Id) : D.isNon (encO i) = i.isNone := by cases i <;> rfl
theorem dat_P (p : List Str) : D.dat (encP p) = true := datL_strs p
theorem dep_P (p : List Str) : D.dep (encP p) = 1 := by show D.depL (p.map .str) + 1 = 1; rw [depL_strs]
theorem nr_P (p : List Str) : D.nr (encP p) = true := nrL_strs p
theorem flat_P (p : List Str) : D.flat (encP p) = true := flat_strs p
theorem vw_P (p : List Str) (h : CH) : vw h (encP p) = encP p := rfl
theorem dEq_II (i j : Id) (h : CH) : dEq (encI i) (encI j) h = .ok (.bl (decide (i = j))) h := by
  unfold dEq
  rw [vw_I, vw_I, if_pos ⟨rfl, rfl, by rw [dep_I, dep_I]; decide⟩, eqb_II]
theorem dEq_OO (i j : Option Id) (h : CH) : dEq (encO i) (encO j) h = .ok (.bl (decide (i = j))) h := by
  unfold dEq
  rw [vw_O, vw_O, if_pos ⟨dat_O i, dat_O j, by have := dep_O i; omega⟩, eqb_OO]
theorem dEq_OI (i : Option Id) (j : Id) (h : CH) : dEq (encO i) (encI j) h = .ok (.bl (decide (i = some j))) h := dEq_OO i (some j) h
theorem dEq_IO (i : Id) (j : Option Id) (h : CH) : dEq (encI i) (encO j) h = .ok (.bl (decide (some i = j))) h := dEq_OO (some i) j h
theorem dEq_PP (p q : List Str) (h : CH) : dEq (encP p) (encP q) h = .ok (.bl (decide (p = q))) h := by
  unfold dEq
  rw [vw_P, vw_P, if_pos ⟨dat_P p, dat_P q, by rw [dep_P, dep_P]; decide⟩, eqb_PP]
theorem dNe_PP (p q : List Str) (h : CH) : dNe (encP p) (encP q) h = .ok (.bl (!decide (p = q))) h := by
  unfold dNe
  rw [vw_P, vw_P, if_pos ⟨dat_P p, dat_P q, by rw [dep_P, dep_P]; decide⟩, eqb_PP]
theorem dAdd_PP (p q : List Str) (h : CH) (hl : p.length + q.length ≤ 16777216) : dAdd (encP p) (encP q) h = .ok (encP (p ++ q)) h := by
  unfold dAdd encP
  dsimp only
  rw [if_pos (by rw [List.length_map, List.length_map, sz]; exact hl), List.map_append]
theorem inb_I (i : Id) (is : List Id) : inb (encI i) (is.map encI) = decide (i ∈ is) := by
  unfold inb
  induction is with
  | nil => simp
  | cons j is ih =>
    rw [List.map_cons, List.any_cons, ih, eqb_II]
    by_cases h : j = i
    · subst h; simp
    · by_cases h2 : i ∈ is <;> simp [h, h2, Ne.symm h]
theorem datL_I : ∀ is : List Id, D.datL (is.map encI) = true
  | [] => rfl
  | i :: is => datL_I is
theorem depL_I : ∀ is : List Id, D.depL (is.map encI) ≤ 1
  | [] => by decide
  | i :: is => by
    have := depL_I is
    show max 1 (D.depL (is.map encI)) ≤ 1
    omega
theorem nrL_I : ∀ is : List Id, D.nrL (is.map encI) = true
  | [] => rfl
  | i :: is => nrL_I is
theorem flatL_I : ∀ is : List Id, D.flatL (is.map encI) = true
  | [] => rfl
  | i :: is => flatL_I is
/-- tuples of ids -/
def encT (is : List Id) : D := .tup (is.map encI)
theorem dIn_IT (i : Id) (is : List Id) (h : CH) : dIn (encI i) (encT is) h = .ok (.bl (decide (i ∈ is))) h := by
  show (match seq h (.tup (is.map encI)) with | some ys => if (vw h (encI i)).dat = true ∧ D.datL ys = true ∧ (vw h (encI i)).dep ≤ 60 then R.ok (D.bl (inb (vw h (encI i)) ys)) h else .bad | none => .bad) = _
  show (if (vw h (encI i)).dat = true ∧ D.datL (is.map encI) = true ∧ (vw h (encI i)).dep ≤ 60 then R.ok (D.bl (inb (vw h (encI i)) (is.map encI))) h else .bad) = _
  rw [vw_I, if_pos ⟨rfl, datL_I is, by rw [dep_I]; decide⟩, inb_I]
theorem dIn_IL (i : Id) (is : List Id) (h : CH) : dIn (encI i) (.lst (is.map encI)) h = .ok (.bl (decide (i ∈ is))) h := by
  show (if (vw h (encI i)).dat = true ∧ D.datL (is.map encI) = true ∧ (vw h (encI i)).dep ≤ 60 then R.ok (D.bl (inb (vw h (encI i)) (is.map encI))) h else .bad) = _
  rw [vw_I, if_pos ⟨rfl, datL_I is, by rw [dep_I]; decide⟩, inb_I]
theorem dIs_O (i : Option Id) (h : CH) : dIs (encO i) .non h = .ok (.bl i.isNone) h := by cases i <;> rfl
theorem dIsnt_O (i : Option Id) (h : CH) : dIsnt (encO i) .non h = .ok (.bl i.isSome) h := by cases i <;> rfl
theorem nr_T (is : List Id) : D.nr (encT is) = true := nrL_I is
theorem dat_T (is : List Id) : D.dat (encT is) = true := datL_I is
theorem flat_T (is : List Id) : D.flat (encT is) = true := flatL_I is
theorem itOf_T (is : List Id) (h : CH) : itOf (encT is) h = .ok (is.map encI, none) h := rfl
theorem rangeD_nat (n : Nat) : rangeD 0 (n : Int) = (List.range n).map fun (k : Nat) => .int (k : Int) := by
  unfold rangeD
  rw [Int.sub_zero, Int.toNat_natCast]
  congr 1
  funext k
  rw [Int.zero_add]
theorem inR_nat {n : Nat} (h : n ≤ 16777217) : inR (n : Int) := ⟨by omega, by omega⟩
/-! runs of defs -/
theorem Good.fnE {body : SD} {N : Nat} {ds : List D} {h h0 : CH} {d0 : D} {ρ : Env} (p : Good (body ρ h) (fun _ h' => d0 = .non ∧ h' = h0) (fun d h' => d = d0 ∧ h' = h0)) (he : ds.map some ++ List.replicate (N - ds.length) none = ρ := by rfl) : fnD N body ds h = .ok d0 h0 := by
  obtain ⟨d, h', e, rfl, rfl⟩ := Good.fn (T := fun d h' => d = d0 ∧ h' = h0) (Good.cut p fun _ _ ⟨a, b⟩ => ⟨a.symm, b⟩) he
  exact e
theorem Good.find {X : Type} {en : X → D} {p : X → Bool} {val : X → D} {c : BD} {r : ED} {v : Nat} {h h0 : CH} {o : Option Nat} {xs : List X} {ρ : Env} {u : Option D} {it : ITD} {N : Env → CH → Prop} {T : D → CH → Prop} (ei : it ρ h0 = .ok (xs.map en, o) h) (hg : gd o (xs.map en) h) (hu : ρ[v]? = some u)
    (hc : ∀ x ∈ xs, c (ρ.set v (some (en x))) h = .ok (p x) h) (hr : ∀ x ∈ xs, p x = true → r (ρ.set v (some (en x))) h = .ok (val x) h) (hs : ∀ x, xs.find? p = some x → T (val x) h) (hn : xs.find? p = none → N (ρ.set v (lastV en xs u)) h) : Good (FK.sFor it (gN v) (sIf c (sRet r) sNil) ρ h0) N T := by
  unfold FK.sFor
  rw [ei]
  dsimp only
  rw [find_eq (p := p) (val := val) hg xs hu hc hr]
  cases q : xs.find? p with
  | none => exact hn q
  | some x => exact hs x q
theorem Good.build {X : Type} {en : X → D} {f : X → List D} {g : GD} {body : SD} {hh : List D → CH} {o : Option Nat} {I : Env → Prop} (B : Nat) {xs : List X} {acc : List D} {ρ : Env} {h0 : CH} {it : ITD} {N : Env → CH → Prop} {T : D → CH → Prop} (ei : it ρ h0 = .ok (xs.map en, o) (hh acc)) (hg : ∀ acc, gd o (xs.map en) (hh acc))
    (hI : I ρ) (hB : acc.length + (xs.flatMap f).length ≤ B) (st : ∀ x ∈ xs, ∀ ρ acc, I ρ → acc.length + (f x).length ≤ B → ∃ ρ1, g (en x) ρ = some ρ1 ∧ ∃ ρ2, I ρ2 ∧ (body ρ1 (hh acc) = .ok .nx ρ2 (hh (acc ++ f x)) ∨ body ρ1 (hh acc) = .ok .ct ρ2 (hh (acc ++ f x))))
    (done : ∀ ρ', I ρ' → N ρ' (hh (acc ++ xs.flatMap f))) : Good (FK.sFor it g body ρ h0) N T := by
  obtain ⟨ρ', hI', e⟩ := FK.build (v := 0) (body := body) (g := g) (en := en) (f := f) (I := I) (all := xs.map en) hg xs acc ρ hI hB st
  unfold FK.sFor
  rw [ei]
  dsimp only
  rw [e]
  exact done ρ' hI'
/-- a loop that carries a state on -/
theorem Good.fold {X S : Type} {en : X → D} {st : S → X → S} {g : GD} {body : SD} {o : Option Nat} {I : S → Env → Prop} {h h0 : CH} {N : Env → CH → Prop} {T : D → CH → Prop} {it : ITD} {xs : List X} {s : S} {ρ : Env} (ei : it ρ h0 = .ok (xs.map en, o) h) (hg : gd o (xs.map en) h) (hI : I s ρ)
    (step : ∀ x ∈ xs, ∀ s ρ, I s ρ → ∃ ρ1, g (en x) ρ = some ρ1 ∧ ∃ ρ2, body ρ1 h = .ok .nx ρ2 h ∧ I (st s x) ρ2) (done : ∀ ρ', I (xs.foldl st s) ρ' → N ρ' h) : Good (FK.sFor it g body ρ h0) N T := by
  have key : ∀ (ys : List X) (s : S) (ρ : Env), (∀ y ∈ ys, y ∈ xs) → I s ρ → ∃ ρ', forX o (xs.map en) g body (ys.map en) ρ h = .ok .nx ρ' h ∧ I (ys.foldl st s) ρ' := by
    intro ys
    induction ys with
    | nil =>
      intro s ρ _ hI
      refine ⟨ρ, ?_, hI⟩
      cases o with
      | none => rfl
      | some n => exact if_pos hg
    | cons y ys ih =>
      intro s ρ hy hI
      obtain ⟨ρ1, e1, ρ2, e2, h2⟩ := step y (hy y List.mem_cons_self) s ρ hI
      obtain ⟨ρ', e3, h3⟩ := ih (st s y) ρ2 (fun z hz => hy z (List.mem_cons_of_mem _ hz)) h2
      refine ⟨ρ', ?_, h3⟩
      rw [← e3]
      cases o with
      | none =>
        show FK.forL g body (en y :: ys.map en) ρ h = _
        unfold FK.forL
        rw [e1]
        dsimp only
        rw [e2]
        rfl
      | some n =>
        show FK.forC n (xs.map en) g body (en y :: ys.map en) ρ h = _
        unfold FK.forC
        rw [if_pos (show h[n]? = some (.lst (xs.map en)) from hg), e1]
        dsimp only
        rw [e2]
        rfl
  obtain ⟨ρ', e, hI'⟩ := key xs s ρ (fun _ h => h) hI
  unfold FK.sFor
  rw [ei]
  dsimp only
  rw [e]
  exact done ρ' hI'
theorem sz' (n : Nat) : (n < sizeLine) = (n < 16777216) := by rw [sizeLine_eq]
theorem vw_last (h : CH) (xs : List D) : vw (h ++ [.lst xs]) (.ref h.length) = .lst xs := by unfold vw; dsimp only; rw [get_last]
theorem app_last (h : CH) (xs : List D) (d : D) (hl : xs.length < 16777216) : dApp (.ref h.length) [d] (h ++ [.lst xs]) = .ok .non (h ++ [.lst (xs ++ [d])]) := by
  unfold dApp
  dsimp only
  rw [get_last]
  dsimp only
  rw [if_pos (by rw [sz']; exact hl), set_last]
theorem eMl_app {f : ED} {fs : AD} {ρ : Env} {h : CH} {xs : List D} {d : D} (e1 : f ρ (h ++ [.lst xs]) = .ok (.ref h.length) (h ++ [.lst xs])) (e2 : fs ρ (h ++ [.lst xs]) = .ok [d] (h ++ [.lst xs])) (hl : xs.length < 16777216) : eMl dApp f fs ρ (h ++ [.lst xs]) = .ok .non (h ++ [.lst (xs ++ [d])]) := by
  unfold eMl M.bind
  rw [e1]
  dsimp only
  rw [vw_last]
  dsimp only
  rw [e2]
  exact app_last h xs d hl
theorem lstOf_last (h : CH) (xs : List D) : lstOf (h ++ [.lst xs]) (.ref h.length) = some xs := by unfold lstOf; rw [vw_last]
theorem lstOf_app {h : CH} {d : D} {xs : List D} (e : lstOf h d = some xs) {j : CH} : lstOf (h ++ j) d = some xs := by
  unfold lstOf vw at *
  cases d with
  | ref k =>
    dsimp only at *
    cases q : h[k]? with
    | none => rw [q] at e; cases e
    | some c =>
      obtain ⟨hk, _⟩ := List.getElem?_eq_some_iff.mp q
      rw [List.getElem?_append_left hk, q]
      rw [q] at e
      exact e
  | lst ys => exact e
  | _ => cases e
theorem fz_lstOf {h : CH} {d : D} {xs : List D} (e : lstOf h d = some xs) (n : D.nrL xs = true) : fz h d = some (.lst xs) := by
  unfold lstOf vw at e
  cases d with
  | ref k =>
    dsimp only at e
    cases q : h[k]? with
    | none => rw [q] at e; cases e
    | some c =>
      rw [q] at e
      cases c with
      | lst ys => cases e; exact fz_ref q n
      | _ => cases e
  | lst ys => cases e; exact fz_nr n
  | _ => cases e
theorem flatL_nrL {xs : List D} (h : D.flatL xs = true) : D.nrL xs = true := D.nr_flat (.tup xs) h
theorem callP_lf {n : Nat} {F : FD} {d r : D} {xs rest : List D} {h h' : CH} (hl : lstOf h d = some xs) (hx : D.nrL xs = true) (hr : D.nrL rest = true) (e : F (.lst xs :: rest) [] = .ok r h') (hf : r.flat = true) (hn : rest.length + 1 = n := by rfl) : callP n F (d :: rest) h = .ok r h := by
  by_cases q : D.nrL (d :: rest) = true
  · have : d = .lst xs := by
      cases d with
      | ref k => cases q
      | lst ys => cases hl; rfl
      | _ => cases hl
    subst this
    exact callP_ok q e (fz_nr (D.nr_flat r hf)) hn
  · refine callP_fz (es := .lst xs :: rest) (Bool.eq_false_iff.mpr q) ?_ e hf hn
    unfold mapO
    rw [fz_lstOf hl hx, mapO_id fun d hd => fz_nr (nrL_iff.mp hr d hd)]
theorem callP_ll {n : Nat} {F : FD} {d : D} {k : Nat} {xs ys rest : List D} {h h' : CH} (hl : lstOf h d = some xs) (hx : D.nrL xs = true) (hr : D.nrL rest = true) (e : F (.lst xs :: rest) [] = .ok (.ref k) h') (hk : h'[k]? = some (.lst ys)) (hf : D.flatL ys = true) (hn : rest.length + 1 = n := by rfl) : callP n F (d :: rest) h = .ok (.lst ys) h := by
  by_cases q : D.nrL (d :: rest) = true
  · have : d = .lst xs := by
      cases d with
      | ref k => cases q
      | lst ys => cases hl; rfl
      | _ => cases hl
    subst this
    exact callP_ok q e (fz_ref hk (flatL_nrL hf)) hn
  · have hm : mapO (fz h) (d :: rest) = some (.lst xs :: rest) := by
      unfold mapO
      rw [fz_lstOf hl hx, mapO_id fun d hd => fz_nr (nrL_iff.mp hr d hd)]
    unfold callP
    rw [if_pos (show (d :: rest).length = n from hn), if_neg q, hm]
    dsimp only
    rw [e]
    dsimp only
    rw [if_neg (show ¬ (D.flat (.ref k) = true) from fun z => nomatch z)]
    unfold own
    dsimp only
    rw [hk]
    dsimp only
    rw [if_pos hf]
theorem callN_ok {n : Nat} {F : FD} {ds ys : List D} {k : Nat} {h h' : CH} (hr : D.nrL ds = true) (e : F ds [] = .ok (.ref k) h') (hk : h'[k]? = some (.lst ys)) (hy : D.nrL ys = true) (hn : ds.length = n := by rfl) : callN n F ds h = .ok (.ref h.length) (h ++ [.lst ys]) := by
  unfold callN
  rw [if_pos hn, if_pos hr, e]
  dsimp only
  rw [hk]
  dsimp only
  rw [if_pos hy]
theorem callN_fzok {n : Nat} {F : FD} {ds es ys : List D} {k : Nat} {h h' : CH} (hr : D.nrL ds = false) (hm : mapO (fz h) ds = some es) (e : F es [] = .ok (.ref k) h') (hk : h'[k]? = some (.lst ys)) (hy : D.flatL ys = true) (hn : ds.length = n := by rfl) : callN n F ds h = .ok (.ref h.length) (h ++ [.lst ys]) := by
  unfold callN
  rw [if_pos hn, if_neg (by rw [hr]; decide), hm]
  dsimp only
  rw [e]
  dsimp only
  rw [hk]
  dsimp only
  rw [if_pos hy]
/-! operators on plain data, one by one -/
theorem dEq_int (a b : Int) (h : CH) : dEq (.int a) (.int b) h = .ok (.bl (decide (a = b))) h := by
  have : D.eqb (.int a) (.int b) = decide (a = b) := by
    show (a == b) = _
    by_cases h : a = b <;> simp [h]
  unfold dEq
  rw [if_pos ⟨rfl, rfl, by show min 0 0 ≤ 60; decide⟩]
  show R.ok (D.bl (D.eqb (.int a) (.int b))) h = _
  rw [this]
theorem dNe_int (a b : Int) (h : CH) : dNe (.int a) (.int b) h = .ok (.bl (!decide (a = b))) h := by
  have : D.eqb (.int a) (.int b) = decide (a = b) := by
    show (a == b) = _
    by_cases h : a = b <;> simp [h]
  unfold dNe
  rw [if_pos ⟨rfl, rfl, by show min 0 0 ≤ 60; decide⟩]
  show R.ok (D.bl (!D.eqb (.int a) (.int b))) h = _
  rw [this]
theorem dIs_non (h : CH) : dIs .non .non h = .ok (.bl true) h := rfl
theorem dIsnt_non (h : CH) : dIsnt .non .non h = .ok (.bl false) h := rfl
theorem dIs_I (i : Id) (h : CH) : dIs (encI i) .non h = .ok (.bl false) h := rfl
theorem dIsnt_I (i : Id) (h : CH) : dIsnt (encI i) .non h = .ok (.bl true) h := rfl
theorem dIdx_tup (xs : List D) (k : Int) (h : CH) : dIdx (.tup xs) (.int k) h = match atI xs k with | some d => .ok d h | none => .bad := rfl
theorem dIdx_lst (xs : List D) (k : Int) (h : CH) : dIdx (.lst xs) (.int k) h = match atI xs k with | some d => .ok d h | none => .bad := rfl
theorem dIdx_scr (xs : List D) (k : Int) (h : CH) : dIdx (.scr xs) (.int k) h = match atI xs k with | some d => .ok d h | none => .bad := rfl
theorem dAdd_int (a b : Int) (h : CH) : dAdd (.int a) (.int b) h = .ok (.int (a + b)) h := rfl
/-! a loop as a machine -/
inductive Stp (S : Type) where
  | ret (d : D)
  | go (s : S)
  | stop (s : S)
def runX {X S : Type} (st : S → X → Stp S) : List X → S → (D × S) ⊕ S
  | [], s => .inr s
  | x :: xs, s => match st s x with
    | .ret d => .inl (d, s)
    | .go s' => runX st xs s'
    | .stop s' => .inr s'
/-- what a turn must show -/
def Turn {S : Type} (r : RS) (hh : S → CH) (I : S → Env → Prop) (s : S) : Stp S → Prop
  | .ret d => ∃ ρ2, r = .ok (.rt d) ρ2 (hh s)
  | .go s => ∃ ρ2, (r = .ok .nx ρ2 (hh s) ∨ r = .ok .ct ρ2 (hh s)) ∧ I s ρ2
  | .stop s => ∃ ρ2, r = .ok .bk ρ2 (hh s) ∧ I s ρ2
/-- the state when all turns so far went on -/
def goX {X S : Type} (st : S → X → Stp S) : List X → S → Option S
  | [], s => some s
  | x :: xs, s => match st s x with
    | .go s' => goX st xs s'
    | _ => none
theorem goX_snoc {X S : Type} {st : S → X → Stp S} {y : X} {s2 : S} : ∀ {xs : List X} {s s1 : S}, goX st xs s = some s1 → st s1 y = .go s2 → goX st (xs ++ [y]) s = some s2
  | [], s, s1, e, q => by
    cases e
    show (match st s y with | .go s' => goX st [] s' | _ => none) = _
    rw [q]
    rfl
  | x :: xs, s, s1, e, q => by
    unfold goX at e
    show (match st s x with | .go s' => goX st (xs ++ [y]) s' | _ => none) = _
    cases h : st s x with
    | go s' => rw [h] at e; exact goX_snoc (xs := xs) e q
    | ret d => rw [h] at e; cases e
    | stop s' => rw [h] at e; cases e
theorem Good.runP {X S : Type} {en : X → D} (st : S → X → Stp S) {hh : S → CH} {g : GD} {body : SD} {o : Option Nat} (I : S → Env → Prop) {h0 : CH} {N : Env → CH → Prop} {T : D → CH → Prop} {it : ITD} {xs : List X} (s : S) {ρ : Env} (ei : it ρ h0 = .ok (xs.map en, o) (hh s)) (hg : ∀ s, gd o (xs.map en) (hh s)) (hI : I s ρ)
    (step : ∀ pre x post, xs = pre ++ x :: post → ∀ s' ρ, goX st pre s = some s' → I s' ρ → ∃ ρ1, g (en x) ρ = some ρ1 ∧ Turn (body ρ1 (hh s')) hh I s' (st s' x)) (ret : ∀ d s', runX st xs s = .inl (d, s') → T d (hh s')) (done : ∀ s' ρ', runX st xs s = .inr s' → I s' ρ' → N ρ' (hh s')) : Good (FK.sFor it g body ρ h0) N T := by
  have key : ∀ (ys pre : List X) (s1 : S) (ρ : Env), xs = pre ++ ys → goX st pre s = some s1 → I s1 ρ → Good (forX o (xs.map en) g body (ys.map en) ρ (hh s1)) (fun ρ' h' => ∃ s', runX st ys s1 = .inr s' ∧ I s' ρ' ∧ h' = hh s') (fun d h' => ∃ s', runX st ys s1 = .inl (d, s') ∧ h' = hh s') := by
    intro ys
    induction ys with
    | nil =>
      intro pre s1 ρ _ _ hI
      cases o with
      | none => exact ⟨s1, rfl, hI, rfl⟩
      | some n =>
        have : forX (some n) (xs.map en) g body (([] : List X).map en) ρ (hh s1) = .ok .nx ρ (hh s1) := if_pos (hg s1)
        rw [this]
        exact ⟨s1, rfl, hI, rfl⟩
    | cons y ys ih =>
      intro pre s1 ρ hx hgo hI
      obtain ⟨ρ1, e1, t⟩ := step pre y ys hx s1 ρ hgo hI
      have one : forX o (xs.map en) g body ((y :: ys).map en) ρ (hh s1) = (match body ρ1 (hh s1) with
        | .ok .nx ρ2 h2 => forX o (xs.map en) g body (ys.map en) ρ2 h2
        | .ok .ct ρ2 h2 => forX o (xs.map en) g body (ys.map en) ρ2 h2
        | .ok .bk ρ2 h2 => .ok .nx ρ2 h2
        | r => r) := by
        cases o with
        | none =>
          show FK.forL g body (en y :: ys.map en) ρ (hh s1) = _
          unfold FK.forL
          rw [e1]
          rfl
        | some n =>
          show FK.forC n (xs.map en) g body (en y :: ys.map en) ρ (hh s1) = _
          unfold FK.forC
          rw [if_pos (show (hh s1)[n]? = some (.lst (xs.map en)) from hg s1), e1]
          rfl
      rw [one]
      unfold runX
      cases q : st s1 y with
      | ret d =>
        rw [q] at t
        obtain ⟨ρ2, e2⟩ := t
        rw [e2]
        exact ⟨s1, rfl, rfl⟩
      | go s' =>
        rw [q] at t
        obtain ⟨ρ2, e2, t2⟩ := t
        have := ih (pre ++ [y]) s' ρ2 (by rw [hx, List.append_assoc]; rfl) (goX_snoc hgo q) t2
        rcases e2 with e2 | e2 <;> rw [e2] <;> exact this
      | stop s' =>
        rw [q] at t
        obtain ⟨ρ2, e2, t2⟩ := t
        rw [e2]
        exact ⟨s', rfl, t2, rfl⟩
  unfold FK.sFor
  rw [ei]
  dsimp only
  have k := key xs [] s ρ rfl rfl hI
  generalize forX o (xs.map en) g body (xs.map en) ρ (hh s) = r at k
  cases r with
  | ok f ρ' h' =>
    cases f with
    | nx => obtain ⟨s', a, b, c⟩ := k; subst c; exact done s' ρ' a b
    | rt d => obtain ⟨s', a, c⟩ := k; subst c; exact ret d s' a
    | _ => exact k.elim
  | _ => exact k.elim
theorem Good.run {X S : Type} {en : X → D} (st : S → X → Stp S) {hh : S → CH} {g : GD} {body : SD} {o : Option Nat} (I : S → Env → Prop) {h0 : CH} {N : Env → CH → Prop} {T : D → CH → Prop} {it : ITD} {xs : List X} (s : S) {ρ : Env} (ei : it ρ h0 = .ok (xs.map en, o) (hh s)) (hg : ∀ s, gd o (xs.map en) (hh s)) (hI : I s ρ)
    (step : ∀ x ∈ xs, ∀ s ρ, I s ρ → ∃ ρ1, g (en x) ρ = some ρ1 ∧ Turn (body ρ1 (hh s)) hh I s (st s x)) (ret : ∀ d s', runX st xs s = .inl (d, s') → T d (hh s')) (done : ∀ s' ρ', runX st xs s = .inr s' → I s' ρ' → N ρ' (hh s')) : Good (FK.sFor it g body ρ h0) N T :=
  Good.runP st I s ei hg hI (fun pre x post hx s' ρ _ hI => step x (by rw [hx]; simp) s' ρ hI) ret done
/-- a loop, by what holds behind each part of the items -/
theorem Good.pre {X : Type} {en : X → D} {g : GD} {body : SD} {o : Option Nat} (I : List X → Env → CH → Prop) {h0 h : CH} {N : Env → CH → Prop} {T : D → CH → Prop} {it : ITD} {xs : List X} {ρ : Env} (ei : it ρ h0 = .ok (xs.map en, o) h) (hI : I [] ρ h) (hgd : ∀ pre ρ h, I pre ρ h → gd o (xs.map en) h)
    (step : ∀ pre x post, xs = pre ++ x :: post → ∀ ρ h, I pre ρ h → ∃ ρ1, g (en x) ρ = some ρ1 ∧ Good (body ρ1 h) (I (pre ++ [x])) T) (done : ∀ ρ' h', I xs ρ' h' → N ρ' h') : Good (FK.sFor it g body ρ h0) N T := by
  have key : ∀ (ys pre : List X) (ρ : Env) (h : CH), xs = pre ++ ys → I pre ρ h → Good (forX o (xs.map en) g body (ys.map en) ρ h) (I xs) T := by
    intro ys
    induction ys with
    | nil =>
      intro pre ρ h e hI
      rw [List.append_nil] at e
      subst e
      have : forX o (xs.map en) g body (([] : List X).map en) ρ h = .ok .nx ρ h := by
        cases o with
        | none => rfl
        | some n => exact if_pos (hgd _ _ _ hI)
      rw [this]
      exact hI
    | cons y ys ih =>
      intro pre ρ h e hI
      obtain ⟨ρ1, e1, t⟩ := step pre y ys e ρ h hI
      have one : forX o (xs.map en) g body ((y :: ys).map en) ρ h = (match body ρ1 h with
        | .ok .nx ρ2 h2 => forX o (xs.map en) g body (ys.map en) ρ2 h2
        | .ok .ct ρ2 h2 => forX o (xs.map en) g body (ys.map en) ρ2 h2
        | .ok .bk ρ2 h2 => .ok .nx ρ2 h2
        | r => r) := by
        cases o with
        | none =>
          show FK.forL g body (en y :: ys.map en) ρ h = _
          unfold FK.forL
          rw [e1]
          rfl
        | some n =>
          show FK.forC n (xs.map en) g body (en y :: ys.map en) ρ h = _
          unfold FK.forC
          rw [if_pos (show h[n]? = some (.lst (xs.map en)) from hgd _ _ _ hI), e1]
          rfl
      rw [one]
      cases eb : body ρ1 h with
      | ok f ρ2 h2 =>
        rw [eb] at t
        cases f with
        | nx => exact ih (pre ++ [y]) ρ2 h2 (by rw [e, List.append_assoc]; rfl) t
        | rt d => exact t
        | _ => exact t.elim
      | _ => rw [eb] at t; exact t.elim
  unfold FK.sFor
  rw [ei]
  dsimp only
  exact Good.cut (key xs [] ρ h rfl hI) done
theorem dSl_L {h : CH} {d : D} {xs : List D} (hl : lstOf h d = some xs) (lo hi : Option Int) : dSl d lo hi h = .ok (.lst (cut xs lo hi)) h := by
  unfold lstOf at hl
  cases d with
  | ref k =>
    unfold dSl
    dsimp only
    cases q : vw h (.ref k) with
    | lst ys => rw [q] at hl; cases hl; rfl
    | _ => rw [q] at hl; cases hl
  | lst ys => cases hl; rfl
  | _ => cases hl
theorem dIdx_L {h : CH} {d : D} {xs : List D} (hl : lstOf h d = some xs) (k : Int) : dIdx d (.int k) h = match atI xs k with | some d => .ok d h | none => .bad := by
  unfold lstOf at hl
  cases d with
  | ref k =>
    unfold dIdx
    dsimp only
    unfold seq
    cases q : vw h (.ref k) with
    | lst ys => rw [q] at hl; cases hl; rfl
    | _ => rw [q] at hl; cases hl
  | lst ys => cases hl; rfl
  | _ => cases hl
theorem dAdd_lst (xs ys : List D) (h : CH) (hl : xs.length + ys.length ≤ 16777216) : dAdd (.lst xs) (.lst ys) h = .ok (.lst (xs ++ ys)) h := by
  unfold dAdd
  exact if_pos (by rw [sz]; exact hl)
theorem cut_to {xs : List D} {k : Nat} (hk : k ≤ xs.length) : cut xs none (some (k : Int)) = xs.take k := by
  unfold cut
  rw [HT.sIx_nat]
  show ((xs.drop 0).take (min k xs.length - 0)) = _
  rw [List.drop_zero, Nat.sub_zero, Nat.min_eq_left hk]
theorem cut_from {xs : List D} {k : Nat} (hk : k ≤ xs.length) : cut xs (some (k : Int)) none = xs.drop k := by
  unfold cut
  rw [HT.sIx_nat]
  show ((xs.drop (min k xs.length)).take (xs.length - min k xs.length)) = _
  rw [Nat.min_eq_left hk, List.take_of_length_le (by rw [List.length_drop]; exact Nat.le_refl _)]
/-- [f for g in xs if b] -/
theorem eLc_fm {X : Type} {en : X → D} (p : X → Bool) (val : X → D) {it : ITD} {g : GD} {b : BD} {f : ED} {vs : List Nat} {ρ : Env} {h : CH} {o : Option Nat} {xs : List X} (ei : it ρ h = .ok (xs.map en, o) h) (hg : gd o (xs.map en) h) (hl : xs.length ≤ 16777216)
    (hq : ∀ x ∈ xs, ∃ ρ1, g (en x) (wipeE ρ vs) = some ρ1 ∧ b ρ1 h = .ok (p x) h ∧ (p x = true → f ρ1 h = .ok (val x) h)) : eLc lcEnd it g b f vs ρ h = .ok (.lst ((xs.filter p).map val)) h := by
  have one : ∀ x ∈ xs, lcT g b f (wipeE ρ vs) (en x) h = .ok (if p x = true then some (val x) else none) h := by
    intro x hx
    obtain ⟨ρ1, e1, e2, e3⟩ := hq x hx
    unfold lcT
    rw [e1]
    dsimp only
    rw [e2]
    cases q : p x with
    | true => dsimp only; rw [e3 q]; rfl
    | false => rfl
  have key : ∀ ys : List X, (∀ y ∈ ys, y ∈ xs) → lcX o (xs.map en) g b f (wipeE ρ vs) (ys.map en) h = .ok ((ys.filter p).map val) h := by
    intro ys
    induction ys with
    | nil =>
      intro _
      cases o with
      | none => rfl
      | some n => exact if_pos hg
    | cons y ys ih =>
      intro hy
      have e1 := one y (hy y List.mem_cons_self)
      have e2 := ih fun z hz => hy z (List.mem_cons_of_mem _ hz)
      have step : lcX o (xs.map en) g b f (wipeE ρ vs) ((y :: ys).map en) h = M.bind (lcT g b f (wipeE ρ vs) (en y)) (fun q => M.bind (lcX o (xs.map en) g b f (wipeE ρ vs) (ys.map en)) fun r => M.pure (q.toList ++ r)) h := by
        cases o with
        | none => rfl
        | some n => exact if_pos hg
      rw [step]
      unfold M.bind
      rw [e1]
      dsimp only
      rw [e2]
      cases q : p y with
      | true => rw [if_pos rfl, List.filter_cons_of_pos q]; rfl
      | false => rw [if_neg (by decide), List.filter_cons_of_neg (by simp [q])]; rfl
  unfold eLc M.bind
  rw [ei]
  dsimp only
  rw [key xs fun _ h => h]
  unfold lcEnd
  have := List.length_filter_le p xs
  exact if_pos (by rw [sz, List.length_map]; omega)
theorem wipe_gN {ρ : Env} {v : Nat} {d : D} : gN v d (wipeE ρ [v]) = some (ρ.set v (some d)) := by
  show some ((ρ.set v none).set v (some d)) = _
  rw [set_set]
theorem Good.toNx {r : RS} {N : Env → CH → Prop} (g : Good r N (fun _ _ => False)) : ∃ ρ h, r = .ok .nx ρ h ∧ N ρ h := by
  cases r with
  | ok f ρ h =>
    cases f with
    | nx => exact ⟨ρ, h, rfl, g⟩
    | rt d => exact g.elim
    | _ => exact g.elim
  | _ => exact g.elim
end FK

/-! part: D_k27 -/
set_option Elab.async false
set_option linter.all false
set_option maxRecDepth 100000
set_option maxHeartbeats 4000000
/-! the defs of law_k27_what_a_write_replaces as functions of data (printed by gen.py) -/
namespace FK
open PySem PySem.Spec L2
noncomputable def b_Knowledge_init : SD := sSeq (sFldS ["Knowledge"] "clock" (eVar 0) (eVar 2))
  (sSeq (sFldS ["Knowledge"] "base" (eVar 0) (eCall dList (aCons (eVar 3) (aNil))))
  (sSeq (sFldS ["Knowledge"] "upto" (eVar 0) (eVar 4))
  (sSeq (sFldS ["Knowledge"] "rest" (eVar 0) (eCall dList (aCons (eVar 5) (aNil))))
  (sSeq (sFldS ["Knowledge"] "knows" (eVar 0) (eLc lcEnd (iE (eVar 1)) (gN 7) (bYes) (eTup (aCons (eVar 7) (aCons (eC (.int 0)) (aNil)))) [7]))
  (sIf (bT (e2 dIsnt (eVar 6) (eC .non))) (sFldS ["Knowledge"] "knows" (eVar 0) (eCall dList (aCons (eVar 6) (aNil)))) (sNil))))))
/-- Knowledge.__init__(0 self, 1 devices, 2 clock, 3 base, 4 upto, 5 rest, 6 knows, 7 device) -/
noncomputable def d_Knowledge_init : FD := fnD 8 b_Knowledge_init
noncomputable def b_KeeperState_init : SD := sSeq (sFldS ["KeeperState"] "me" (eVar 0) (eVar 1))
  (sSeq (sFldS ["KeeperState"] "devices" (eVar 0) (eCall dList (aCons (eVar 2) (aNil))))
  (sSeq (sFldS ["KeeperState"] "rule" (eVar 0) (eVar 3))
  (sSeq (sFldS ["KeeperState"] "ignores" (eVar 0) (eCall dTuple (aCons (eVar 4) (aNil))))
  (sSeq (sFldS ["KeeperState"] "know" (eVar 0) (eVar 5))
  (sSeq (sIf (bT (e2 dIs (eVar 5) (eC .non))) (sFldS ["KeeperState"] "know" (eVar 0) (eCall (mkO "Knowledge" (arrG [0, 1, 2, 3, 4, 5, 6] 1 [.int 0, .tup [], .int 0, .tup [], .non]) d_Knowledge_init) (aApp (aCons (eVar 2) (aNil)) (aNil)))) (sNil))
  (sSeq (sFldS ["KeeperState"] "heard" (eVar 0) (eCall dList (aCons (eVar 6) (aNil))))
  (sSeq (sFldS ["KeeperState"] "placed" (eVar 0) (eCall dList (aCons (eVar 7) (aNil))))
  (sSeq (sFldS ["KeeperState"] "had" (eVar 0) (eCall dList (aCons (eVar 8) (aNil))))
  (sSeq (sFldS ["KeeperState"] "taken" (eVar 0) (eCall dList (aCons (eVar 9) (aNil))))
  (sSeq (sFldS ["KeeperState"] "shelf" (eVar 0) (eCall dList (aCons (eVar 10) (aNil))))
  (sSeq (sFldS ["KeeperState"] "next_place" (eVar 0) (eVar 11))
  (sSeq (sFldS ["KeeperState"] "pending" (eVar 0) (eVar 12))
  (sSeq (sFldS ["KeeperState"] "late" (eVar 0) (eCall dList (aCons (eVar 13) (aNil))))
  (sSeq (sFldS ["KeeperState"] "requests" (eVar 0) (eCall dList (aCons (eVar 14) (aNil))))
  (sSeq (sFldS ["KeeperState"] "pieces" (eVar 0) (eCall dList (aCons (eVar 15) (aNil))))
  (sSeq (sFldS ["KeeperState"] "away" (eVar 0) (eCall dList (aCons (eVar 16) (aNil))))
  (sSeq (sFldS ["KeeperState"] "holding" (eVar 0) (eCall dList (aCons (eVar 17) (aNil))))
  (sSeq (sFldS ["KeeperState"] "asking" (eVar 0) (eCall dList (aCons (eVar 18) (aNil))))
  (sSeq (sFldS ["KeeperState"] "fetching" (eVar 0) (eCall dList (aCons (eVar 19) (aNil))))
  (sSeq (sFldS ["KeeperState"] "drops" (eVar 0) (eCall dList (aCons (eVar 20) (aNil))))
  (sSeq (sFldS ["KeeperState"] "next_number" (eVar 0) (eVar 21))
  (sSeq (sFldS ["KeeperState"] "stage" (eVar 0) (eVar 22))
  (sFldS ["KeeperState"] "scan" (eVar 0) (eC .non))))))))))))))))))))))))
/-- KeeperState.__init__(0 self, 1 me, 2 devices, 3 rule, 4 ignores, 5 know, 6 heard, 7 placed, 8 had, 9 taken, 10 shelf, 11 next_place, 12 pending, 13 late, 14 requests, 15 pieces, 16 away, 17 holding, 18 asking, 19 fetching, 20 drops, 21 next_number, 22 stage) -/
noncomputable def d_KeeperState_init : FD := fnD 23 b_KeeperState_init
noncomputable def b_Placed_init : SD := sSeq (sFldS ["Placed"] "path" (eVar 0) (eVar 1))
  (sSeq (sFldS ["Placed"] "names" (eVar 0) (eVar 2))
  (sSeq (sFldS ["Placed"] "thing" (eVar 0) (eVar 3))
  (sSeq (sFldS ["Placed"] "count" (eVar 0) (eVar 4))
  (sSeq (sFldS ["Rule", "Placed"] "cuts" (eVar 0) (eVar 5))
  (sSeq (sFldS ["Placed"] "content" (eVar 0) (eVar 6))
  (sSeq (sFldS ["Placed"] "ids" (eVar 0) (eVar 7))
  (sSeq (sFldS ["Placed"] "line" (eVar 0) (eVar 8))
  (sFldS ["Placed"] "seen" (eVar 0) (eVar 9)))))))))
/-- Placed.__init__(0 self, 1 path, 2 names, 3 thing, 4 count, 5 cuts, 6 content, 7 ids, 8 line, 9 seen) -/
noncomputable def d_Placed_init : FD := fnD 10 b_Placed_init
noncomputable def b_Rule_init : SD := sSeq (sFldS ["Rule"] "alike" (eVar 0) (eVar 1))
  (sSeq (sFldS ["Rule"] "unfit" (eVar 0) (eVar 2))
  (sSeq (sFldS ["Rule"] "longest" (eVar 0) (eVar 3))
  (sSeq (sFldS ["Rule"] "swaps" (eVar 0) (eVar 4))
  (sSeq (sFldS ["Rule"] "reads" (eVar 0) (eVar 5))
  (sSeq (sFldS ["Rule", "Placed"] "cuts" (eVar 0) (eVar 6))
  (sFldS ["Rule"] "turns" (eVar 0) (eVar 7)))))))
/-- Rule.__init__(0 self, 1 alike, 2 unfit, 3 longest, 4 swaps, 5 reads, 6 cuts, 7 turns) -/
noncomputable def d_Rule_init : FD := fnD 8 b_Rule_init
noncomputable def b_l_cells : SD := sSeq (sAsg (eNew (aNil)) (gN 2))
  (sSeq (sFor (iR1 (aCons (eVar 1) (aNil))) (gN 3) (sSeq (sAsg (eC (.int 0)) (gN 4))
  (sSeq (sIf (bT (e2 dLt (eVar 3) (eCall dLen (aCons (eVar 0) (aNil))))) (sAsg (eCall dInt (aCons (e2 dIdx (eVar 0) (eVar 3)) (aNil))) (gN 4)) (sNil))
  (sSeq (sIf (bT (e2 dLt (eVar 4) (eC (.int 0)))) (sAsg (e2 dSub (eC (.int 1)) (e2 dMul (eC (.int 2)) (eVar 4))) (gN 4)) (sNil))
  (sSeq (sIf (bOr (bT (e2 dGe (eVar 3) (eCall dLen (aCons (eVar 0) (aNil))))) (bT (e2 dLt (eVar 4) (eC (.int 1000000000))))) (sSeq (sIf (bT (e2 dGt (eCall dLen (aCons (eVar 0) (aNil))) (eC (.int 0)))) (sAsg (eCall dInt (aCons (e2 dIdx (eVar 0) (e2 dMod (eCall dInt (aCons (eVar 3) (aNil))) (eCall dLen (aCons (eVar 0) (aNil))))) (aNil))) (gN 4)) (sNil))
  (sSeq (sIf (bT (e2 dLt (eVar 4) (eC (.int 0)))) (sAsg (e2 dSub (eC (.int 1)) (e2 dMul (eC (.int 2)) (eVar 4))) (gN 4)) (sNil))
  (sSeq (sAsg (e2 dMod (eCall dInt (aCons (e2 dAdd (e2 dMul (e2 dAdd (e2 dAdd (eVar 4) (e2 dMul (eC (.int 131)) (eVar 3))) (eC (.int 7))) (eC (.int 48271))) (e2 dMul (e2 dMul (eVar 3) (eVar 3)) (eC (.int 69621)))) (aNil))) (eC (.int 1000000007))) (gN 4))
  (sAsg (e2 dMod (eCall dInt (aCons (e2 dMul (e2 dAdd (e2 dAdd (eVar 4) (e2 dMul (eC (.int 17)) (eVar 3))) (eC (.int 3))) (eC (.int 2862933555777941757))) (aNil))) (eC (.int 18446744073709551557))) (gN 4))))) (sNil))
  (sExpr (eMl dApp (eVar 2) (aCons (eVar 4) (aNil)))))))))
  (sRet (eVar 2)))
/-- _law_cells(0 _law_script, 1 _law_count, 2 _law_cells_here, 3 _law_k, 4 _law_cell) -/
noncomputable def d_l_cells : FD := fnD 5 b_l_cells
noncomputable def b_had_at : SD := sSeq (sFor (iE (eVar 0)) (gT (gsC (gN 2) (gsC (gN 3) (gsN)))) (sIf (bT (e2 dEq (eVar 2) (eVar 1))) (sRet (eVar 3)) (sNil)))
  (sRet (eTup (aNil)))
/-- had_at(0 had, 1 path, 2 at, 3 ids) -/
noncomputable def d_had_at : FD := fnD 4 b_had_at
noncomputable def b_replaced_by : SD := sSeq (sIf (bAnd (bT (e2 dEq (eVar 4) (e1 (dFld ["Placed"] "thing") (eVar 3)))) (bOr (bNot (bT (e1 (dFld ["Rule", "Placed"] "cuts") (e1 (dFld ["KeeperState"] "rule") (eVar 0))))) (bT (e2 dEq (eVar 5) (e1 (dFld ["Rule", "Placed"] "cuts") (eVar 3)))))) (sRet (e1 (dFld ["Placed"] "ids") (eVar 3))) (sNil))
  (sSeq (sIf (bOr (bT (eVar 2)) (bT (e2 dEq (eCall (callP 2 d_had_at) (aCons (eVar 1) (aCons (e1 (dFld ["Placed"] "path") (eVar 3)) (aNil)))) (e1 (dFld ["Placed"] "ids") (eVar 3))))) (sRet (e1 (dFld ["Placed"] "ids") (eVar 3))) (sNil))
  (sSeq (sFor (iE (e1 (dFld ["Placed"] "ids") (eVar 3))) (gN 6) (sIf (bT (e2 dEq (e2 dIdx (eVar 6) (eC (.int 1))) (e1 (dFld ["KeeperState"] "me") (eVar 0)))) (sRet (e1 (dFld ["Placed"] "ids") (eVar 3))) (sNil)))
  (sRet (eCall (callP 2 d_had_at) (aCons (eVar 1) (aCons (e1 (dFld ["Placed"] "path") (eVar 3)) (aNil)))))))
/-- replaced_by(0 state, 1 had, 2 read, 3 was, 4 thing, 5 cuts, 6 edit_id) -/
noncomputable def d_replaced_by : FD := fnD 7 b_replaced_by
noncomputable def b_law : SD := sSeq (sAsg (eCall (callP 2 d_l_cells) (aCons (eVar 0) (aCons (eC (.int 12)) (aNil)))) (gN 1))
  (sSeq (sAsg (eCall dTuple (aCons (eLc lcEnd (iR1 (aCons (e2 dAdd (eC (.int 1)) (e2 dMod (eCall dInt (aCons (e2 dIdx (eVar 1) (eC (.int 3))) (aNil))) (eC (.int 3)))) (aNil))) (gN 15) (bYes) (eTup (aCons (e2 dAdd (eVar 15) (eC (.int 1))) (aCons (e2 dMod (eCall dInt (aCons (e2 dIdx (eVar 1) (eVar 15)) (aNil))) (eC (.int 3))) (aNil)))) [15]) (aNil))) (gN 2))
  (sSeq (sAsg (e2 dIdx (eLst (aCons (eTup (aNil)) (aCons (eVar 2) (aCons (eSl (eVar 2) (oSome (eC (.int 1))) (oNone)) (aCons (eTup (aCons (eTup (aCons (eC (.int 9)) (aCons (eC (.int 2)) (aNil)))) (aNil))) (aNil)))))) (e2 dMod (eCall dInt (aCons (e2 dIdx (eVar 1) (eC (.int 4))) (aNil))) (eC (.int 4)))) (gN 3))
  (sSeq (sAsg (eNew (aCons (eTup (aCons (eTup (aCons (eC (.str "b")) (aNil))) (aCons (eVar 2) (aNil)))) (aNil))) (gN 4))
  (sSeq (sIf (bT (e2 dGt (eCall dLen (aCons (eVar 3) (aNil))) (eC (.int 0)))) (sExpr (eMl dApp (eVar 4) (aCons (eTup (aCons (eTup (aCons (eC (.str "a")) (aNil))) (aCons (eVar 3) (aNil)))) (aNil)))) (sNil))
  (sSeq (sAsg (e2 dMod (eCall dInt (aCons (e2 dIdx (eVar 1) (eC (.int 5))) (aNil))) (eC (.int 4))) (gN 5))
  (sSeq (sAsg (eCall (mkO "Rule" (arrG [0, 1, 2, 3, 4, 5, 7, 6] 0 [.tup [], .tup [], .int 80, .bl true, .bl true, .bl true]) d_Rule_init) (aCons (e2 dEq (e2 dMod (e2 dIdx (eVar 1) (eC (.int 6))) (eC (.int 2))) (eC (.int 0))) (aNil))) (gN 6))
  (sSeq (sAsg (eCall (mkO "KeeperState" (arrG [0, 1, 2, 3, 4, 5, 6, 7, 8, 9, 10, 11, 12, 13, 14, 15, 16, 17, 18, 19, 20, 21, 22] 4 [.non, .tup [], .tup [], .tup [], .tup [], .tup [], .int 0, .non, .tup [], .tup [], .tup [], .tup [], .tup [], .tup [], .tup [], .tup [], .int 0, .tup [.str "idle"]]) d_KeeperState_init) (aApp (aCons (eVar 5) (aCons (eLst (aCons (eC (.int 0)) (aCons (eC (.int 1)) (aCons (eC (.int 2)) (aCons (eC (.int 3)) (aNil)))))) (aCons (eVar 6) (aCons (eTup (aNil)) (aNil))))) (aNil))) (gN 7))
  (sSeq (sAsg (eCall (mkO "Placed" (fun s ds => s :: (ds ++ [])) d_Placed_init) (aCons (eTup (aCons (eC (.str "a")) (aNil))) (aCons (eTup (aCons (eC (.str "a")) (aNil))) (aCons (eC (.int 5)) (aCons (eC (.int 1)) (aCons (eC (.int 2)) (aCons (eTup (aCons (eC (.int 1)) (aCons (eC (.int 98)) (aCons (eC (.int 98)) (aCons (eC (.bl false)) (aNil)))))) (aCons (eVar 2) (aCons (e2 dIdx (eVar 2) (eC (.int 0))) (aCons (eC (.bl true)) (aNil))))))))))) (gN 8))
  (sSeq (sAsg (e2 dAdd (eC (.int 5)) (e2 dMod (eCall dInt (aCons (e2 dIdx (eVar 1) (eC (.int 7))) (aNil))) (eC (.int 2)))) (gN 9))
  (sSeq (sAsg (e2 dAdd (eC (.int 2)) (e2 dMod (eCall dInt (aCons (e2 dIdx (eVar 1) (eC (.int 8))) (aNil))) (eC (.int 2)))) (gN 10))
  (sSeq (sAsg (e2 dEq (e2 dMod (e2 dIdx (eVar 1) (eC (.int 9))) (eC (.int 3))) (eC (.int 0))) (gN 11))
  (sSeq (sAsg (eLc lcEnd (iE (eVar 2)) (gN 16) (bT (e2 dEq (e2 dIdx (eVar 16) (eC (.int 1))) (eVar 5))) (eVar 16) [16]) (gN 12))
  (sSeq (sAsg (eAnd (e2 dEq (eVar 9) (eC (.int 5))) (eOr (eNot (e1 (dFld ["Rule", "Placed"] "cuts") (eVar 6))) (e2 dEq (eVar 10) (eC (.int 2))))) (gN 13))
  (sSeq (sAsg (eVar 3) (gN 14))
  (sSeq (sIf (bOr (bT (eVar 13)) (bOr (bT (eVar 11)) (bOr (bT (e2 dEq (eVar 3) (eVar 2))) (bT (e2 dGt (eCall dLen (aCons (eVar 12) (aNil))) (eC (.int 0))))))) (sAsg (eVar 2) (gN 14)) (sNil))
  (sRet (e2 dEq (eCall (callH 6 d_replaced_by) (aCons (eVar 7) (aCons (eVar 4) (aCons (eVar 11) (aCons (eVar 8) (aCons (eVar 9) (aCons (eVar 10) (aNil)))))))) (eVar 14))))))))))))))))))
/-- law(0 _law_script, 1 _law_cells_here, 2 _law_ids, 3 _law_other, 4 _law_had, 5 _law_device, 6 _law_rule, 7 _law_state, 8 _law_was, 9 _law_thing, 10 _law_cuts, 11 _law_read, 12 _law_own, 13 _law_same, 14 _law_expected, 15 _law_k, 16 _law_edit_id) -/
noncomputable def d_law : FD := fnD 17 b_law
end FK

/-! part: M_k27 -/
set_option linter.all false
set_option maxRecDepth 100000
set_option maxHeartbeats 4000000
namespace FK
open PySem PySem.Spec L2
theorem fld_at {cs : List Str} {f : Str} {eo ev : ED} {ρ : Env} {h h1 h' : CH} {n : Nat} {c : Str} {ns : List Str} {xs : List D} {d : D} (e1 : ev ρ h = .ok d h1) (e2 : eo ρ h1 = .ok (.ref n) h1) (e : h1[n]? = some (.ins c ns xs)) (hc : c ∈ cs) (hn : ns.length < 1000) (hp : h1.set n (.ins c (putNs f ns) (putXs f d ns xs)) = h') : sFldS cs f eo ev ρ h = .ok .nx ρ h' := by
  subst hp
  unfold sFldS sE
  rw [e1]
  dsimp only
  rw [e2]
  dsimp only
  rw [e]
  dsimp only
  rw [if_pos ⟨hc, hn⟩]
abbrev rlNs : List Str := ["alike", "unfit", "longest", "swaps", "reads", "cuts", "turns"]
abbrev rlX (b : Bool) : List D := [.tup [], .tup [], .int 80, .bl true, .bl true, .bl b, .bl true]
abbrev ksNs : List Str := ["me", "devices", "rule", "ignores", "know", "heard", "placed", "had", "taken", "shelf", "next_place", "pending", "late", "requests", "pieces", "away", "holding", "asking", "fetching", "drops", "next_number", "stage", "scan"]
abbrev ksX (me : Int) (kn : D) : List D := [.int me, .lst [.int 0, .int 1, .int 2, .int 3], .ref 1, .tup [], kn, .lst [], .lst [], .lst [], .lst [], .lst [], .int 0, .non, .lst [], .lst [], .lst [], .lst [], .lst [], .lst [], .lst [], .lst [], .int 0, .tup [.str "idle"], .non]
abbrev knNs : List Str := ["clock", "base", "upto", "rest", "knows"]
abbrev knX : List D := [.int 0, .lst [], .int 0, .lst [], .lst [.tup [.int 0, .int 0], .tup [.int 1, .int 0], .tup [.int 2, .int 0], .tup [.int 3, .int 0]]]
theorem rule_mk' (a : Cell) (b : Bool) : d_Rule_init [.ref 1, .tup [], .tup [], .int 80, .bl true, .bl true, .bl b, .bl true] [a, .ins "Rule" [] []] = .ok .non [a, .ins "Rule" rlNs (rlX b)] := by
  refine fnD_nx (ρ := [some (.ref 1), some (.tup []), some (.tup []), some (.int 80), some (.bl true), some (.bl true), some (.bl b), some (.bl true)]) (ρ' := [some (.ref 1), some (.tup []), some (.tup []), some (.int 80), some (.bl true), some (.bl true), some (.bl b), some (.bl true)]) ?_
  unfold b_Rule_init
  refine seq_eq (fld_at (h' := [a, .ins "Rule" (rlNs.take 1) ((rlX b).take 1)]) rfl rfl rfl (by decide) (by decide) rfl) ?_
  refine seq_eq (fld_at (h' := [a, .ins "Rule" (rlNs.take 2) ((rlX b).take 2)]) rfl rfl rfl (by decide) (by decide) rfl) ?_
  refine seq_eq (fld_at (h' := [a, .ins "Rule" (rlNs.take 3) ((rlX b).take 3)]) rfl rfl rfl (by decide) (by decide) rfl) ?_
  refine seq_eq (fld_at (h' := [a, .ins "Rule" (rlNs.take 4) ((rlX b).take 4)]) rfl rfl rfl (by decide) (by decide) rfl) ?_
  refine seq_eq (fld_at (h' := [a, .ins "Rule" (rlNs.take 5) ((rlX b).take 5)]) rfl rfl rfl (by decide) (by decide) rfl) ?_
  refine seq_eq (fld_at (h' := [a, .ins "Rule" (rlNs.take 6) ((rlX b).take 6)]) rfl rfl rfl (by decide) (by decide) rfl) ?_
  exact fld_at rfl rfl rfl (by decide) (by decide) rfl
theorem kn_mk (a b c : Cell) : d_Knowledge_init [.ref 3, .lst [.int 0, .int 1, .int 2, .int 3], .int 0, .tup [], .int 0, .tup [], .non] [a, b, c, .ins "Knowledge" [] []] = .ok .non [a, b, c, .ins "Knowledge" knNs knX] := by
  refine fnD_nx (ρ := [some (.ref 3), some (.lst [.int 0, .int 1, .int 2, .int 3]), some (.int 0), some (.tup []), some (.int 0), some (.tup []), some .non, none]) (ρ' := [some (.ref 3), some (.lst [.int 0, .int 1, .int 2, .int 3]), some (.int 0), some (.tup []), some (.int 0), some (.tup []), some .non, none]) ?_
  unfold b_Knowledge_init
  refine seq_eq (fld_at (h' := [a, b, c, .ins "Knowledge" (knNs.take 1) (knX.take 1)]) rfl rfl rfl (by decide) (by decide) rfl) ?_
  refine seq_eq (fld_at (h' := [a, b, c, .ins "Knowledge" (knNs.take 2) (knX.take 2)]) (d := .lst []) rfl rfl rfl (by decide) (by decide) rfl) ?_
  refine seq_eq (fld_at (h' := [a, b, c, .ins "Knowledge" (knNs.take 3) (knX.take 3)]) rfl rfl rfl (by decide) (by decide) rfl) ?_
  refine seq_eq (fld_at (h' := [a, b, c, .ins "Knowledge" (knNs.take 4) (knX.take 4)]) (d := .lst []) rfl rfl rfl (by decide) (by decide) rfl) ?_
  have e := eLc_fm (en := D.int) (fun _ => true) (fun d => .tup [.int d, .int 0]) (it := iE (eVar 1)) (g := gN 7) (b := bYes) (f := (eTup (aCons (eVar 7) (aCons (eC (.int 0)) (aNil))))) (vs := [7]) (ρ := [some (.ref 3), some (.lst [.int 0, .int 1, .int 2, .int 3]), some (.int 0), some (.tup []), some (.int 0), some (.tup []), some .non, none]) (h := [a, b, c, .ins "Knowledge" (knNs.take 4) (knX.take 4)]) (o := none) (xs := [0, 1, 2, 3]) rfl trivial (by decide) (fun d hd => ⟨_, wipe_gN, rfl, fun _ => by (simp only [sSeq, sIf, sB, sE, sAsg, sRet, sRetN, sNil, sExpr, sBrk, sCnt, gN, gT, gsC, gsN, FK.e1, FK.e2, eC, eVar, eCall, aNil, aCons, M.bind, M.pure, eTup, eLst, eNew, eSl, oNone, oSome, bT, bNot, bAnd, bOr, eAnd, eOr, eNot, eIf, eCh, truth, eMs, eMl, dSub, dMul, dFdiv, dMod, dLe, dLt, dGe, dGt, D.isNon, dSl, dLen, dInt, dOrd_one, dMax2, dMin2, dTuple, dList, dListC, dApp, dNeg, vw, seq, lstOf, fnD, List.map_cons, List.map_nil, List.length_cons, List.length_nil, List.cons_append, List.nil_append, List.append_nil, List.replicate_succ, List.replicate_zero, List.getElem?_cons_zero, List.getElem?_cons_succ, List.set_cons_zero, List.set_cons_succ, Int.cast_ofNat_Int, Nat.reduceBEq, Int.reduceBEq, Nat.reduceAdd, Nat.reduceSub, Nat.reduceLT, Nat.reduceLeDiff, Nat.zero_add, Nat.add_zero, Nat.sub_zero, Nat.sub_self, ↓reduceIte, if_true, if_false, Bool.not_true, Bool.not_false, Bool.false_eq_true, Bool.true_eq_false, decide_true, decide_false, decide_not, true_and, and_true, and_self, true_or, or_true, not_true_eq_false, not_false_eq_true, ne_eq, reduceCtorEq, Int.reduceLT, Int.reduceLE, Int.reduceNeg, Int.reduceSub, Int.reduceAdd, Int.reduceMul, Int.reducePow, Int.reduceToNat, sz, D.dat, D.datL, D.dep, D.depL, szl, inb, List.any_cons, List.any_nil, Bool.true_and, Bool.false_and, Bool.and_true, Bool.and_false, Bool.or_false, Bool.false_or, Bool.true_or, Bool.or_true, Nat.max_self, Nat.max_zero, Nat.zero_max, Nat.min_self, Nat.zero_le, Nat.min_zero, Nat.zero_min, iR1, iR2, rng1, rng2, iE, itOf, sFor, bYes, Option.isNone_some, Option.isSome_some, Option.isNone_none, Option.isSome_none, Option.some.injEq, dEq_int, dNe_int, dEq_II, dEq_OO, dEq_OI, dEq_IO, dEq_PP, dNe_PP, dIs_O, dIsnt_O, dIs_I, dIsnt_I, dIs_non, dIsnt_non, dIn_IT, dIn_IL, dIdx_tup, dIdx_lst, dIdx_scr, dAdd_int, atI0, atI1, atI2, atI3, atI4, atI5, vw_last, get_last, set_last, app_last] <;> rfl)⟩)
  rw [List.filter_eq_self.mpr (by simp)] at e
  refine seq_eq (fld_at (h' := [a, b, c, .ins "Knowledge" knNs knX]) e rfl rfl (by decide) (by decide) rfl) ?_
  rfl
def ksD (me : Int) : List D := [.ref 2, .int me, .lst [.int 0, .int 1, .int 2, .int 3], .ref 1, .tup [], .non, .tup [], .tup [], .tup [], .tup [], .tup [], .int 0, .non, .tup [], .tup [], .tup [], .tup [], .tup [], .tup [], .tup [], .tup [], .int 0, .tup [.str "idle"]]
theorem ks_mk (a b : Cell) (me : Int) : d_KeeperState_init (ksD me) [a, b, .ins "KeeperState" [] []] = .ok .non [a, b, .ins "KeeperState" ksNs (ksX me (.ref 3)), .ins "Knowledge" knNs knX] := by
  refine fnD_nx (ρ := (ksD me).map some) (ρ' := (ksD me).map some) ?_
  unfold b_KeeperState_init
  refine seq_eq (fld_at (h' := [a, b, .ins "KeeperState" (ksNs.take 1) ((ksX me .non).take 1)]) rfl rfl rfl (by decide) (by decide) rfl) ?_
  refine seq_eq (fld_at (h' := [a, b, .ins "KeeperState" (ksNs.take 2) ((ksX me .non).take 2)]) (d := .lst [.int 0, .int 1, .int 2, .int 3]) rfl rfl rfl (by decide) (by decide) rfl) ?_
  refine seq_eq (fld_at (h' := [a, b, .ins "KeeperState" (ksNs.take 3) ((ksX me .non).take 3)]) rfl rfl rfl (by decide) (by decide) rfl) ?_
  refine seq_eq (fld_at (h' := [a, b, .ins "KeeperState" (ksNs.take 4) ((ksX me .non).take 4)]) (d := .tup []) rfl rfl rfl (by decide) (by decide) rfl) ?_
  refine seq_eq (fld_at (h' := [a, b, .ins "KeeperState" (ksNs.take 5) ((ksX me .non).take 5)]) rfl rfl rfl (by decide) (by decide) rfl) ?_
  have km := kn_mk a b (.ins "KeeperState" (ksNs.take 5) ((ksX me .non).take 5))
  have kn : mkO "Knowledge" (arrG [0, 1, 2, 3, 4, 5, 6] 1 [.int 0, .tup [], .int 0, .tup [], .non]) d_Knowledge_init [.lst [.int 0, .int 1, .int 2, .int 3]] [a, b, .ins "KeeperState" (ksNs.take 5) ((ksX me .non).take 5)] = .ok (.ref 3) [a, b, .ins "KeeperState" (ksNs.take 5) ((ksX me .non).take 5), .ins "Knowledge" knNs knX] := by
    unfold mkO
    show (match d_Knowledge_init [.ref 3, .lst [.int 0, .int 1, .int 2, .int 3], .int 0, .tup [], .int 0, .tup [], .non] [a, b, .ins "KeeperState" (ksNs.take 5) ((ksX me .non).take 5), .ins "Knowledge" [] []] with | .ok .non h' => R.ok (D.ref 3) h' | _ => .bad) = _
    rw [km]
  have st6 : sIf (bT (FK.e2 dIs (eVar 5) (eC .non))) (sFldS ["KeeperState"] "know" (eVar 0) (eCall (mkO "Knowledge" (arrG [0, 1, 2, 3, 4, 5, 6] 1 [.int 0, .tup [], .int 0, .tup [], .non]) d_Knowledge_init) (aApp (aCons (eVar 2) (aNil)) (aNil)))) (sNil) ((ksD me).map some) [a, b, .ins "KeeperState" (ksNs.take 5) ((ksX me .non).take 5)] = .ok .nx ((ksD me).map some) [a, b, .ins "KeeperState" (ksNs.take 5) ((ksX me (.ref 3)).take 5), .ins "Knowledge" knNs knX] := by
    show sFldS ["KeeperState"] "know" (eVar 0) (eCall (mkO "Knowledge" (arrG [0, 1, 2, 3, 4, 5, 6] 1 [.int 0, .tup [], .int 0, .tup [], .non]) d_Knowledge_init) (aApp (aCons (eVar 2) (aNil)) (aNil))) ((ksD me).map some) [a, b, .ins "KeeperState" (ksNs.take 5) ((ksX me .non).take 5)] = _
    refine fld_at (h1 := [a, b, .ins "KeeperState" (ksNs.take 5) ((ksX me .non).take 5), .ins "Knowledge" knNs knX]) (d := .ref 3) ?_ rfl rfl (by decide) (by decide) rfl
    show mkO "Knowledge" (arrG [0, 1, 2, 3, 4, 5, 6] 1 [.int 0, .tup [], .int 0, .tup [], .non]) d_Knowledge_init [.lst [.int 0, .int 1, .int 2, .int 3]] [a, b, .ins "KeeperState" (ksNs.take 5) ((ksX me .non).take 5)] = _
    exact kn
  refine seq_eq st6 ?_
  refine seq_eq (fld_at (h' := [a, b, .ins "KeeperState" (ksNs.take 6) ((ksX me (.ref 3)).take 6), .ins "Knowledge" knNs knX]) (d := .lst []) rfl rfl rfl (by decide) (by decide) rfl) ?_
  refine seq_eq (fld_at (h' := [a, b, .ins "KeeperState" (ksNs.take 7) ((ksX me (.ref 3)).take 7), .ins "Knowledge" knNs knX]) (d := .lst []) rfl rfl rfl (by decide) (by decide) rfl) ?_
  refine seq_eq (fld_at (h' := [a, b, .ins "KeeperState" (ksNs.take 8) ((ksX me (.ref 3)).take 8), .ins "Knowledge" knNs knX]) (d := .lst []) rfl rfl rfl (by decide) (by decide) rfl) ?_
  refine seq_eq (fld_at (h' := [a, b, .ins "KeeperState" (ksNs.take 9) ((ksX me (.ref 3)).take 9), .ins "Knowledge" knNs knX]) (d := .lst []) rfl rfl rfl (by decide) (by decide) rfl) ?_
  refine seq_eq (fld_at (h' := [a, b, .ins "KeeperState" (ksNs.take 10) ((ksX me (.ref 3)).take 10), .ins "Knowledge" knNs knX]) (d := .lst []) rfl rfl rfl (by decide) (by decide) rfl) ?_
  refine seq_eq (fld_at (h' := [a, b, .ins "KeeperState" (ksNs.take 11) ((ksX me (.ref 3)).take 11), .ins "Knowledge" knNs knX]) rfl rfl rfl (by decide) (by decide) rfl) ?_
  refine seq_eq (fld_at (h' := [a, b, .ins "KeeperState" (ksNs.take 12) ((ksX me (.ref 3)).take 12), .ins "Knowledge" knNs knX]) rfl rfl rfl (by decide) (by decide) rfl) ?_
  refine seq_eq (fld_at (h' := [a, b, .ins "KeeperState" (ksNs.take 13) ((ksX me (.ref 3)).take 13), .ins "Knowledge" knNs knX]) (d := .lst []) rfl rfl rfl (by decide) (by decide) rfl) ?_
  refine seq_eq (fld_at (h' := [a, b, .ins "KeeperState" (ksNs.take 14) ((ksX me (.ref 3)).take 14), .ins "Knowledge" knNs knX]) (d := .lst []) rfl rfl rfl (by decide) (by decide) rfl) ?_
  refine seq_eq (fld_at (h' := [a, b, .ins "KeeperState" (ksNs.take 15) ((ksX me (.ref 3)).take 15), .ins "Knowledge" knNs knX]) (d := .lst []) rfl rfl rfl (by decide) (by decide) rfl) ?_
  refine seq_eq (fld_at (h' := [a, b, .ins "KeeperState" (ksNs.take 16) ((ksX me (.ref 3)).take 16), .ins "Knowledge" knNs knX]) (d := .lst []) rfl rfl rfl (by decide) (by decide) rfl) ?_
  refine seq_eq (fld_at (h' := [a, b, .ins "KeeperState" (ksNs.take 17) ((ksX me (.ref 3)).take 17), .ins "Knowledge" knNs knX]) (d := .lst []) rfl rfl rfl (by decide) (by decide) rfl) ?_
  refine seq_eq (fld_at (h' := [a, b, .ins "KeeperState" (ksNs.take 18) ((ksX me (.ref 3)).take 18), .ins "Knowledge" knNs knX]) (d := .lst []) rfl rfl rfl (by decide) (by decide) rfl) ?_
  refine seq_eq (fld_at (h' := [a, b, .ins "KeeperState" (ksNs.take 19) ((ksX me (.ref 3)).take 19), .ins "Knowledge" knNs knX]) (d := .lst []) rfl rfl rfl (by decide) (by decide) rfl) ?_
  refine seq_eq (fld_at (h' := [a, b, .ins "KeeperState" (ksNs.take 20) ((ksX me (.ref 3)).take 20), .ins "Knowledge" knNs knX]) (d := .lst []) rfl rfl rfl (by decide) (by decide) rfl) ?_
  refine seq_eq (fld_at (h' := [a, b, .ins "KeeperState" (ksNs.take 21) ((ksX me (.ref 3)).take 21), .ins "Knowledge" knNs knX]) rfl rfl rfl (by decide) (by decide) rfl) ?_
  refine seq_eq (fld_at (h' := [a, b, .ins "KeeperState" (ksNs.take 22) ((ksX me (.ref 3)).take 22), .ins "Knowledge" knNs knX]) rfl rfl rfl (by decide) (by decide) rfl) ?_
  exact fld_at rfl rfl rfl (by decide) (by decide) rfl
abbrev plNs : List Str := ["path", "names", "thing", "count", "cuts", "content", "ids", "line", "seen"]
theorem placed_mk (h : CH) (a b c d e f g i j : D) : d_Placed_init [.ref h.length, a, b, c, d, e, f, g, i, j] (h ++ [.ins "Placed" [] []]) = .ok .non (h ++ [.ins "Placed" plNs [a, b, c, d, e, f, g, i, j]]) := by
  refine fnD_nx (ρ := [some (.ref h.length), some a, some b, some c, some d, some e, some f, some g, some i, some j]) (ρ' := [some (.ref h.length), some a, some b, some c, some d, some e, some f, some g, some i, some j]) ?_
  unfold b_Placed_init
  refine seq_eq (fld_step rfl rfl (by decide) (by decide) rfl) ?_
  refine seq_eq (fld_step rfl rfl (by decide) (by decide) rfl) ?_
  refine seq_eq (fld_step rfl rfl (by decide) (by decide) rfl) ?_
  refine seq_eq (fld_step rfl rfl (by decide) (by decide) rfl) ?_
  refine seq_eq (fld_step rfl rfl (by decide) (by decide) rfl) ?_
  refine seq_eq (fld_step rfl rfl (by decide) (by decide) rfl) ?_
  refine seq_eq (fld_step rfl rfl (by decide) (by decide) rfl) ?_
  refine seq_eq (fld_step rfl rfl (by decide) (by decide) rfl) ?_
  exact fld_step rfl rfl (by decide) (by decide) (by rfl)
theorem placed_new (h : CH) (a b c d e f g i j : D) : mkO "Placed" (fun s ds => s :: (ds ++ [])) d_Placed_init [a, b, c, d, e, f, g, i, j] h = .ok (.ref h.length) (h ++ [.ins "Placed" plNs [a, b, c, d, e, f, g, i, j]]) := by
  unfold mkO
  show (match d_Placed_init [.ref h.length, a, b, c, d, e, f, g, i, j] (h ++ [.ins "Placed" [] []]) with | .ok .non h' => R.ok (D.ref h.length) h' | _ => .bad) = _
  rw [placed_mk]
theorem eqb_TT (is js : List Id) : D.eqb (encT is) (encT js) = decide (is = js) := by
  show PyData.eqvAll (D.pyL (is.map encI)) (D.pyL (js.map encI)) = _
  induction is generalizing js with
  | nil => cases js with
    | nil => rfl
    | cons y q => rfl
  | cons x p ih => cases js with
    | nil => rfl
    | cons y q =>
      show (PyData.eqv (encI x).py (encI y).py && PyData.eqvAll (D.pyL (p.map encI)) (D.pyL (q.map encI))) = _
      rw [ih q, show PyData.eqv (encI x).py (encI y).py = D.eqb (encI x) (encI y) from rfl, eqb_II]
      by_cases h : x = y <;> by_cases h2 : p = q <;> simp [h, h2]
theorem dEq_TT (is js : List Id) (h : CH) : dEq (encT is) (encT js) h = .ok (.bl (decide (is = js))) h := by
  unfold dEq
  rw [show vw h (encT is) = encT is from rfl, show vw h (encT js) = encT js from rfl, if_pos ⟨dat_T is, dat_T js, by show min (D.depL (is.map encI) + 1) _ ≤ 60; have := depL_I is; omega⟩, eqb_TT]
theorem len_T (p : List Id) (h : CH) : dLen [encT p] h = .ok (.int p.length) h := by
  show R.ok (D.int ((p.map encI).length : Nat)) h = _
  rw [List.length_map]
abbrev Hd := List Str × List Id
def encHd (e : Hd) : D := .tup [encP e.1, encT e.2]
theorem flat_Hd (e : Hd) : D.flat (encHd e) = true := by
  show (D.flat (encP e.1) && (D.flat (encT e.2) && true)) = true
  rw [flat_P, flat_T]; rfl
theorem nrL_Hd : ∀ hs : List Hd, D.nrL (hs.map encHd) = true
  | [] => rfl
  | e :: hs => by
    show (D.nr (encHd e) && D.nrL (hs.map encHd)) = true
    rw [D.nr_flat _ (flat_Hd e), nrL_Hd]; rfl
def hadAt (hs : List Hd) (p : List Str) : List Id := match hs.find? fun e => decide (e.1 = p) with
  | some e => e.2
  | none => []
theorem had_at_ok (hs : List Hd) (p : List Str) {h : CH} {d : D} (hl : lstOf h d = some (hs.map encHd)) : callP 2 d_had_at [d, encP p] h = .ok (encT (hadAt hs p)) h := by
  refine callP_lf hl (nrL_Hd hs) (h' := []) (by show (D.nr (encP p) && true) = true; rw [nr_P]; rfl) (Good.fnE (ρ := [some (.lst (hs.map encHd)), some (encP p), none, none]) ?_) (flat_T _)
  unfold b_had_at hadAt
  refine Good.seq (Good.cut (N' := fun ρ' h' => (hs.find? fun e => decide (e.1 = p)) = none ∧ h' = []) (Good.pre (en := encHd) (xs := hs) (I := fun pre ρ h' => (∃ y z, ρ = [some (.lst (hs.map encHd)), some (encP p), y, z]) ∧ h' = [] ∧ (pre.find? fun e => decide (e.1 = p)) = none) (h := []) (o := none) rfl ⟨⟨none, none, rfl⟩, rfl, rfl⟩ (fun _ _ _ _ => trivial) ?_ (fun ρ' h' ⟨_, a, b⟩ => ⟨b, a⟩)) ?_)
  · rintro pre e post hx ρ h' ⟨⟨y, z, rfl⟩, rfl, hp⟩
    refine ⟨[some (.lst (hs.map encHd)), some (encP p), some (encP e.1), some (encT e.2)], rfl, ?_⟩
    refine Good.ite (decide (e.1 = p)) (by simp only [sSeq, sIf, sB, sE, sAsg, sRet, sRetN, sNil, sExpr, sBrk, sCnt, gN, gT, gsC, gsN, FK.e1, FK.e2, eC, eVar, eCall, aNil, aCons, M.bind, M.pure, eTup, eLst, eNew, eSl, oNone, oSome, bT, bNot, bAnd, bOr, eAnd, eOr, eNot, eIf, eCh, truth, eMs, eMl, dSub, dMul, dFdiv, dMod, dLe, dLt, dGe, dGt, D.isNon, dSl, dLen, dInt, dOrd_one, dMax2, dMin2, dTuple, dList, dListC, dApp, dNeg, vw, seq, lstOf, fnD, List.map_cons, List.map_nil, List.length_cons, List.length_nil, List.cons_append, List.nil_append, List.append_nil, List.replicate_succ, List.replicate_zero, List.getElem?_cons_zero, List.getElem?_cons_succ, List.set_cons_zero, List.set_cons_succ, Int.cast_ofNat_Int, Nat.reduceBEq, Int.reduceBEq, Nat.reduceAdd, Nat.reduceSub, Nat.reduceLT, Nat.reduceLeDiff, Nat.zero_add, Nat.add_zero, Nat.sub_zero, Nat.sub_self, ↓reduceIte, if_true, if_false, Bool.not_true, Bool.not_false, Bool.false_eq_true, Bool.true_eq_false, decide_true, decide_false, decide_not, true_and, and_true, and_self, true_or, or_true, not_true_eq_false, not_false_eq_true, ne_eq, reduceCtorEq, Int.reduceLT, Int.reduceLE, Int.reduceNeg, Int.reduceSub, Int.reduceAdd, Int.reduceMul, Int.reducePow, Int.reduceToNat, sz, D.dat, D.datL, D.dep, D.depL, szl, inb, List.any_cons, List.any_nil, Bool.true_and, Bool.false_and, Bool.and_true, Bool.and_false, Bool.or_false, Bool.false_or, Bool.true_or, Bool.or_true, Nat.max_self, Nat.max_zero, Nat.zero_max, Nat.min_self, Nat.zero_le, Nat.min_zero, Nat.zero_min, iR1, iR2, rng1, rng2, iE, itOf, sFor, bYes, Option.isNone_some, Option.isSome_some, Option.isNone_none, Option.isSome_none, Option.some.injEq, dEq_int, dNe_int, dEq_II, dEq_OO, dEq_OI, dEq_IO, dEq_PP, dNe_PP, dIs_O, dIsnt_O, dIs_I, dIsnt_I, dIs_non, dIsnt_non, dIn_IT, dIn_IL, dIdx_tup, dIdx_lst, dIdx_scr, dAdd_int, atI0, atI1, atI2, atI3, atI4, atI5, vw_last, get_last, set_last, app_last]) (fun q => ?_) (fun q => Good.nx rfl ⟨⟨_, _, rfl⟩, rfl, by rw [List.find?_append, hp]; simp [q]⟩)
    refine Good.rt rfl ⟨?_, rfl⟩
    rw [hx, List.find?_append, hp, List.find?_cons, q]
    rfl
  · rintro ρ' h' ⟨e, rfl⟩
    rw [e]
    exact Good.rt rfl ⟨rfl, rfl⟩
theorem sAsg_eq {f : ED} {g : GD} {ρ ρ' : Env} {h h1 : CH} {d : D} (e : f ρ h = .ok d h1) (eg : g d ρ = some ρ' := by rfl) : sAsg f g ρ h = .ok .nx ρ' h1 := by
  unfold sAsg sE
  rw [e]
  dsimp only
  rw [eg]
theorem eCall_eq {op : List D → M D} {fs : AD} {ρ : Env} {h h1 : CH} {ds : List D} (e : fs ρ h = .ok ds h1) : eCall op fs ρ h = op ds h1 := by
  unfold eCall M.bind
  rw [e]
theorem eCall1_eq {op : List D → M D} {a : ED} {ρ : Env} {h h1 : CH} {d : D} (e : a ρ h = .ok d h1) : eCall op (aCons a aNil) ρ h = op [d] h1 := by
  have : aCons a aNil ρ h = .ok [d] h1 := by
    unfold aCons M.bind
    rw [e]
    rfl
  unfold eCall M.bind
  rw [this]
def wasX (ids : List Id) : List D := [encP ["a"], encP ["a"], .int 5, .int 1, .int 2, .tup [.int 1, .int 98, .int 98, .bl false], encT ids, encO ids[0]?, .bl true]
def hhS (hs : List Hd) (b : Bool) (me : Int) (ids : List Id) : CH := [.lst (hs.map encHd), .ins "Rule" rlNs (rlX b), .ins "KeeperState" ksNs (ksX me (.ref 3)), .ins "Knowledge" knNs knX, .ins "Placed" plNs (wasX ids)]
theorem memA {c d : Str} : c ∈ [c, d] := List.mem_cons_self
theorem memB {c d : Str} : d ∈ [c, d] := List.mem_cons_of_mem _ List.mem_cons_self
theorem memC {c : Str} : c ∈ [c] := List.mem_cons_self
def sameB (t u : Int) (b : Bool) : Bool := decide (t = 5) && (!b || decide (u = 2))
theorem fld_get {cs : List Str} {f c : Str} {n : Nat} {h : CH} {ns : List Str} {xs : List D} {d : D} (e : h[n]? = some (.ins c ns xs)) (hc : c ∈ cs) (l : lookD f ns xs = some d) : dFld cs f (.ref n) h = .ok d h := by
  unfold dFld
  dsimp only
  rw [e]
  dsimp only
  rw [if_pos hc, l]
theorem rp_fn (hs : List Hd) (b rd : Bool) (me t u : Int) (ids : List Id) : d_replaced_by [.ref 2, .ref 0, .bl rd, .ref 4, .int t, .int u] (hhS hs b me ids) = .ok (encT (if sameB t u b = true ∨ rd = true ∨ hadAt hs ["a"] = ids ∨ ids.any (fun i => decide (i.2 = me)) = true then ids else hadAt hs ["a"])) (hhS hs b me ids) := by
  have f1 : dFld ["Placed"] "thing" (.ref 4) (hhS hs b me ids) = .ok (.int 5) (hhS hs b me ids) := fld_get rfl memC rfl
  have f2 : dFld ["Placed"] "ids" (.ref 4) (hhS hs b me ids) = .ok (encT ids) (hhS hs b me ids) := fld_get rfl memC rfl
  have f3 : dFld ["Placed"] "path" (.ref 4) (hhS hs b me ids) = .ok (encP ["a"]) (hhS hs b me ids) := fld_get rfl memC rfl
  have f4 : dFld ["Rule", "Placed"] "cuts" (.ref 4) (hhS hs b me ids) = .ok (.int 2) (hhS hs b me ids) := fld_get rfl memB rfl
  have f5 : dFld ["Rule", "Placed"] "cuts" (.ref 1) (hhS hs b me ids) = .ok (.bl b) (hhS hs b me ids) := fld_get rfl memA rfl
  have f6 : dFld ["KeeperState"] "rule" (.ref 2) (hhS hs b me ids) = .ok (.ref 1) (hhS hs b me ids) := fld_get rfl memC rfl
  have f7 : dFld ["KeeperState"] "me" (.ref 2) (hhS hs b me ids) = .ok (.int me) (hhS hs b me ids) := fld_get rfl memC rfl
  have ha := had_at_ok hs ["a"] (h := hhS hs b me ids) (d := .ref 0) rfl
  generalize hHH : hhS hs b me ids = HH at *
  refine Good.fnE (ρ := [some (.ref 2), some (.ref 0), some (.bl rd), some (.ref 4), some (.int t), some (.int u), none]) ?_
  unfold b_replaced_by
  refine Good.seq (Good.ite (sameB t u b) (h1 := HH) ?_ (fun q => Good.rt (by (simp only [sSeq, sIf, sB, sE, sAsg, sRet, sRetN, sNil, sExpr, sBrk, sCnt, gN, gT, gsC, gsN, FK.e1, FK.e2, eC, eVar, eCall, aNil, aCons, M.bind, M.pure, eTup, eLst, eNew, eSl, oNone, oSome, bT, bNot, bAnd, bOr, eAnd, eOr, eNot, eIf, eCh, truth, eMs, eMl, dSub, dMul, dFdiv, dMod, dLe, dLt, dGe, dGt, D.isNon, dSl, dLen, dInt, dOrd_one, dMax2, dMin2, dTuple, dList, dListC, dApp, dNeg, vw, seq, lstOf, fnD, List.map_cons, List.map_nil, List.length_cons, List.length_nil, List.cons_append, List.nil_append, List.append_nil, List.replicate_succ, List.replicate_zero, List.getElem?_cons_zero, List.getElem?_cons_succ, List.set_cons_zero, List.set_cons_succ, Int.cast_ofNat_Int, Nat.reduceBEq, Int.reduceBEq, Nat.reduceAdd, Nat.reduceSub, Nat.reduceLT, Nat.reduceLeDiff, Nat.zero_add, Nat.add_zero, Nat.sub_zero, Nat.sub_self, ↓reduceIte, if_true, if_false, Bool.not_true, Bool.not_false, Bool.false_eq_true, Bool.true_eq_false, decide_true, decide_false, decide_not, true_and, and_true, and_self, true_or, or_true, not_true_eq_false, not_false_eq_true, ne_eq, reduceCtorEq, Int.reduceLT, Int.reduceLE, Int.reduceNeg, Int.reduceSub, Int.reduceAdd, Int.reduceMul, Int.reducePow, Int.reduceToNat, sz, D.dat, D.datL, D.dep, D.depL, szl, inb, List.any_cons, List.any_nil, Bool.true_and, Bool.false_and, Bool.and_true, Bool.and_false, Bool.or_false, Bool.false_or, Bool.true_or, Bool.or_true, Nat.max_self, Nat.max_zero, Nat.zero_max, Nat.min_self, Nat.zero_le, Nat.min_zero, Nat.zero_min, iR1, iR2, rng1, rng2, iE, itOf, sFor, bYes, Option.isNone_some, Option.isSome_some, Option.isNone_none, Option.isSome_none, Option.some.injEq, dEq_int, dNe_int, dEq_II, dEq_OO, dEq_OI, dEq_IO, dEq_PP, dNe_PP, dIs_O, dIsnt_O, dIs_I, dIsnt_I, dIs_non, dIsnt_non, dIn_IT, dIn_IL, dIdx_tup, dIdx_lst, dIdx_scr, dAdd_int, atI0, atI1, atI2, atI3, atI4, atI5, vw_last, get_last, set_last, app_last, f2] <;> rfl)) ⟨by rw [if_pos (.inl q)], rfl⟩) (fun q => Good.nx rfl ?_))
  · unfold sameB
    by_cases ht : t = 5
    · cases b with
      | true => simp only [sSeq, sIf, sB, sE, sAsg, sRet, sRetN, sNil, sExpr, sBrk, sCnt, gN, gT, gsC, gsN, FK.e1, FK.e2, eC, eVar, eCall, aNil, aCons, M.bind, M.pure, eTup, eLst, eNew, eSl, oNone, oSome, bT, bNot, bAnd, bOr, eAnd, eOr, eNot, eIf, eCh, truth, eMs, eMl, dSub, dMul, dFdiv, dMod, dLe, dLt, dGe, dGt, D.isNon, dSl, dLen, dInt, dOrd_one, dMax2, dMin2, dTuple, dList, dListC, dApp, dNeg, vw, seq, lstOf, fnD, List.map_cons, List.map_nil, List.length_cons, List.length_nil, List.cons_append, List.nil_append, List.append_nil, List.replicate_succ, List.replicate_zero, List.getElem?_cons_zero, List.getElem?_cons_succ, List.set_cons_zero, List.set_cons_succ, Int.cast_ofNat_Int, Nat.reduceBEq, Int.reduceBEq, Nat.reduceAdd, Nat.reduceSub, Nat.reduceLT, Nat.reduceLeDiff, Nat.zero_add, Nat.add_zero, Nat.sub_zero, Nat.sub_self, ↓reduceIte, if_true, if_false, Bool.not_true, Bool.not_false, Bool.false_eq_true, Bool.true_eq_false, decide_true, decide_false, decide_not, true_and, and_true, and_self, true_or, or_true, not_true_eq_false, not_false_eq_true, ne_eq, reduceCtorEq, Int.reduceLT, Int.reduceLE, Int.reduceNeg, Int.reduceSub, Int.reduceAdd, Int.reduceMul, Int.reducePow, Int.reduceToNat, sz, D.dat, D.datL, D.dep, D.depL, szl, inb, List.any_cons, List.any_nil, Bool.true_and, Bool.false_and, Bool.and_true, Bool.and_false, Bool.or_false, Bool.false_or, Bool.true_or, Bool.or_true, Nat.max_self, Nat.max_zero, Nat.zero_max, Nat.min_self, Nat.zero_le, Nat.min_zero, Nat.zero_min, iR1, iR2, rng1, rng2, iE, itOf, sFor, bYes, Option.isNone_some, Option.isSome_some, Option.isNone_none, Option.isSome_none, Option.some.injEq, dEq_int, dNe_int, dEq_II, dEq_OO, dEq_OI, dEq_IO, dEq_PP, dNe_PP, dIs_O, dIsnt_O, dIs_I, dIsnt_I, dIs_non, dIsnt_non, dIn_IT, dIn_IL, dIdx_tup, dIdx_lst, dIdx_scr, dAdd_int, atI0, atI1, atI2, atI3, atI4, atI5, vw_last, get_last, set_last, app_last, f1, f4, f5, f6, ht] <;> rfl
      | false => simp only [sSeq, sIf, sB, sE, sAsg, sRet, sRetN, sNil, sExpr, sBrk, sCnt, gN, gT, gsC, gsN, FK.e1, FK.e2, eC, eVar, eCall, aNil, aCons, M.bind, M.pure, eTup, eLst, eNew, eSl, oNone, oSome, bT, bNot, bAnd, bOr, eAnd, eOr, eNot, eIf, eCh, truth, eMs, eMl, dSub, dMul, dFdiv, dMod, dLe, dLt, dGe, dGt, D.isNon, dSl, dLen, dInt, dOrd_one, dMax2, dMin2, dTuple, dList, dListC, dApp, dNeg, vw, seq, lstOf, fnD, List.map_cons, List.map_nil, List.length_cons, List.length_nil, List.cons_append, List.nil_append, List.append_nil, List.replicate_succ, List.replicate_zero, List.getElem?_cons_zero, List.getElem?_cons_succ, List.set_cons_zero, List.set_cons_succ, Int.cast_ofNat_Int, Nat.reduceBEq, Int.reduceBEq, Nat.reduceAdd, Nat.reduceSub, Nat.reduceLT, Nat.reduceLeDiff, Nat.zero_add, Nat.add_zero, Nat.sub_zero, Nat.sub_self, ↓reduceIte, if_true, if_false, Bool.not_true, Bool.not_false, Bool.false_eq_true, Bool.true_eq_false, decide_true, decide_false, decide_not, true_and, and_true, and_self, true_or, or_true, not_true_eq_false, not_false_eq_true, ne_eq, reduceCtorEq, Int.reduceLT, Int.reduceLE, Int.reduceNeg, Int.reduceSub, Int.reduceAdd, Int.reduceMul, Int.reducePow, Int.reduceToNat, sz, D.dat, D.datL, D.dep, D.depL, szl, inb, List.any_cons, List.any_nil, Bool.true_and, Bool.false_and, Bool.and_true, Bool.and_false, Bool.or_false, Bool.false_or, Bool.true_or, Bool.or_true, Nat.max_self, Nat.max_zero, Nat.zero_max, Nat.min_self, Nat.zero_le, Nat.min_zero, Nat.zero_min, iR1, iR2, rng1, rng2, iE, itOf, sFor, bYes, Option.isNone_some, Option.isSome_some, Option.isNone_none, Option.isSome_none, Option.some.injEq, dEq_int, dNe_int, dEq_II, dEq_OO, dEq_OI, dEq_IO, dEq_PP, dNe_PP, dIs_O, dIsnt_O, dIs_I, dIsnt_I, dIs_non, dIsnt_non, dIn_IT, dIn_IL, dIdx_tup, dIdx_lst, dIdx_scr, dAdd_int, atI0, atI1, atI2, atI3, atI4, atI5, vw_last, get_last, set_last, app_last, f1, f4, f5, f6, ht] <;> rfl
    · simp only [sSeq, sIf, sB, sE, sAsg, sRet, sRetN, sNil, sExpr, sBrk, sCnt, gN, gT, gsC, gsN, FK.e1, FK.e2, eC, eVar, eCall, aNil, aCons, M.bind, M.pure, eTup, eLst, eNew, eSl, oNone, oSome, bT, bNot, bAnd, bOr, eAnd, eOr, eNot, eIf, eCh, truth, eMs, eMl, dSub, dMul, dFdiv, dMod, dLe, dLt, dGe, dGt, D.isNon, dSl, dLen, dInt, dOrd_one, dMax2, dMin2, dTuple, dList, dListC, dApp, dNeg, vw, seq, lstOf, fnD, List.map_cons, List.map_nil, List.length_cons, List.length_nil, List.cons_append, List.nil_append, List.append_nil, List.replicate_succ, List.replicate_zero, List.getElem?_cons_zero, List.getElem?_cons_succ, List.set_cons_zero, List.set_cons_succ, Int.cast_ofNat_Int, Nat.reduceBEq, Int.reduceBEq, Nat.reduceAdd, Nat.reduceSub, Nat.reduceLT, Nat.reduceLeDiff, Nat.zero_add, Nat.add_zero, Nat.sub_zero, Nat.sub_self, ↓reduceIte, if_true, if_false, Bool.not_true, Bool.not_false, Bool.false_eq_true, Bool.true_eq_false, decide_true, decide_false, decide_not, true_and, and_true, and_self, true_or, or_true, not_true_eq_false, not_false_eq_true, ne_eq, reduceCtorEq, Int.reduceLT, Int.reduceLE, Int.reduceNeg, Int.reduceSub, Int.reduceAdd, Int.reduceMul, Int.reducePow, Int.reduceToNat, sz, D.dat, D.datL, D.dep, D.depL, szl, inb, List.any_cons, List.any_nil, Bool.true_and, Bool.false_and, Bool.and_true, Bool.and_false, Bool.or_false, Bool.false_or, Bool.true_or, Bool.or_true, Nat.max_self, Nat.max_zero, Nat.zero_max, Nat.min_self, Nat.zero_le, Nat.min_zero, Nat.zero_min, iR1, iR2, rng1, rng2, iE, itOf, sFor, bYes, Option.isNone_some, Option.isSome_some, Option.isNone_none, Option.isSome_none, Option.some.injEq, dEq_int, dNe_int, dEq_II, dEq_OO, dEq_OI, dEq_IO, dEq_PP, dNe_PP, dIs_O, dIsnt_O, dIs_I, dIsnt_I, dIs_non, dIsnt_non, dIn_IT, dIn_IL, dIdx_tup, dIdx_lst, dIdx_scr, dAdd_int, atI0, atI1, atI2, atI3, atI4, atI5, vw_last, get_last, set_last, app_last, f1, ht]
  refine Good.seq (Good.ite (rd || decide (hadAt hs ["a"] = ids)) (h1 := HH) ?_ (fun q2 => Good.rt (by (simp only [sSeq, sIf, sB, sE, sAsg, sRet, sRetN, sNil, sExpr, sBrk, sCnt, gN, gT, gsC, gsN, FK.e1, FK.e2, eC, eVar, eCall, aNil, aCons, M.bind, M.pure, eTup, eLst, eNew, eSl, oNone, oSome, bT, bNot, bAnd, bOr, eAnd, eOr, eNot, eIf, eCh, truth, eMs, eMl, dSub, dMul, dFdiv, dMod, dLe, dLt, dGe, dGt, D.isNon, dSl, dLen, dInt, dOrd_one, dMax2, dMin2, dTuple, dList, dListC, dApp, dNeg, vw, seq, lstOf, fnD, List.map_cons, List.map_nil, List.length_cons, List.length_nil, List.cons_append, List.nil_append, List.append_nil, List.replicate_succ, List.replicate_zero, List.getElem?_cons_zero, List.getElem?_cons_succ, List.set_cons_zero, List.set_cons_succ, Int.cast_ofNat_Int, Nat.reduceBEq, Int.reduceBEq, Nat.reduceAdd, Nat.reduceSub, Nat.reduceLT, Nat.reduceLeDiff, Nat.zero_add, Nat.add_zero, Nat.sub_zero, Nat.sub_self, ↓reduceIte, if_true, if_false, Bool.not_true, Bool.not_false, Bool.false_eq_true, Bool.true_eq_false, decide_true, decide_false, decide_not, true_and, and_true, and_self, true_or, or_true, not_true_eq_false, not_false_eq_true, ne_eq, reduceCtorEq, Int.reduceLT, Int.reduceLE, Int.reduceNeg, Int.reduceSub, Int.reduceAdd, Int.reduceMul, Int.reducePow, Int.reduceToNat, sz, D.dat, D.datL, D.dep, D.depL, szl, inb, List.any_cons, List.any_nil, Bool.true_and, Bool.false_and, Bool.and_true, Bool.and_false, Bool.or_false, Bool.false_or, Bool.true_or, Bool.or_true, Nat.max_self, Nat.max_zero, Nat.zero_max, Nat.min_self, Nat.zero_le, Nat.min_zero, Nat.zero_min, iR1, iR2, rng1, rng2, iE, itOf, sFor, bYes, Option.isNone_some, Option.isSome_some, Option.isNone_none, Option.isSome_none, Option.some.injEq, dEq_int, dNe_int, dEq_II, dEq_OO, dEq_OI, dEq_IO, dEq_PP, dNe_PP, dIs_O, dIsnt_O, dIs_I, dIsnt_I, dIs_non, dIsnt_non, dIn_IT, dIn_IL, dIdx_tup, dIdx_lst, dIdx_scr, dAdd_int, atI0, atI1, atI2, atI3, atI4, atI5, vw_last, get_last, set_last, app_last, f2] <;> rfl)) ⟨?_, rfl⟩) (fun q2 => Good.nx rfl ?_))
  · cases rd with
    | true => simp only [sSeq, sIf, sB, sE, sAsg, sRet, sRetN, sNil, sExpr, sBrk, sCnt, gN, gT, gsC, gsN, FK.e1, FK.e2, eC, eVar, eCall, aNil, aCons, M.bind, M.pure, eTup, eLst, eNew, eSl, oNone, oSome, bT, bNot, bAnd, bOr, eAnd, eOr, eNot, eIf, eCh, truth, eMs, eMl, dSub, dMul, dFdiv, dMod, dLe, dLt, dGe, dGt, D.isNon, dSl, dLen, dInt, dOrd_one, dMax2, dMin2, dTuple, dList, dListC, dApp, dNeg, vw, seq, lstOf, fnD, List.map_cons, List.map_nil, List.length_cons, List.length_nil, List.cons_append, List.nil_append, List.append_nil, List.replicate_succ, List.replicate_zero, List.getElem?_cons_zero, List.getElem?_cons_succ, List.set_cons_zero, List.set_cons_succ, Int.cast_ofNat_Int, Nat.reduceBEq, Int.reduceBEq, Nat.reduceAdd, Nat.reduceSub, Nat.reduceLT, Nat.reduceLeDiff, Nat.zero_add, Nat.add_zero, Nat.sub_zero, Nat.sub_self, ↓reduceIte, if_true, if_false, Bool.not_true, Bool.not_false, Bool.false_eq_true, Bool.true_eq_false, decide_true, decide_false, decide_not, true_and, and_true, and_self, true_or, or_true, not_true_eq_false, not_false_eq_true, ne_eq, reduceCtorEq, Int.reduceLT, Int.reduceLE, Int.reduceNeg, Int.reduceSub, Int.reduceAdd, Int.reduceMul, Int.reducePow, Int.reduceToNat, sz, D.dat, D.datL, D.dep, D.depL, szl, inb, List.any_cons, List.any_nil, Bool.true_and, Bool.false_and, Bool.and_true, Bool.and_false, Bool.or_false, Bool.false_or, Bool.true_or, Bool.or_true, Nat.max_self, Nat.max_zero, Nat.zero_max, Nat.min_self, Nat.zero_le, Nat.min_zero, Nat.zero_min, iR1, iR2, rng1, rng2, iE, itOf, sFor, bYes, Option.isNone_some, Option.isSome_some, Option.isNone_none, Option.isSome_none, Option.some.injEq, dEq_int, dNe_int, dEq_II, dEq_OO, dEq_OI, dEq_IO, dEq_PP, dNe_PP, dIs_O, dIsnt_O, dIs_I, dIsnt_I, dIs_non, dIsnt_non, dIn_IT, dIn_IL, dIdx_tup, dIdx_lst, dIdx_scr, dAdd_int, atI0, atI1, atI2, atI3, atI4, atI5, vw_last, get_last, set_last, app_last]
    | false => simp only [sSeq, sIf, sB, sE, sAsg, sRet, sRetN, sNil, sExpr, sBrk, sCnt, gN, gT, gsC, gsN, FK.e1, FK.e2, eC, eVar, eCall, aNil, aCons, M.bind, M.pure, eTup, eLst, eNew, eSl, oNone, oSome, bT, bNot, bAnd, bOr, eAnd, eOr, eNot, eIf, eCh, truth, eMs, eMl, dSub, dMul, dFdiv, dMod, dLe, dLt, dGe, dGt, D.isNon, dSl, dLen, dInt, dOrd_one, dMax2, dMin2, dTuple, dList, dListC, dApp, dNeg, vw, seq, lstOf, fnD, List.map_cons, List.map_nil, List.length_cons, List.length_nil, List.cons_append, List.nil_append, List.append_nil, List.replicate_succ, List.replicate_zero, List.getElem?_cons_zero, List.getElem?_cons_succ, List.set_cons_zero, List.set_cons_succ, Int.cast_ofNat_Int, Nat.reduceBEq, Int.reduceBEq, Nat.reduceAdd, Nat.reduceSub, Nat.reduceLT, Nat.reduceLeDiff, Nat.zero_add, Nat.add_zero, Nat.sub_zero, Nat.sub_self, ↓reduceIte, if_true, if_false, Bool.not_true, Bool.not_false, Bool.false_eq_true, Bool.true_eq_false, decide_true, decide_false, decide_not, true_and, and_true, and_self, true_or, or_true, not_true_eq_false, not_false_eq_true, ne_eq, reduceCtorEq, Int.reduceLT, Int.reduceLE, Int.reduceNeg, Int.reduceSub, Int.reduceAdd, Int.reduceMul, Int.reducePow, Int.reduceToNat, sz, D.dat, D.datL, D.dep, D.depL, szl, inb, List.any_cons, List.any_nil, Bool.true_and, Bool.false_and, Bool.and_true, Bool.and_false, Bool.or_false, Bool.false_or, Bool.true_or, Bool.or_true, Nat.max_self, Nat.max_zero, Nat.zero_max, Nat.min_self, Nat.zero_le, Nat.min_zero, Nat.zero_min, iR1, iR2, rng1, rng2, iE, itOf, sFor, bYes, Option.isNone_some, Option.isSome_some, Option.isNone_none, Option.isSome_none, Option.some.injEq, dEq_int, dNe_int, dEq_II, dEq_OO, dEq_OI, dEq_IO, dEq_PP, dNe_PP, dIs_O, dIsnt_O, dIs_I, dIsnt_I, dIs_non, dIsnt_non, dIn_IT, dIn_IL, dIdx_tup, dIdx_lst, dIdx_scr, dAdd_int, atI0, atI1, atI2, atI3, atI4, atI5, vw_last, get_last, set_last, app_last, f2, f3, ha, dEq_TT]
  · rw [Bool.or_eq_true, decide_eq_true_eq] at q2
    rw [if_pos (.inr (q2.elim .inl fun z => .inr (.inl z)))]
  rw [Bool.or_eq_false_iff, decide_eq_false_iff_not] at q2
  have any0 : ∀ i, ids.find? (fun i => decide (i.2 = me)) = some i → ids.any (fun i => decide (i.2 = me)) = true := fun i e => List.any_eq_true.mpr ⟨i, List.mem_of_find?_eq_some e, by have := List.find?_some (p := fun i : Id => decide (i.2 = me)) e; exact this⟩
  refine Good.seq (Good.find (en := encI) (xs := ids) (p := fun i => decide (i.2 = me)) (val := fun _ => encT ids) (h := HH) (o := none) (u := none) (by simp only [sSeq, sIf, sB, sE, sAsg, sRet, sRetN, sNil, sExpr, sBrk, sCnt, gN, gT, gsC, gsN, FK.e1, FK.e2, eC, eVar, eCall, aNil, aCons, M.bind, M.pure, eTup, eLst, eNew, eSl, oNone, oSome, bT, bNot, bAnd, bOr, eAnd, eOr, eNot, eIf, eCh, truth, eMs, eMl, dSub, dMul, dFdiv, dMod, dLe, dLt, dGe, dGt, D.isNon, dSl, dLen, dInt, dOrd_one, dMax2, dMin2, dTuple, dList, dListC, dApp, dNeg, vw, seq, lstOf, fnD, List.map_cons, List.map_nil, List.length_cons, List.length_nil, List.cons_append, List.nil_append, List.append_nil, List.replicate_succ, List.replicate_zero, List.getElem?_cons_zero, List.getElem?_cons_succ, List.set_cons_zero, List.set_cons_succ, Int.cast_ofNat_Int, Nat.reduceBEq, Int.reduceBEq, Nat.reduceAdd, Nat.reduceSub, Nat.reduceLT, Nat.reduceLeDiff, Nat.zero_add, Nat.add_zero, Nat.sub_zero, Nat.sub_self, ↓reduceIte, if_true, if_false, Bool.not_true, Bool.not_false, Bool.false_eq_true, Bool.true_eq_false, decide_true, decide_false, decide_not, true_and, and_true, and_self, true_or, or_true, not_true_eq_false, not_false_eq_true, ne_eq, reduceCtorEq, Int.reduceLT, Int.reduceLE, Int.reduceNeg, Int.reduceSub, Int.reduceAdd, Int.reduceMul, Int.reducePow, Int.reduceToNat, sz, D.dat, D.datL, D.dep, D.depL, szl, inb, List.any_cons, List.any_nil, Bool.true_and, Bool.false_and, Bool.and_true, Bool.and_false, Bool.or_false, Bool.false_or, Bool.true_or, Bool.or_true, Nat.max_self, Nat.max_zero, Nat.zero_max, Nat.min_self, Nat.zero_le, Nat.min_zero, Nat.zero_min, iR1, iR2, rng1, rng2, iE, itOf, sFor, bYes, Option.isNone_some, Option.isSome_some, Option.isNone_none, Option.isSome_none, Option.some.injEq, dEq_int, dNe_int, dEq_II, dEq_OO, dEq_OI, dEq_IO, dEq_PP, dNe_PP, dIs_O, dIsnt_O, dIs_I, dIsnt_I, dIs_non, dIsnt_non, dIn_IT, dIn_IL, dIdx_tup, dIdx_lst, dIdx_scr, dAdd_int, atI0, atI1, atI2, atI3, atI4, atI5, vw_last, get_last, set_last, app_last, f2, encT]) trivial rfl (fun i _ => ?_) (fun i _ _ => by simp only [sSeq, sIf, sB, sE, sAsg, sRet, sRetN, sNil, sExpr, sBrk, sCnt, gN, gT, gsC, gsN, FK.e1, FK.e2, eC, eVar, eCall, aNil, aCons, M.bind, M.pure, eTup, eLst, eNew, eSl, oNone, oSome, bT, bNot, bAnd, bOr, eAnd, eOr, eNot, eIf, eCh, truth, eMs, eMl, dSub, dMul, dFdiv, dMod, dLe, dLt, dGe, dGt, D.isNon, dSl, dLen, dInt, dOrd_one, dMax2, dMin2, dTuple, dList, dListC, dApp, dNeg, vw, seq, lstOf, fnD, List.map_cons, List.map_nil, List.length_cons, List.length_nil, List.cons_append, List.nil_append, List.append_nil, List.replicate_succ, List.replicate_zero, List.getElem?_cons_zero, List.getElem?_cons_succ, List.set_cons_zero, List.set_cons_succ, Int.cast_ofNat_Int, Nat.reduceBEq, Int.reduceBEq, Nat.reduceAdd, Nat.reduceSub, Nat.reduceLT, Nat.reduceLeDiff, Nat.zero_add, Nat.add_zero, Nat.sub_zero, Nat.sub_self, ↓reduceIte, if_true, if_false, Bool.not_true, Bool.not_false, Bool.false_eq_true, Bool.true_eq_false, decide_true, decide_false, decide_not, true_and, and_true, and_self, true_or, or_true, not_true_eq_false, not_false_eq_true, ne_eq, reduceCtorEq, Int.reduceLT, Int.reduceLE, Int.reduceNeg, Int.reduceSub, Int.reduceAdd, Int.reduceMul, Int.reducePow, Int.reduceToNat, sz, D.dat, D.datL, D.dep, D.depL, szl, inb, List.any_cons, List.any_nil, Bool.true_and, Bool.false_and, Bool.and_true, Bool.and_false, Bool.or_false, Bool.false_or, Bool.true_or, Bool.or_true, Nat.max_self, Nat.max_zero, Nat.zero_max, Nat.min_self, Nat.zero_le, Nat.min_zero, Nat.zero_min, iR1, iR2, rng1, rng2, iE, itOf, sFor, bYes, Option.isNone_some, Option.isSome_some, Option.isNone_none, Option.isSome_none, Option.some.injEq, dEq_int, dNe_int, dEq_II, dEq_OO, dEq_OI, dEq_IO, dEq_PP, dNe_PP, dIs_O, dIsnt_O, dIs_I, dIsnt_I, dIs_non, dIsnt_non, dIn_IT, dIn_IL, dIdx_tup, dIdx_lst, dIdx_scr, dAdd_int, atI0, atI1, atI2, atI3, atI4, atI5, vw_last, get_last, set_last, app_last, f2]) (fun i e => ⟨by rw [if_pos (.inr (.inr (.inr (any0 i e))))], rfl⟩) (fun e => Good.rt (by (simp only [sSeq, sIf, sB, sE, sAsg, sRet, sRetN, sNil, sExpr, sBrk, sCnt, gN, gT, gsC, gsN, FK.e1, FK.e2, eC, eVar, eCall, aNil, aCons, M.bind, M.pure, eTup, eLst, eNew, eSl, oNone, oSome, bT, bNot, bAnd, bOr, eAnd, eOr, eNot, eIf, eCh, truth, eMs, eMl, dSub, dMul, dFdiv, dMod, dLe, dLt, dGe, dGt, D.isNon, dSl, dLen, dInt, dOrd_one, dMax2, dMin2, dTuple, dList, dListC, dApp, dNeg, vw, seq, lstOf, fnD, List.map_cons, List.map_nil, List.length_cons, List.length_nil, List.cons_append, List.nil_append, List.append_nil, List.replicate_succ, List.replicate_zero, List.getElem?_cons_zero, List.getElem?_cons_succ, List.set_cons_zero, List.set_cons_succ, Int.cast_ofNat_Int, Nat.reduceBEq, Int.reduceBEq, Nat.reduceAdd, Nat.reduceSub, Nat.reduceLT, Nat.reduceLeDiff, Nat.zero_add, Nat.add_zero, Nat.sub_zero, Nat.sub_self, ↓reduceIte, if_true, if_false, Bool.not_true, Bool.not_false, Bool.false_eq_true, Bool.true_eq_false, decide_true, decide_false, decide_not, true_and, and_true, and_self, true_or, or_true, not_true_eq_false, not_false_eq_true, ne_eq, reduceCtorEq, Int.reduceLT, Int.reduceLE, Int.reduceNeg, Int.reduceSub, Int.reduceAdd, Int.reduceMul, Int.reducePow, Int.reduceToNat, sz, D.dat, D.datL, D.dep, D.depL, szl, inb, List.any_cons, List.any_nil, Bool.true_and, Bool.false_and, Bool.and_true, Bool.and_false, Bool.or_false, Bool.false_or, Bool.true_or, Bool.or_true, Nat.max_self, Nat.max_zero, Nat.zero_max, Nat.min_self, Nat.zero_le, Nat.min_zero, Nat.zero_min, iR1, iR2, rng1, rng2, iE, itOf, sFor, bYes, Option.isNone_some, Option.isSome_some, Option.isNone_none, Option.isSome_none, Option.some.injEq, dEq_int, dNe_int, dEq_II, dEq_OO, dEq_OI, dEq_IO, dEq_PP, dNe_PP, dIs_O, dIsnt_O, dIs_I, dIsnt_I, dIs_non, dIsnt_non, dIn_IT, dIn_IL, dIdx_tup, dIdx_lst, dIdx_scr, dAdd_int, atI0, atI1, atI2, atI3, atI4, atI5, vw_last, get_last, set_last, app_last, f3, ha] <;> rfl)) ⟨?_, rfl⟩))
  · simp only [sSeq, sIf, sB, sE, sAsg, sRet, sRetN, sNil, sExpr, sBrk, sCnt, gN, gT, gsC, gsN, FK.e1, FK.e2, eC, eVar, eCall, aNil, aCons, M.bind, M.pure, eTup, eLst, eNew, eSl, oNone, oSome, bT, bNot, bAnd, bOr, eAnd, eOr, eNot, eIf, eCh, truth, eMs, eMl, dSub, dMul, dFdiv, dMod, dLe, dLt, dGe, dGt, D.isNon, dSl, dLen, dInt, dOrd_one, dMax2, dMin2, dTuple, dList, dListC, dApp, dNeg, vw, seq, lstOf, fnD, List.map_cons, List.map_nil, List.length_cons, List.length_nil, List.cons_append, List.nil_append, List.append_nil, List.replicate_succ, List.replicate_zero, List.getElem?_cons_zero, List.getElem?_cons_succ, List.set_cons_zero, List.set_cons_succ, Int.cast_ofNat_Int, Nat.reduceBEq, Int.reduceBEq, Nat.reduceAdd, Nat.reduceSub, Nat.reduceLT, Nat.reduceLeDiff, Nat.zero_add, Nat.add_zero, Nat.sub_zero, Nat.sub_self, ↓reduceIte, if_true, if_false, Bool.not_true, Bool.not_false, Bool.false_eq_true, Bool.true_eq_false, decide_true, decide_false, decide_not, true_and, and_true, and_self, true_or, or_true, not_true_eq_false, not_false_eq_true, ne_eq, reduceCtorEq, Int.reduceLT, Int.reduceLE, Int.reduceNeg, Int.reduceSub, Int.reduceAdd, Int.reduceMul, Int.reducePow, Int.reduceToNat, sz, D.dat, D.datL, D.dep, D.depL, szl, inb, List.any_cons, List.any_nil, Bool.true_and, Bool.false_and, Bool.and_true, Bool.and_false, Bool.or_false, Bool.false_or, Bool.true_or, Bool.or_true, Nat.max_self, Nat.max_zero, Nat.zero_max, Nat.min_self, Nat.zero_le, Nat.min_zero, Nat.zero_min, iR1, iR2, rng1, rng2, iE, itOf, sFor, bYes, Option.isNone_some, Option.isSome_some, Option.isNone_none, Option.isSome_none, Option.some.injEq, dEq_int, dNe_int, dEq_II, dEq_OO, dEq_OI, dEq_IO, dEq_PP, dNe_PP, dIs_O, dIsnt_O, dIs_I, dIsnt_I, dIs_non, dIsnt_non, dIn_IT, dIn_IL, dIdx_tup, dIdx_lst, dIdx_scr, dAdd_int, atI0, atI1, atI2, atI3, atI4, atI5, vw_last, get_last, set_last, app_last, f7, encI]
  · have : ids.any (fun i => decide (i.2 = me)) ≠ true := fun z => by
      obtain ⟨i, hi, hp⟩ := List.any_eq_true.mp z
      exact List.find?_eq_none.mp e i hi hp
    rw [if_neg (by rw [q, q2.1]; rintro (z | z | z | z) <;> first | (cases z; done) | exact q2.2 z | exact this z)]
theorem mkO_ok {c : Str} {g : D → List D → List D} {F : FD} {ds es : List D} {h h' : CH} (ea : g (.ref h.length) ds = es) (ei : F es (h ++ [.ins c [] []]) = .ok .non h') : mkO c g F ds h = .ok (.ref h.length) h' := by
  unfold mkO
  rw [ea, ei]
theorem ks_ar (me : Int) : arrG [0, 1, 2, 3, 4, 5, 6, 7, 8, 9, 10, 11, 12, 13, 14, 15, 16, 17, 18, 19, 20, 21, 22] 4 [.non, .tup [], .tup [], .tup [], .tup [], .tup [], .int 0, .non, .tup [], .tup [], .tup [], .tup [], .tup [], .tup [], .tup [], .tup [], .int 0, .tup [.str "idle"]] (.ref 2) [.int me, .lst [.int 0, .int 1, .int 2, .int 3], .ref 1, .tup []] = ksD me := rfl
theorem ks_new (a b : Cell) (me : Int) : mkO "KeeperState" (arrG [0, 1, 2, 3, 4, 5, 6, 7, 8, 9, 10, 11, 12, 13, 14, 15, 16, 17, 18, 19, 20, 21, 22] 4 [.non, .tup [], .tup [], .tup [], .tup [], .tup [], .int 0, .non, .tup [], .tup [], .tup [], .tup [], .tup [], .tup [], .tup [], .tup [], .int 0, .tup [.str "idle"]]) d_KeeperState_init [.int me, .lst [.int 0, .int 1, .int 2, .int 3], .ref 1, .tup []] [a, b] = .ok (.ref 2) [a, b, .ins "KeeperState" ksNs (ksX me (.ref 3)), .ins "Knowledge" knNs knX] :=
  mkO_ok (h := [a, b]) (ks_ar me) (ks_mk a b me)
set_option maxHeartbeats 1000000
theorem st7 (S C I O me : D) (m : Int) (b : Bool) (c0 : Cell) (hm : me = .int m) : sAsg (eCall (mkO "KeeperState" (arrG [0, 1, 2, 3, 4, 5, 6, 7, 8, 9, 10, 11, 12, 13, 14, 15, 16, 17, 18, 19, 20, 21, 22] 4 [.non, .tup [], .tup [], .tup [], .tup [], .tup [], .int 0, .non, .tup [], .tup [], .tup [], .tup [], .tup [], .tup [], .tup [], .tup [], .int 0, .tup [.str "idle"]]) d_KeeperState_init) (aApp (aCons (eVar 5) (aCons (eLst (aCons (eC (.int 0)) (aCons (eC (.int 1)) (aCons (eC (.int 2)) (aCons (eC (.int 3)) (aNil)))))) (aCons (eVar 6) (aCons (eTup (aNil)) (aNil))))) (aNil))) (gN 7) [some S, some C, some I, some O, some (.ref 0), some me, some (.ref 1), none, none, none, none, none, none, none, none, none, none] [c0, .ins "Rule" rlNs (rlX b)] = .ok .nx [some S, some C, some I, some O, some (.ref 0), some me, some (.ref 1), some (.ref 2), none, none, none, none, none, none, none, none, none] [c0, .ins "Rule" rlNs (rlX b), .ins "KeeperState" ksNs (ksX m (.ref 3)), .ins "Knowledge" knNs knX] := by
  subst hm
  refine sAsg_eq (d := .ref 2) ?_ rfl
  rw [eCall_eq (ds := [.int m, .lst [.int 0, .int 1, .int 2, .int 3], .ref 1, .tup []]) (h1 := [c0, .ins "Rule" rlNs (rlX b)]) (by (simp only [sSeq, sIf, sB, sE, sAsg, sRet, sRetN, sNil, sExpr, sBrk, sCnt, gN, gT, gsC, gsN, FK.e1, FK.e2, eC, eVar, eCall, aNil, aCons, M.bind, M.pure, eTup, eLst, eNew, eSl, oNone, oSome, bT, bNot, bAnd, bOr, eAnd, eOr, eNot, eIf, eCh, truth, eMs, eMl, dSub, dMul, dFdiv, dMod, dLe, dLt, dGe, dGt, D.isNon, dSl, dLen, dInt, dOrd_one, dMax2, dMin2, dTuple, dList, dListC, dApp, dNeg, vw, seq, lstOf, fnD, List.map_cons, List.map_nil, List.length_cons, List.length_nil, List.cons_append, List.nil_append, List.append_nil, List.replicate_succ, List.replicate_zero, List.getElem?_cons_zero, List.getElem?_cons_succ, List.set_cons_zero, List.set_cons_succ, Int.cast_ofNat_Int, Nat.reduceBEq, Int.reduceBEq, Nat.reduceAdd, Nat.reduceSub, Nat.reduceLT, Nat.reduceLeDiff, Nat.zero_add, Nat.add_zero, Nat.sub_zero, Nat.sub_self, ↓reduceIte, if_true, if_false, Bool.not_true, Bool.not_false, Bool.false_eq_true, Bool.true_eq_false, decide_true, decide_false, decide_not, true_and, and_true, and_self, true_or, or_true, not_true_eq_false, not_false_eq_true, ne_eq, reduceCtorEq, Int.reduceLT, Int.reduceLE, Int.reduceNeg, Int.reduceSub, Int.reduceAdd, Int.reduceMul, Int.reducePow, Int.reduceToNat, sz, D.dat, D.datL, D.dep, D.depL, szl, inb, List.any_cons, List.any_nil, Bool.true_and, Bool.false_and, Bool.and_true, Bool.and_false, Bool.or_false, Bool.false_or, Bool.true_or, Bool.or_true, Nat.max_self, Nat.max_zero, Nat.zero_max, Nat.min_self, Nat.zero_le, Nat.min_zero, Nat.zero_min, iR1, iR2, rng1, rng2, iE, itOf, sFor, bYes, Option.isNone_some, Option.isSome_some, Option.isNone_none, Option.isSome_none, Option.some.injEq, dEq_int, dNe_int, dEq_II, dEq_OO, dEq_OI, dEq_IO, dEq_PP, dNe_PP, dIs_O, dIsnt_O, dIs_I, dIsnt_I, dIs_non, dIsnt_non, dIn_IT, dIn_IL, dIdx_tup, dIdx_lst, dIdx_scr, dAdd_int, atI0, atI1, atI2, atI3, atI4, atI5, vw_last, get_last, set_last, app_last, aApp] <;> rfl))]
  exact ks_new _ _ m
theorem law_true (ns : List Int) (hl : ns.length ≤ 63) : ∃ h, d_law [scrD ns] [] = .ok (.bl true) h := by
  obtain ⟨cs, hc, hp, er⟩ := cells_ok ns 12 hl (by omega) []
  replace er : callP 2 d_l_cells [scrD ns, .int 12] [] = .ok (.lst (cs.map .int)) [] := er
  have at' : ∀ k : Int, 0 ≤ k → k < 12 → ∃ v, atI (cs.map D.int) k = some (.int v) := fun k h0 h1 => atI_in h0 (by omega)
  obtain ⟨c3, q3⟩ := at' 3 (by omega) (by omega)
  obtain ⟨c4, q4⟩ := at' 4 (by omega) (by omega)
  obtain ⟨c5, q5⟩ := at' 5 (by omega) (by omega)
  obtain ⟨c6, q6⟩ := at' 6 (by omega) (by omega)
  obtain ⟨c7, q7⟩ := at' 7 (by omega) (by omega)
  obtain ⟨c8, q8⟩ := at' 8 (by omega) (by omega)
  obtain ⟨c9, q9⟩ := at' 9 (by omega) (by omega)
  obtain ⟨C, hC⟩ : ∃ C, C = D.lst (cs.map .int) := ⟨_, rfl⟩
  have atC : ∀ (k v : Int) (h : CH), atI (cs.map D.int) k = some (.int v) → dIdx C (.int k) h = .ok (.int v) h := fun k v h e => by
    rw [hC]
    show (match atI (cs.map D.int) k with | some d => R.ok d h | none => .bad) = _
    rw [e]
  rw [← hC] at er
  obtain ⟨N0, hM, hM1, hM2⟩ : ∃ N0 : Nat, 1 + c3 % 3 = (N0 : Int) ∧ 1 ≤ N0 ∧ N0 ≤ 3 := ⟨(1 + c3 % 3).toNat, by omega, by omega, by omega⟩
  obtain ⟨me, hme⟩ : ∃ me, c5 % 4 = me := ⟨_, rfl⟩
  obtain ⟨t, ht⟩ : ∃ t, 5 + c7 % 2 = t := ⟨_, rfl⟩
  obtain ⟨u, hu⟩ : ∃ u, 2 + c8 % 2 = u := ⟨_, rfl⟩
  obtain ⟨rd, hrd⟩ : ∃ rd, decide (c9 % 3 = 0) = rd := ⟨_, rfl⟩
  obtain ⟨b, hb⟩ : ∃ b, decide (c6 % 2 = 0) = b := ⟨_, rfl⟩
  have li := eLc_fm (X := Nat) (en := fun k => .int (k : Int)) (fun _ => true) (fun k => encI ((k : Int) + 1, (cs.getD k 0) % 3)) (it := (iR1 (aCons (FK.e2 dAdd (eC (.int 1)) (FK.e2 dMod (eCall dInt (aCons (FK.e2 dIdx (eVar 1) (eC (.int 3))) (aNil))) (eC (.int 3)))) (aNil)))) (g := gN 15) (b := bYes) (f := (eTup (aCons (FK.e2 dAdd (eVar 15) (eC (.int 1))) (aCons (FK.e2 dMod (eCall dInt (aCons (FK.e2 dIdx (eVar 1) (eVar 15)) (aNil))) (eC (.int 3))) (aNil))))) (vs := [15]) (ρ := [some (scrD ns), some C, none, none, none, none, none, none, none, none, none, none, none, none, none, none, none]) (h := []) (o := none) (xs := List.range N0) (by
      have a3 := atC 3 c3 [] q3
      simp only [sSeq, sIf, sB, sE, sAsg, sRet, sRetN, sNil, sExpr, sBrk, sCnt, gN, gT, gsC, gsN, FK.e1, FK.e2, eC, eVar, eCall, aNil, aCons, M.bind, M.pure, eTup, eLst, eNew, eSl, oNone, oSome, bT, bNot, bAnd, bOr, eAnd, eOr, eNot, eIf, eCh, truth, eMs, eMl, dSub, dMul, dFdiv, dMod, dLe, dLt, dGe, dGt, D.isNon, dSl, dLen, dInt, dOrd_one, dMax2, dMin2, dTuple, dList, dListC, dApp, dNeg, vw, seq, lstOf, fnD, List.map_cons, List.map_nil, List.length_cons, List.length_nil, List.cons_append, List.nil_append, List.append_nil, List.replicate_succ, List.replicate_zero, List.getElem?_cons_zero, List.getElem?_cons_succ, List.set_cons_zero, List.set_cons_succ, Int.cast_ofNat_Int, Nat.reduceBEq, Int.reduceBEq, Nat.reduceAdd, Nat.reduceSub, Nat.reduceLT, Nat.reduceLeDiff, Nat.zero_add, Nat.add_zero, Nat.sub_zero, Nat.sub_self, ↓reduceIte, if_true, if_false, Bool.not_true, Bool.not_false, Bool.false_eq_true, Bool.true_eq_false, decide_true, decide_false, decide_not, true_and, and_true, and_self, true_or, or_true, not_true_eq_false, not_false_eq_true, ne_eq, reduceCtorEq, Int.reduceLT, Int.reduceLE, Int.reduceNeg, Int.reduceSub, Int.reduceAdd, Int.reduceMul, Int.reducePow, Int.reduceToNat, sz, D.dat, D.datL, D.dep, D.depL, szl, inb, List.any_cons, List.any_nil, Bool.true_and, Bool.false_and, Bool.and_true, Bool.and_false, Bool.or_false, Bool.false_or, Bool.true_or, Bool.or_true, Nat.max_self, Nat.max_zero, Nat.zero_max, Nat.min_self, Nat.zero_le, Nat.min_zero, Nat.zero_min, iR1, iR2, rng1, rng2, iE, itOf, sFor, bYes, Option.isNone_some, Option.isSome_some, Option.isNone_none, Option.isSome_none, Option.some.injEq, dEq_int, dNe_int, dEq_II, dEq_OO, dEq_OI, dEq_IO, dEq_PP, dNe_PP, dIs_O, dIsnt_O, dIs_I, dIsnt_I, dIs_non, dIsnt_non, dIn_IT, dIn_IL, dIdx_tup, dIdx_lst, dIdx_scr, dAdd_int, atI0, atI1, atI2, atI3, atI4, atI5, vw_last, get_last, set_last, app_last, a3, hM, if_pos (inR_nat (show N0 ≤ 16777217 by omega)), rangeD_nat]) trivial (by rw [List.length_range]; omega) (fun k hk => ⟨_, wipe_gN, rfl, fun _ => by
      have hk := List.mem_range.mp hk
      have hk2 : k < cs.length := by omega
      have ak := atC k (cs[k]) [] (L2.atI_nat (by rw [List.getElem?_map, List.getElem?_eq_getElem hk2]; rfl))
      rw [List.getD_eq_getElem?_getD, List.getElem?_eq_getElem hk2]
      show _ = R.ok (encI ((k : Int) + 1, cs[k] % 3)) []
      (simp only [sSeq, sIf, sB, sE, sAsg, sRet, sRetN, sNil, sExpr, sBrk, sCnt, gN, gT, gsC, gsN, FK.e1, FK.e2, eC, eVar, eCall, aNil, aCons, M.bind, M.pure, eTup, eLst, eNew, eSl, oNone, oSome, bT, bNot, bAnd, bOr, eAnd, eOr, eNot, eIf, eCh, truth, eMs, eMl, dSub, dMul, dFdiv, dMod, dLe, dLt, dGe, dGt, D.isNon, dSl, dLen, dInt, dOrd_one, dMax2, dMin2, dTuple, dList, dListC, dApp, dNeg, vw, seq, lstOf, fnD, List.map_cons, List.map_nil, List.length_cons, List.length_nil, List.cons_append, List.nil_append, List.append_nil, List.replicate_succ, List.replicate_zero, List.getElem?_cons_zero, List.getElem?_cons_succ, List.set_cons_zero, List.set_cons_succ, Int.cast_ofNat_Int, Nat.reduceBEq, Int.reduceBEq, Nat.reduceAdd, Nat.reduceSub, Nat.reduceLT, Nat.reduceLeDiff, Nat.zero_add, Nat.add_zero, Nat.sub_zero, Nat.sub_self, ↓reduceIte, if_true, if_false, Bool.not_true, Bool.not_false, Bool.false_eq_true, Bool.true_eq_false, decide_true, decide_false, decide_not, true_and, and_true, and_self, true_or, or_true, not_true_eq_false, not_false_eq_true, ne_eq, reduceCtorEq, Int.reduceLT, Int.reduceLE, Int.reduceNeg, Int.reduceSub, Int.reduceAdd, Int.reduceMul, Int.reducePow, Int.reduceToNat, sz, D.dat, D.datL, D.dep, D.depL, szl, inb, List.any_cons, List.any_nil, Bool.true_and, Bool.false_and, Bool.and_true, Bool.and_false, Bool.or_false, Bool.false_or, Bool.true_or, Bool.or_true, Nat.max_self, Nat.max_zero, Nat.zero_max, Nat.min_self, Nat.zero_le, Nat.min_zero, Nat.zero_min, iR1, iR2, rng1, rng2, iE, itOf, sFor, bYes, Option.isNone_some, Option.isSome_some, Option.isNone_none, Option.isSome_none, Option.some.injEq, dEq_int, dNe_int, dEq_II, dEq_OO, dEq_OI, dEq_IO, dEq_PP, dNe_PP, dIs_O, dIsnt_O, dIs_I, dIsnt_I, dIs_non, dIsnt_non, dIn_IT, dIn_IL, dIdx_tup, dIdx_lst, dIdx_scr, dAdd_int, atI0, atI1, atI2, atI3, atI4, atI5, vw_last, get_last, set_last, app_last, ak] <;> rfl)⟩)
  rw [List.filter_eq_self.mpr (by simp)] at li
  obtain ⟨ids, hids⟩ : ∃ ids : List Id, ids = (List.range N0).map fun k : Nat => ((k : Int) + 1, (cs.getD k 0) % 3) := ⟨_, rfl⟩
  rw [show ((List.range N0).map fun k : Nat => encI ((k : Int) + 1, (cs.getD k 0) % 3)) = ids.map encI by rw [hids, List.map_map]; rfl] at li
  have hid : 0 < ids.length := by rw [hids, List.length_map, List.length_range]; omega
  have hil : ids.length ≤ 16777216 := by rw [hids, List.length_map, List.length_range]; omega
  clear hids
  obtain ⟨i0, isr, rfl⟩ : ∃ i0 isr, ids = i0 :: isr := by
    cases ids with
    | nil => cases hid
    | cons a l => exact ⟨a, l, rfl⟩
  obtain ⟨ids, hids⟩ : ∃ ids, ids = i0 :: isr := ⟨_, rfl⟩
  have hz0 : ids[0]? = some i0 := by rw [hids]; rfl
  have x0 : ∀ h, dIdx (encT ids) (.int 0) h = .ok (encI i0) h := fun h => by
    rw [hids]
    show (match atI (encI i0 :: isr.map encI) 0 with | some d => R.ok d h | none => .bad) = _
    rw [atI0]
  have sl : ∀ h, dSl (encT ids) (some 1) none h = .ok (encT (ids.drop 1)) h := fun h => by
    show R.ok (D.tup (cut (ids.map encI) (some ((1 : Nat) : Int)) none)) h = _
    rw [cut_from (by rw [hids]; simp), ← List.map_drop]
    rfl
  rw [← hids] at li hid hil
  have ot : ∃ oth : List Id, sAsg (FK.e2 dIdx (eLst (aCons (eTup (aNil)) (aCons (eVar 2) (aCons (eSl (eVar 2) (oSome (eC (.int 1))) (oNone)) (aCons (eTup (aCons (eTup (aCons (eC (.int 9)) (aCons (eC (.int 2)) (aNil)))) (aNil))) (aNil)))))) (FK.e2 dMod (eCall dInt (aCons (FK.e2 dIdx (eVar 1) (eC (.int 4))) (aNil))) (eC (.int 4)))) (gN 3) [some (scrD ns), some C, some (encT ids), none, none, none, none, none, none, none, none, none, none, none, none, none, none] [] = .ok .nx [some (scrD ns), some C, some (encT ids), some (encT oth), none, none, none, none, none, none, none, none, none, none, none, none, none] [] := by
    have a4 := atC 4 c4 [] q4
    have s1 := sl []
    rcases (show c4 % 4 = 0 ∨ c4 % 4 = 1 ∨ c4 % 4 = 2 ∨ c4 % 4 = 3 by omega) with z | z | z | z
    · exact ⟨[], by (simp only [sSeq, sIf, sB, sE, sAsg, sRet, sRetN, sNil, sExpr, sBrk, sCnt, gN, gT, gsC, gsN, FK.e1, FK.e2, eC, eVar, eCall, aNil, aCons, M.bind, M.pure, eTup, eLst, eNew, eSl, oNone, oSome, bT, bNot, bAnd, bOr, eAnd, eOr, eNot, eIf, eCh, truth, eMs, eMl, dSub, dMul, dFdiv, dMod, dLe, dLt, dGe, dGt, D.isNon, dLen, dInt, dOrd_one, dMax2, dMin2, dTuple, dList, dListC, dApp, dNeg, vw, seq, lstOf, fnD, List.map_cons, List.map_nil, List.length_cons, List.length_nil, List.cons_append, List.nil_append, List.append_nil, List.replicate_succ, List.replicate_zero, List.getElem?_cons_zero, List.getElem?_cons_succ, List.set_cons_zero, List.set_cons_succ, Int.cast_ofNat_Int, Nat.reduceBEq, Int.reduceBEq, Nat.reduceAdd, Nat.reduceSub, Nat.reduceLT, Nat.reduceLeDiff, Nat.zero_add, Nat.add_zero, Nat.sub_zero, Nat.sub_self, ↓reduceIte, if_true, if_false, Bool.not_true, Bool.not_false, Bool.false_eq_true, Bool.true_eq_false, decide_true, decide_false, decide_not, true_and, and_true, and_self, true_or, or_true, not_true_eq_false, not_false_eq_true, ne_eq, reduceCtorEq, Int.reduceLT, Int.reduceLE, Int.reduceNeg, Int.reduceSub, Int.reduceAdd, Int.reduceMul, Int.reducePow, Int.reduceToNat, sz, D.dat, D.datL, D.dep, D.depL, szl, inb, List.any_cons, List.any_nil, Bool.true_and, Bool.false_and, Bool.and_true, Bool.and_false, Bool.or_false, Bool.false_or, Bool.true_or, Bool.or_true, Nat.max_self, Nat.max_zero, Nat.zero_max, Nat.min_self, Nat.zero_le, Nat.min_zero, Nat.zero_min, iR1, iR2, rng1, rng2, iE, itOf, sFor, bYes, Option.isNone_some, Option.isSome_some, Option.isNone_none, Option.isSome_none, Option.some.injEq, dEq_int, dNe_int, dEq_II, dEq_OO, dEq_OI, dEq_IO, dEq_PP, dNe_PP, dIs_O, dIsnt_O, dIs_I, dIsnt_I, dIs_non, dIsnt_non, dIn_IT, dIn_IL, dIdx_tup, dIdx_lst, dIdx_scr, dAdd_int, atI0, atI1, atI2, atI3, atI4, atI5, vw_last, get_last, set_last, app_last, a4, s1, z] <;> rfl)⟩
    · exact ⟨ids, by (simp only [sSeq, sIf, sB, sE, sAsg, sRet, sRetN, sNil, sExpr, sBrk, sCnt, gN, gT, gsC, gsN, FK.e1, FK.e2, eC, eVar, eCall, aNil, aCons, M.bind, M.pure, eTup, eLst, eNew, eSl, oNone, oSome, bT, bNot, bAnd, bOr, eAnd, eOr, eNot, eIf, eCh, truth, eMs, eMl, dSub, dMul, dFdiv, dMod, dLe, dLt, dGe, dGt, D.isNon, dLen, dInt, dOrd_one, dMax2, dMin2, dTuple, dList, dListC, dApp, dNeg, vw, seq, lstOf, fnD, List.map_cons, List.map_nil, List.length_cons, List.length_nil, List.cons_append, List.nil_append, List.append_nil, List.replicate_succ, List.replicate_zero, List.getElem?_cons_zero, List.getElem?_cons_succ, List.set_cons_zero, List.set_cons_succ, Int.cast_ofNat_Int, Nat.reduceBEq, Int.reduceBEq, Nat.reduceAdd, Nat.reduceSub, Nat.reduceLT, Nat.reduceLeDiff, Nat.zero_add, Nat.add_zero, Nat.sub_zero, Nat.sub_self, ↓reduceIte, if_true, if_false, Bool.not_true, Bool.not_false, Bool.false_eq_true, Bool.true_eq_false, decide_true, decide_false, decide_not, true_and, and_true, and_self, true_or, or_true, not_true_eq_false, not_false_eq_true, ne_eq, reduceCtorEq, Int.reduceLT, Int.reduceLE, Int.reduceNeg, Int.reduceSub, Int.reduceAdd, Int.reduceMul, Int.reducePow, Int.reduceToNat, sz, D.dat, D.datL, D.dep, D.depL, szl, inb, List.any_cons, List.any_nil, Bool.true_and, Bool.false_and, Bool.and_true, Bool.and_false, Bool.or_false, Bool.false_or, Bool.true_or, Bool.or_true, Nat.max_self, Nat.max_zero, Nat.zero_max, Nat.min_self, Nat.zero_le, Nat.min_zero, Nat.zero_min, iR1, iR2, rng1, rng2, iE, itOf, sFor, bYes, Option.isNone_some, Option.isSome_some, Option.isNone_none, Option.isSome_none, Option.some.injEq, dEq_int, dNe_int, dEq_II, dEq_OO, dEq_OI, dEq_IO, dEq_PP, dNe_PP, dIs_O, dIsnt_O, dIs_I, dIsnt_I, dIs_non, dIsnt_non, dIn_IT, dIn_IL, dIdx_tup, dIdx_lst, dIdx_scr, dAdd_int, atI0, atI1, atI2, atI3, atI4, atI5, vw_last, get_last, set_last, app_last, a4, s1, z] <;> rfl)⟩
    · exact ⟨ids.drop 1, by (simp only [sSeq, sIf, sB, sE, sAsg, sRet, sRetN, sNil, sExpr, sBrk, sCnt, gN, gT, gsC, gsN, FK.e1, FK.e2, eC, eVar, eCall, aNil, aCons, M.bind, M.pure, eTup, eLst, eNew, eSl, oNone, oSome, bT, bNot, bAnd, bOr, eAnd, eOr, eNot, eIf, eCh, truth, eMs, eMl, dSub, dMul, dFdiv, dMod, dLe, dLt, dGe, dGt, D.isNon, dLen, dInt, dOrd_one, dMax2, dMin2, dTuple, dList, dListC, dApp, dNeg, vw, seq, lstOf, fnD, List.map_cons, List.map_nil, List.length_cons, List.length_nil, List.cons_append, List.nil_append, List.append_nil, List.replicate_succ, List.replicate_zero, List.getElem?_cons_zero, List.getElem?_cons_succ, List.set_cons_zero, List.set_cons_succ, Int.cast_ofNat_Int, Nat.reduceBEq, Int.reduceBEq, Nat.reduceAdd, Nat.reduceSub, Nat.reduceLT, Nat.reduceLeDiff, Nat.zero_add, Nat.add_zero, Nat.sub_zero, Nat.sub_self, ↓reduceIte, if_true, if_false, Bool.not_true, Bool.not_false, Bool.false_eq_true, Bool.true_eq_false, decide_true, decide_false, decide_not, true_and, and_true, and_self, true_or, or_true, not_true_eq_false, not_false_eq_true, ne_eq, reduceCtorEq, Int.reduceLT, Int.reduceLE, Int.reduceNeg, Int.reduceSub, Int.reduceAdd, Int.reduceMul, Int.reducePow, Int.reduceToNat, sz, D.dat, D.datL, D.dep, D.depL, szl, inb, List.any_cons, List.any_nil, Bool.true_and, Bool.false_and, Bool.and_true, Bool.and_false, Bool.or_false, Bool.false_or, Bool.true_or, Bool.or_true, Nat.max_self, Nat.max_zero, Nat.zero_max, Nat.min_self, Nat.zero_le, Nat.min_zero, Nat.zero_min, iR1, iR2, rng1, rng2, iE, itOf, sFor, bYes, Option.isNone_some, Option.isSome_some, Option.isNone_none, Option.isSome_none, Option.some.injEq, dEq_int, dNe_int, dEq_II, dEq_OO, dEq_OI, dEq_IO, dEq_PP, dNe_PP, dIs_O, dIsnt_O, dIs_I, dIsnt_I, dIs_non, dIsnt_non, dIn_IT, dIn_IL, dIdx_tup, dIdx_lst, dIdx_scr, dAdd_int, atI0, atI1, atI2, atI3, atI4, atI5, vw_last, get_last, set_last, app_last, a4, s1, z] <;> rfl)⟩
    · exact ⟨[(9, 2)], by (simp only [sSeq, sIf, sB, sE, sAsg, sRet, sRetN, sNil, sExpr, sBrk, sCnt, gN, gT, gsC, gsN, FK.e1, FK.e2, eC, eVar, eCall, aNil, aCons, M.bind, M.pure, eTup, eLst, eNew, eSl, oNone, oSome, bT, bNot, bAnd, bOr, eAnd, eOr, eNot, eIf, eCh, truth, eMs, eMl, dSub, dMul, dFdiv, dMod, dLe, dLt, dGe, dGt, D.isNon, dLen, dInt, dOrd_one, dMax2, dMin2, dTuple, dList, dListC, dApp, dNeg, vw, seq, lstOf, fnD, List.map_cons, List.map_nil, List.length_cons, List.length_nil, List.cons_append, List.nil_append, List.append_nil, List.replicate_succ, List.replicate_zero, List.getElem?_cons_zero, List.getElem?_cons_succ, List.set_cons_zero, List.set_cons_succ, Int.cast_ofNat_Int, Nat.reduceBEq, Int.reduceBEq, Nat.reduceAdd, Nat.reduceSub, Nat.reduceLT, Nat.reduceLeDiff, Nat.zero_add, Nat.add_zero, Nat.sub_zero, Nat.sub_self, ↓reduceIte, if_true, if_false, Bool.not_true, Bool.not_false, Bool.false_eq_true, Bool.true_eq_false, decide_true, decide_false, decide_not, true_and, and_true, and_self, true_or, or_true, not_true_eq_false, not_false_eq_true, ne_eq, reduceCtorEq, Int.reduceLT, Int.reduceLE, Int.reduceNeg, Int.reduceSub, Int.reduceAdd, Int.reduceMul, Int.reducePow, Int.reduceToNat, sz, D.dat, D.datL, D.dep, D.depL, szl, inb, List.any_cons, List.any_nil, Bool.true_and, Bool.false_and, Bool.and_true, Bool.and_false, Bool.or_false, Bool.false_or, Bool.true_or, Bool.or_true, Nat.max_self, Nat.max_zero, Nat.zero_max, Nat.min_self, Nat.zero_le, Nat.min_zero, Nat.zero_min, iR1, iR2, rng1, rng2, iE, itOf, sFor, bYes, Option.isNone_some, Option.isSome_some, Option.isNone_none, Option.isSome_none, Option.some.injEq, dEq_int, dNe_int, dEq_II, dEq_OO, dEq_OI, dEq_IO, dEq_PP, dNe_PP, dIs_O, dIsnt_O, dIs_I, dIsnt_I, dIs_non, dIsnt_non, dIn_IT, dIn_IL, dIdx_tup, dIdx_lst, dIdx_scr, dAdd_int, atI0, atI1, atI2, atI3, atI4, atI5, vw_last, get_last, set_last, app_last, a4, s1, z] <;> rfl)⟩
  obtain ⟨oth, ot⟩ := ot
  obtain ⟨hs, hhs⟩ : ∃ hs : List Hd, hs = if oth = [] then [((["b"], ids) : Hd)] else [((["b"], ids) : Hd), ((["a"], oth) : Hd)] := ⟨_, rfl⟩
  have hAt : hadAt hs ["a"] = oth := by
    rw [hhs]
    by_cases z : oth = []
    · rw [if_pos z, z]; rfl
    · rw [if_neg z]; rfl
  have rp := rp_fn hs b rd me t u ids
  rw [hAt] at rp
  obtain ⟨d, h', e, rfl⟩ := Good.fn (N := 17) (body := b_law) (ds := [scrD ns]) (h := []) (ρ := [some (scrD ns), none, none, none, none, none, none, none, none, none, none, none, none, none, none, none, none]) (T := fun d h' => d = .bl true) (by
    unfold b_law
    have s7 := st7 (scrD ns) C (encT ids) (encT oth) (.int me) me b (.lst (hs.map encHd)) rfl
    generalize d_KeeperState_init = F at s7 ⊢
    refine Good.seq (Good.nx (ρ := [some (scrD ns), some C, none, none, none, none, none, none, none, none, none, none, none, none, none, none, none]) (h := []) (by (simp only [sSeq, sIf, sB, sE, sAsg, sRet, sRetN, sNil, sExpr, sBrk, sCnt, gN, gT, gsC, gsN, FK.e1, FK.e2, eC, eVar, eCall, aNil, aCons, M.bind, M.pure, eTup, eLst, eNew, eSl, oNone, oSome, bT, bNot, bAnd, bOr, eAnd, eOr, eNot, eIf, eCh, truth, eMs, eMl, dSub, dMul, dFdiv, dMod, dLe, dLt, dGe, dGt, D.isNon, dSl, dLen, dInt, dOrd_one, dMax2, dMin2, dTuple, dList, dListC, dApp, dNeg, vw, seq, lstOf, fnD, List.map_cons, List.map_nil, List.length_cons, List.length_nil, List.cons_append, List.nil_append, List.append_nil, List.replicate_succ, List.replicate_zero, List.getElem?_cons_zero, List.getElem?_cons_succ, List.set_cons_zero, List.set_cons_succ, Int.cast_ofNat_Int, Nat.reduceBEq, Int.reduceBEq, Nat.reduceAdd, Nat.reduceSub, Nat.reduceLT, Nat.reduceLeDiff, Nat.zero_add, Nat.add_zero, Nat.sub_zero, Nat.sub_self, ↓reduceIte, if_true, if_false, Bool.not_true, Bool.not_false, Bool.false_eq_true, Bool.true_eq_false, decide_true, decide_false, decide_not, true_and, and_true, and_self, true_or, or_true, not_true_eq_false, not_false_eq_true, ne_eq, reduceCtorEq, Int.reduceLT, Int.reduceLE, Int.reduceNeg, Int.reduceSub, Int.reduceAdd, Int.reduceMul, Int.reducePow, Int.reduceToNat, sz, D.dat, D.datL, D.dep, D.depL, szl, inb, List.any_cons, List.any_nil, Bool.true_and, Bool.false_and, Bool.and_true, Bool.and_false, Bool.or_false, Bool.false_or, Bool.true_or, Bool.or_true, Nat.max_self, Nat.max_zero, Nat.zero_max, Nat.min_self, Nat.zero_le, Nat.min_zero, Nat.zero_min, iR1, iR2, rng1, rng2, iE, itOf, sFor, bYes, Option.isNone_some, Option.isSome_some, Option.isNone_none, Option.isSome_none, Option.some.injEq, dEq_int, dNe_int, dEq_II, dEq_OO, dEq_OI, dEq_IO, dEq_PP, dNe_PP, dIs_O, dIsnt_O, dIs_I, dIsnt_I, dIs_non, dIsnt_non, dIn_IT, dIn_IL, dIdx_tup, dIdx_lst, dIdx_scr, dAdd_int, atI0, atI1, atI2, atI3, atI4, atI5, vw_last, get_last, set_last, app_last, er] <;> rfl)) ?_)
    refine Good.seq (Good.nx (ρ := [some (scrD ns), some C, some (encT ids), none, none, none, none, none, none, none, none, none, none, none, none, none, none]) (h := []) (sAsg_eq ((eCall1_eq li).trans rfl)) ?_)
    refine Good.seq (Good.nx ot ?_)
    refine Good.seq (Good.nx (ρ := [some (scrD ns), some C, some (encT ids), some (encT oth), some (.ref 0), none, none, none, none, none, none, none, none, none, none, none, none]) (h := [.lst ([((["b"], ids) : Hd)].map encHd)]) (by (simp only [sSeq, sIf, sB, sE, sAsg, sRet, sRetN, sNil, sExpr, sBrk, sCnt, gN, gT, gsC, gsN, FK.e1, FK.e2, eC, eVar, eCall, aNil, aCons, M.bind, M.pure, eTup, eLst, eNew, eSl, oNone, oSome, bT, bNot, bAnd, bOr, eAnd, eOr, eNot, eIf, eCh, truth, eMs, eMl, dSub, dMul, dFdiv, dMod, dLe, dLt, dGe, dGt, D.isNon, dSl, dLen, dInt, dOrd_one, dMax2, dMin2, dTuple, dList, dListC, dApp, dNeg, vw, seq, lstOf, fnD, List.map_cons, List.map_nil, List.length_cons, List.length_nil, List.cons_append, List.nil_append, List.append_nil, List.replicate_succ, List.replicate_zero, List.getElem?_cons_zero, List.getElem?_cons_succ, List.set_cons_zero, List.set_cons_succ, Int.cast_ofNat_Int, Nat.reduceBEq, Int.reduceBEq, Nat.reduceAdd, Nat.reduceSub, Nat.reduceLT, Nat.reduceLeDiff, Nat.zero_add, Nat.add_zero, Nat.sub_zero, Nat.sub_self, ↓reduceIte, if_true, if_false, Bool.not_true, Bool.not_false, Bool.false_eq_true, Bool.true_eq_false, decide_true, decide_false, decide_not, true_and, and_true, and_self, true_or, or_true, not_true_eq_false, not_false_eq_true, ne_eq, reduceCtorEq, Int.reduceLT, Int.reduceLE, Int.reduceNeg, Int.reduceSub, Int.reduceAdd, Int.reduceMul, Int.reducePow, Int.reduceToNat, sz, D.dat, D.datL, D.dep, D.depL, szl, inb, List.any_cons, List.any_nil, Bool.true_and, Bool.false_and, Bool.and_true, Bool.and_false, Bool.or_false, Bool.false_or, Bool.true_or, Bool.or_true, Nat.max_self, Nat.max_zero, Nat.zero_max, Nat.min_self, Nat.zero_le, Nat.min_zero, Nat.zero_min, iR1, iR2, rng1, rng2, iE, itOf, sFor, bYes, Option.isNone_some, Option.isSome_some, Option.isNone_none, Option.isSome_none, Option.some.injEq, dEq_int, dNe_int, dEq_II, dEq_OO, dEq_OI, dEq_IO, dEq_PP, dNe_PP, dIs_O, dIsnt_O, dIs_I, dIsnt_I, dIs_non, dIsnt_non, dIn_IT, dIn_IL, dIdx_tup, dIdx_lst, dIdx_scr, dAdd_int, atI0, atI1, atI2, atI3, atI4, atI5, vw_last, get_last, set_last, app_last] <;> rfl)) ?_)
    refine Good.seq (Good.nx (ρ := [some (scrD ns), some C, some (encT ids), some (encT oth), some (.ref 0), none, none, none, none, none, none, none, none, none, none, none, none]) (h := [.lst (hs.map encHd)]) ?_ ?_)
    · by_cases z : oth = []
      · rw [hhs, if_pos z]
        (simp only [sSeq, sIf, sB, sE, sAsg, sRet, sRetN, sNil, sExpr, sBrk, sCnt, gN, gT, gsC, gsN, FK.e1, FK.e2, eC, eVar, eCall, aNil, aCons, M.bind, M.pure, eTup, eLst, eNew, eSl, oNone, oSome, bT, bNot, bAnd, bOr, eAnd, eOr, eNot, eIf, eCh, truth, eMs, eMl, dSub, dMul, dFdiv, dMod, dLe, dLt, dGe, dGt, D.isNon, dSl, dInt, dOrd_one, dMax2, dMin2, dTuple, dList, dListC, dApp, dNeg, vw, seq, lstOf, fnD, List.map_cons, List.map_nil, List.length_cons, List.length_nil, List.cons_append, List.nil_append, List.append_nil, List.replicate_succ, List.replicate_zero, List.getElem?_cons_zero, List.getElem?_cons_succ, List.set_cons_zero, List.set_cons_succ, Int.cast_ofNat_Int, Nat.reduceBEq, Int.reduceBEq, Nat.reduceAdd, Nat.reduceSub, Nat.reduceLT, Nat.reduceLeDiff, Nat.zero_add, Nat.add_zero, Nat.sub_zero, Nat.sub_self, ↓reduceIte, if_true, if_false, Bool.not_true, Bool.not_false, Bool.false_eq_true, Bool.true_eq_false, decide_true, decide_false, decide_not, true_and, and_true, and_self, true_or, or_true, not_true_eq_false, not_false_eq_true, ne_eq, reduceCtorEq, Int.reduceLT, Int.reduceLE, Int.reduceNeg, Int.reduceSub, Int.reduceAdd, Int.reduceMul, Int.reducePow, Int.reduceToNat, sz, D.dat, D.datL, D.dep, D.depL, szl, inb, List.any_cons, List.any_nil, Bool.true_and, Bool.false_and, Bool.and_true, Bool.and_false, Bool.or_false, Bool.false_or, Bool.true_or, Bool.or_true, Nat.max_self, Nat.max_zero, Nat.zero_max, Nat.min_self, Nat.zero_le, Nat.min_zero, Nat.zero_min, iR1, iR2, rng1, rng2, iE, itOf, sFor, bYes, Option.isNone_some, Option.isSome_some, Option.isNone_none, Option.isSome_none, Option.some.injEq, dEq_int, dNe_int, dEq_II, dEq_OO, dEq_OI, dEq_IO, dEq_PP, dNe_PP, dIs_O, dIsnt_O, dIs_I, dIsnt_I, dIs_non, dIsnt_non, dIn_IT, dIn_IL, dIdx_tup, dIdx_lst, dIdx_scr, dAdd_int, atI0, atI1, atI2, atI3, atI4, atI5, vw_last, get_last, set_last, app_last, len_T, z] <;> rfl)
      · have z2 : (0 : Int) < oth.length := by have := List.length_pos_iff.mpr z; omega
        rw [hhs, if_neg z]
        (simp only [sSeq, sIf, sB, sE, sAsg, sRet, sRetN, sNil, sExpr, sBrk, sCnt, gN, gT, gsC, gsN, FK.e1, FK.e2, eC, eVar, eCall, aNil, aCons, M.bind, M.pure, eTup, eLst, eNew, eSl, oNone, oSome, bT, bNot, bAnd, bOr, eAnd, eOr, eNot, eIf, eCh, truth, eMs, eMl, dSub, dMul, dFdiv, dMod, dLe, dLt, dGe, dGt, D.isNon, dSl, dInt, dOrd_one, dMax2, dMin2, dTuple, dList, dListC, dApp, dNeg, vw, seq, lstOf, fnD, List.map_cons, List.map_nil, List.length_cons, List.length_nil, List.cons_append, List.nil_append, List.append_nil, List.replicate_succ, List.replicate_zero, List.getElem?_cons_zero, List.getElem?_cons_succ, List.set_cons_zero, List.set_cons_succ, Int.cast_ofNat_Int, Nat.reduceBEq, Int.reduceBEq, Nat.reduceAdd, Nat.reduceSub, Nat.reduceLT, Nat.reduceLeDiff, Nat.zero_add, Nat.add_zero, Nat.sub_zero, Nat.sub_self, ↓reduceIte, if_true, if_false, Bool.not_true, Bool.not_false, Bool.false_eq_true, Bool.true_eq_false, decide_true, decide_false, decide_not, true_and, and_true, and_self, true_or, or_true, not_true_eq_false, not_false_eq_true, ne_eq, reduceCtorEq, Int.reduceLT, Int.reduceLE, Int.reduceNeg, Int.reduceSub, Int.reduceAdd, Int.reduceMul, Int.reducePow, Int.reduceToNat, sz, D.dat, D.datL, D.dep, D.depL, szl, inb, List.any_cons, List.any_nil, Bool.true_and, Bool.false_and, Bool.and_true, Bool.and_false, Bool.or_false, Bool.false_or, Bool.true_or, Bool.or_true, Nat.max_self, Nat.max_zero, Nat.zero_max, Nat.min_self, Nat.zero_le, Nat.min_zero, Nat.zero_min, iR1, iR2, rng1, rng2, iE, itOf, sFor, bYes, Option.isNone_some, Option.isSome_some, Option.isNone_none, Option.isSome_none, Option.some.injEq, dEq_int, dNe_int, dEq_II, dEq_OO, dEq_OI, dEq_IO, dEq_PP, dNe_PP, dIs_O, dIsnt_O, dIs_I, dIsnt_I, dIs_non, dIsnt_non, dIn_IT, dIn_IL, dIdx_tup, dIdx_lst, dIdx_scr, dAdd_int, atI0, atI1, atI2, atI3, atI4, atI5, vw_last, get_last, set_last, app_last, len_T, z2] <;> rfl)
    have a5 := atC 5 c5 [.lst (hs.map encHd)] q5
    have a6 := atC 6 c6 [.lst (hs.map encHd)] q6
    refine Good.seq (Good.nx (ρ := [some (scrD ns), some C, some (encT ids), some (encT oth), some (.ref 0), some (.int me), none, none, none, none, none, none, none, none, none, none, none]) (h := [.lst (hs.map encHd)]) (by (simp only [sSeq, sIf, sB, sE, sAsg, sRet, sRetN, sNil, sExpr, sBrk, sCnt, gN, gT, gsC, gsN, FK.e1, FK.e2, eC, eVar, eCall, aNil, aCons, M.bind, M.pure, eTup, eLst, eNew, eSl, oNone, oSome, bT, bNot, bAnd, bOr, eAnd, eOr, eNot, eIf, eCh, truth, eMs, eMl, dSub, dMul, dFdiv, dMod, dLe, dLt, dGe, dGt, D.isNon, dSl, dLen, dInt, dOrd_one, dMax2, dMin2, dTuple, dList, dListC, dApp, dNeg, vw, seq, lstOf, fnD, List.map_cons, List.map_nil, List.length_cons, List.length_nil, List.cons_append, List.nil_append, List.append_nil, List.replicate_succ, List.replicate_zero, List.getElem?_cons_zero, List.getElem?_cons_succ, List.set_cons_zero, List.set_cons_succ, Int.cast_ofNat_Int, Nat.reduceBEq, Int.reduceBEq, Nat.reduceAdd, Nat.reduceSub, Nat.reduceLT, Nat.reduceLeDiff, Nat.zero_add, Nat.add_zero, Nat.sub_zero, Nat.sub_self, ↓reduceIte, if_true, if_false, Bool.not_true, Bool.not_false, Bool.false_eq_true, Bool.true_eq_false, decide_true, decide_false, decide_not, true_and, and_true, and_self, true_or, or_true, not_true_eq_false, not_false_eq_true, ne_eq, reduceCtorEq, Int.reduceLT, Int.reduceLE, Int.reduceNeg, Int.reduceSub, Int.reduceAdd, Int.reduceMul, Int.reducePow, Int.reduceToNat, sz, D.dat, D.datL, D.dep, D.depL, szl, inb, List.any_cons, List.any_nil, Bool.true_and, Bool.false_and, Bool.and_true, Bool.and_false, Bool.or_false, Bool.false_or, Bool.true_or, Bool.or_true, Nat.max_self, Nat.max_zero, Nat.zero_max, Nat.min_self, Nat.zero_le, Nat.min_zero, Nat.zero_min, iR1, iR2, rng1, rng2, iE, itOf, sFor, bYes, Option.isNone_some, Option.isSome_some, Option.isNone_none, Option.isSome_none, Option.some.injEq, dEq_int, dNe_int, dEq_II, dEq_OO, dEq_OI, dEq_IO, dEq_PP, dNe_PP, dIs_O, dIsnt_O, dIs_I, dIsnt_I, dIs_non, dIsnt_non, dIn_IT, dIn_IL, dIdx_tup, dIdx_lst, dIdx_scr, dAdd_int, atI0, atI1, atI2, atI3, atI4, atI5, vw_last, get_last, set_last, app_last, a5, hme] <;> rfl)) ?_)
    have rm : mkO "Rule" (arrG [0, 1, 2, 3, 4, 5, 7, 6] 0 [.tup [], .tup [], .int 80, .bl true, .bl true, .bl true]) d_Rule_init [.bl b] [.lst (hs.map encHd)] = .ok (.ref 1) [.lst (hs.map encHd), .ins "Rule" rlNs (rlX b)] := by
      unfold mkO
      show (match d_Rule_init [.ref 1, .tup [], .tup [], .int 80, .bl true, .bl true, .bl b, .bl true] [.lst (hs.map encHd), .ins "Rule" [] []] with | .ok .non h' => R.ok (D.ref 1) h' | _ => .bad) = _
      rw [rule_mk']
    refine Good.seq (Good.nx (ρ := [some (scrD ns), some C, some (encT ids), some (encT oth), some (.ref 0), some (.int me), some (.ref 1), none, none, none, none, none, none, none, none, none, none]) (h := [.lst (hs.map encHd), .ins "Rule" rlNs (rlX b)]) (by (simp only [sSeq, sIf, sB, sE, sAsg, sRet, sRetN, sNil, sExpr, sBrk, sCnt, gN, gT, gsC, gsN, FK.e1, FK.e2, eC, eVar, eCall, aNil, aCons, M.bind, M.pure, eTup, eLst, eNew, eSl, oNone, oSome, bT, bNot, bAnd, bOr, eAnd, eOr, eNot, eIf, eCh, truth, eMs, eMl, dSub, dMul, dFdiv, dMod, dLe, dLt, dGe, dGt, D.isNon, dSl, dLen, dInt, dOrd_one, dMax2, dMin2, dTuple, dList, dListC, dApp, dNeg, vw, seq, lstOf, fnD, List.map_cons, List.map_nil, List.length_cons, List.length_nil, List.cons_append, List.nil_append, List.append_nil, List.replicate_succ, List.replicate_zero, List.getElem?_cons_zero, List.getElem?_cons_succ, List.set_cons_zero, List.set_cons_succ, Int.cast_ofNat_Int, Nat.reduceBEq, Int.reduceBEq, Nat.reduceAdd, Nat.reduceSub, Nat.reduceLT, Nat.reduceLeDiff, Nat.zero_add, Nat.add_zero, Nat.sub_zero, Nat.sub_self, ↓reduceIte, if_true, if_false, Bool.not_true, Bool.not_false, Bool.false_eq_true, Bool.true_eq_false, decide_true, decide_false, decide_not, true_and, and_true, and_self, true_or, or_true, not_true_eq_false, not_false_eq_true, ne_eq, reduceCtorEq, Int.reduceLT, Int.reduceLE, Int.reduceNeg, Int.reduceSub, Int.reduceAdd, Int.reduceMul, Int.reducePow, Int.reduceToNat, sz, D.dat, D.datL, D.dep, D.depL, szl, inb, List.any_cons, List.any_nil, Bool.true_and, Bool.false_and, Bool.and_true, Bool.and_false, Bool.or_false, Bool.false_or, Bool.true_or, Bool.or_true, Nat.max_self, Nat.max_zero, Nat.zero_max, Nat.min_self, Nat.zero_le, Nat.min_zero, Nat.zero_min, iR1, iR2, rng1, rng2, iE, itOf, sFor, bYes, Option.isNone_some, Option.isSome_some, Option.isNone_none, Option.isSome_none, Option.some.injEq, dEq_int, dNe_int, dEq_II, dEq_OO, dEq_OI, dEq_IO, dEq_PP, dNe_PP, dIs_O, dIsnt_O, dIs_I, dIsnt_I, dIs_non, dIsnt_non, dIn_IT, dIn_IL, dIdx_tup, dIdx_lst, dIdx_scr, dAdd_int, atI0, atI1, atI2, atI3, atI4, atI5, vw_last, get_last, set_last, app_last, a6, hb, rm] <;> rfl)) ?_)
    refine Good.seq (Good.nx s7 ?_)
    have pn : mkO "Placed" (fun s ds => s :: (ds ++ [])) d_Placed_init [.tup [.str "a"], .tup [.str "a"], .int 5, .int 1, .int 2, .tup [.int 1, .int 98, .int 98, .bl false], encT ids, encI i0, .bl true] [.lst (hs.map encHd), .ins "Rule" rlNs (rlX b), .ins "KeeperState" ksNs (ksX me (.ref 3)), .ins "Knowledge" knNs knX] = .ok (.ref 4) (hhS hs b me ids) := by
      have := placed_new [.lst (hs.map encHd), .ins "Rule" rlNs (rlX b), .ins "KeeperState" ksNs (ksX me (.ref 3)), .ins "Knowledge" knNs knX] (.tup [.str "a"]) (.tup [.str "a"]) (.int 5) (.int 1) (.int 2) (.tup [.int 1, .int 98, .int 98, .bl false]) (encT ids) (encI i0) (.bl true)
      rw [this]
      unfold hhS wasX
      rw [hz0]
      rfl
    simp only [List.append_nil] at pn
    refine Good.seq (Good.nx (ρ := [some (scrD ns), some C, some (encT ids), some (encT oth), some (.ref 0), some (.int me), some (.ref 1), some (.ref 2), some (.ref 4), none, none, none, none, none, none, none, none]) (h := hhS hs b me ids) (by (simp only [sSeq, sIf, sB, sE, sAsg, sRet, sRetN, sNil, sExpr, sBrk, sCnt, gN, gT, gsC, gsN, FK.e1, FK.e2, eC, eVar, eCall, aNil, aCons, M.bind, M.pure, eTup, eLst, eNew, eSl, oNone, oSome, bT, bNot, bAnd, bOr, eAnd, eOr, eNot, eIf, eCh, truth, eMs, eMl, dSub, dMul, dFdiv, dMod, dLe, dLt, dGe, dGt, D.isNon, dSl, dLen, dInt, dOrd_one, dMax2, dMin2, dTuple, dList, dListC, dApp, dNeg, vw, seq, lstOf, fnD, List.map_cons, List.map_nil, List.length_cons, List.length_nil, List.cons_append, List.nil_append, List.append_nil, List.replicate_succ, List.replicate_zero, List.getElem?_cons_zero, List.getElem?_cons_succ, List.set_cons_zero, List.set_cons_succ, Int.cast_ofNat_Int, Nat.reduceBEq, Int.reduceBEq, Nat.reduceAdd, Nat.reduceSub, Nat.reduceLT, Nat.reduceLeDiff, Nat.zero_add, Nat.add_zero, Nat.sub_zero, Nat.sub_self, ↓reduceIte, if_true, if_false, Bool.not_true, Bool.not_false, Bool.false_eq_true, Bool.true_eq_false, decide_true, decide_false, decide_not, true_and, and_true, and_self, true_or, or_true, not_true_eq_false, not_false_eq_true, ne_eq, reduceCtorEq, Int.reduceLT, Int.reduceLE, Int.reduceNeg, Int.reduceSub, Int.reduceAdd, Int.reduceMul, Int.reducePow, Int.reduceToNat, sz, D.dat, D.datL, D.dep, D.depL, szl, inb, List.any_cons, List.any_nil, Bool.true_and, Bool.false_and, Bool.and_true, Bool.and_false, Bool.or_false, Bool.false_or, Bool.true_or, Bool.or_true, Nat.max_self, Nat.max_zero, Nat.zero_max, Nat.min_self, Nat.zero_le, Nat.min_zero, Nat.zero_min, iR1, iR2, rng1, rng2, iE, itOf, sFor, bYes, Option.isNone_some, Option.isSome_some, Option.isNone_none, Option.isSome_none, Option.some.injEq, dEq_int, dNe_int, dEq_II, dEq_OO, dEq_OI, dEq_IO, dEq_PP, dNe_PP, dIs_O, dIsnt_O, dIs_I, dIsnt_I, dIs_non, dIsnt_non, dIn_IT, dIn_IL, dIdx_tup, dIdx_lst, dIdx_scr, dAdd_int, atI0, atI1, atI2, atI3, atI4, atI5, vw_last, get_last, set_last, app_last, x0, pn] <;> rfl)) ?_)
    have f5 : dFld ["Rule", "Placed"] "cuts" (.ref 1) (hhS hs b me ids) = .ok (.bl b) (hhS hs b me ids) := fld_get rfl memA rfl
    have a7 := atC 7 c7 (hhS hs b me ids) q7
    have a8 := atC 8 c8 (hhS hs b me ids) q8
    have a9 := atC 9 c9 (hhS hs b me ids) q9
    generalize hhS hs b me ids = HH at *
    refine Good.seq (Good.nx (ρ := [some (scrD ns), some C, some (encT ids), some (encT oth), some (.ref 0), some (.int me), some (.ref 1), some (.ref 2), some (.ref 4), some (.int t), none, none, none, none, none, none, none]) (h := HH) (by (simp only [sSeq, sIf, sB, sE, sAsg, sRet, sRetN, sNil, sExpr, sBrk, sCnt, gN, gT, gsC, gsN, FK.e1, FK.e2, eC, eVar, eCall, aNil, aCons, M.bind, M.pure, eTup, eLst, eNew, eSl, oNone, oSome, bT, bNot, bAnd, bOr, eAnd, eOr, eNot, eIf, eCh, truth, eMs, eMl, dSub, dMul, dFdiv, dMod, dLe, dLt, dGe, dGt, D.isNon, dSl, dLen, dInt, dOrd_one, dMax2, dMin2, dTuple, dList, dListC, dApp, dNeg, vw, seq, lstOf, fnD, List.map_cons, List.map_nil, List.length_cons, List.length_nil, List.cons_append, List.nil_append, List.append_nil, List.replicate_succ, List.replicate_zero, List.getElem?_cons_zero, List.getElem?_cons_succ, List.set_cons_zero, List.set_cons_succ, Int.cast_ofNat_Int, Nat.reduceBEq, Int.reduceBEq, Nat.reduceAdd, Nat.reduceSub, Nat.reduceLT, Nat.reduceLeDiff, Nat.zero_add, Nat.add_zero, Nat.sub_zero, Nat.sub_self, ↓reduceIte, if_true, if_false, Bool.not_true, Bool.not_false, Bool.false_eq_true, Bool.true_eq_false, decide_true, decide_false, decide_not, true_and, and_true, and_self, true_or, or_true, not_true_eq_false, not_false_eq_true, ne_eq, reduceCtorEq, Int.reduceLT, Int.reduceLE, Int.reduceNeg, Int.reduceSub, Int.reduceAdd, Int.reduceMul, Int.reducePow, Int.reduceToNat, sz, D.dat, D.datL, D.dep, D.depL, szl, inb, List.any_cons, List.any_nil, Bool.true_and, Bool.false_and, Bool.and_true, Bool.and_false, Bool.or_false, Bool.false_or, Bool.true_or, Bool.or_true, Nat.max_self, Nat.max_zero, Nat.zero_max, Nat.min_self, Nat.zero_le, Nat.min_zero, Nat.zero_min, iR1, iR2, rng1, rng2, iE, itOf, sFor, bYes, Option.isNone_some, Option.isSome_some, Option.isNone_none, Option.isSome_none, Option.some.injEq, dEq_int, dNe_int, dEq_II, dEq_OO, dEq_OI, dEq_IO, dEq_PP, dNe_PP, dIs_O, dIsnt_O, dIs_I, dIsnt_I, dIs_non, dIsnt_non, dIn_IT, dIn_IL, dIdx_tup, dIdx_lst, dIdx_scr, dAdd_int, atI0, atI1, atI2, atI3, atI4, atI5, vw_last, get_last, set_last, app_last, a7, ht] <;> rfl)) ?_)
    refine Good.seq (Good.nx (ρ := [some (scrD ns), some C, some (encT ids), some (encT oth), some (.ref 0), some (.int me), some (.ref 1), some (.ref 2), some (.ref 4), some (.int t), some (.int u), none, none, none, none, none, none]) (h := HH) (by (simp only [sSeq, sIf, sB, sE, sAsg, sRet, sRetN, sNil, sExpr, sBrk, sCnt, gN, gT, gsC, gsN, FK.e1, FK.e2, eC, eVar, eCall, aNil, aCons, M.bind, M.pure, eTup, eLst, eNew, eSl, oNone, oSome, bT, bNot, bAnd, bOr, eAnd, eOr, eNot, eIf, eCh, truth, eMs, eMl, dSub, dMul, dFdiv, dMod, dLe, dLt, dGe, dGt, D.isNon, dSl, dLen, dInt, dOrd_one, dMax2, dMin2, dTuple, dList, dListC, dApp, dNeg, vw, seq, lstOf, fnD, List.map_cons, List.map_nil, List.length_cons, List.length_nil, List.cons_append, List.nil_append, List.append_nil, List.replicate_succ, List.replicate_zero, List.getElem?_cons_zero, List.getElem?_cons_succ, List.set_cons_zero, List.set_cons_succ, Int.cast_ofNat_Int, Nat.reduceBEq, Int.reduceBEq, Nat.reduceAdd, Nat.reduceSub, Nat.reduceLT, Nat.reduceLeDiff, Nat.zero_add, Nat.add_zero, Nat.sub_zero, Nat.sub_self, ↓reduceIte, if_true, if_false, Bool.not_true, Bool.not_false, Bool.false_eq_true, Bool.true_eq_false, decide_true, decide_false, decide_not, true_and, and_true, and_self, true_or, or_true, not_true_eq_false, not_false_eq_true, ne_eq, reduceCtorEq, Int.reduceLT, Int.reduceLE, Int.reduceNeg, Int.reduceSub, Int.reduceAdd, Int.reduceMul, Int.reducePow, Int.reduceToNat, sz, D.dat, D.datL, D.dep, D.depL, szl, inb, List.any_cons, List.any_nil, Bool.true_and, Bool.false_and, Bool.and_true, Bool.and_false, Bool.or_false, Bool.false_or, Bool.true_or, Bool.or_true, Nat.max_self, Nat.max_zero, Nat.zero_max, Nat.min_self, Nat.zero_le, Nat.min_zero, Nat.zero_min, iR1, iR2, rng1, rng2, iE, itOf, sFor, bYes, Option.isNone_some, Option.isSome_some, Option.isNone_none, Option.isSome_none, Option.some.injEq, dEq_int, dNe_int, dEq_II, dEq_OO, dEq_OI, dEq_IO, dEq_PP, dNe_PP, dIs_O, dIsnt_O, dIs_I, dIsnt_I, dIs_non, dIsnt_non, dIn_IT, dIn_IL, dIdx_tup, dIdx_lst, dIdx_scr, dAdd_int, atI0, atI1, atI2, atI3, atI4, atI5, vw_last, get_last, set_last, app_last, a8, hu] <;> rfl)) ?_)
    refine Good.seq (Good.nx (ρ := [some (scrD ns), some C, some (encT ids), some (encT oth), some (.ref 0), some (.int me), some (.ref 1), some (.ref 2), some (.ref 4), some (.int t), some (.int u), some (.bl rd), none, none, none, none, none]) (h := HH) (by (simp only [sSeq, sIf, sB, sE, sAsg, sRet, sRetN, sNil, sExpr, sBrk, sCnt, gN, gT, gsC, gsN, FK.e1, FK.e2, eC, eVar, eCall, aNil, aCons, M.bind, M.pure, eTup, eLst, eNew, eSl, oNone, oSome, bT, bNot, bAnd, bOr, eAnd, eOr, eNot, eIf, eCh, truth, eMs, eMl, dSub, dMul, dFdiv, dMod, dLe, dLt, dGe, dGt, D.isNon, dSl, dLen, dInt, dOrd_one, dMax2, dMin2, dTuple, dList, dListC, dApp, dNeg, vw, seq, lstOf, fnD, List.map_cons, List.map_nil, List.length_cons, List.length_nil, List.cons_append, List.nil_append, List.append_nil, List.replicate_succ, List.replicate_zero, List.getElem?_cons_zero, List.getElem?_cons_succ, List.set_cons_zero, List.set_cons_succ, Int.cast_ofNat_Int, Nat.reduceBEq, Int.reduceBEq, Nat.reduceAdd, Nat.reduceSub, Nat.reduceLT, Nat.reduceLeDiff, Nat.zero_add, Nat.add_zero, Nat.sub_zero, Nat.sub_self, ↓reduceIte, if_true, if_false, Bool.not_true, Bool.not_false, Bool.false_eq_true, Bool.true_eq_false, decide_true, decide_false, decide_not, true_and, and_true, and_self, true_or, or_true, not_true_eq_false, not_false_eq_true, ne_eq, reduceCtorEq, Int.reduceLT, Int.reduceLE, Int.reduceNeg, Int.reduceSub, Int.reduceAdd, Int.reduceMul, Int.reducePow, Int.reduceToNat, sz, D.dat, D.datL, D.dep, D.depL, szl, inb, List.any_cons, List.any_nil, Bool.true_and, Bool.false_and, Bool.and_true, Bool.and_false, Bool.or_false, Bool.false_or, Bool.true_or, Bool.or_true, Nat.max_self, Nat.max_zero, Nat.zero_max, Nat.min_self, Nat.zero_le, Nat.min_zero, Nat.zero_min, iR1, iR2, rng1, rng2, iE, itOf, sFor, bYes, Option.isNone_some, Option.isSome_some, Option.isNone_none, Option.isSome_none, Option.some.injEq, dEq_int, dNe_int, dEq_II, dEq_OO, dEq_OI, dEq_IO, dEq_PP, dNe_PP, dIs_O, dIsnt_O, dIs_I, dIsnt_I, dIs_non, dIsnt_non, dIn_IT, dIn_IL, dIdx_tup, dIdx_lst, dIdx_scr, dAdd_int, atI0, atI1, atI2, atI3, atI4, atI5, vw_last, get_last, set_last, app_last, a9, hrd] <;> rfl)) ?_)
    have lo := eLc_fm (en := encI) (fun i => decide (i.2 = me)) encI (it := iE (eVar 2)) (g := gN 16) (b := (bT (FK.e2 dEq (FK.e2 dIdx (eVar 16) (eC (.int 1))) (eVar 5)))) (f := eVar 16) (vs := [16]) (ρ := [some (scrD ns), some C, some (encT ids), some (encT oth), some (.ref 0), some (.int me), some (.ref 1), some (.ref 2), some (.ref 4), some (.int t), some (.int u), some (.bl rd), none, none, none, none, none]) (h := HH) (o := none) (xs := ids) rfl trivial hil (fun i hi => ⟨_, wipe_gN, by (simp only [sSeq, sIf, sB, sE, sAsg, sRet, sRetN, sNil, sExpr, sBrk, sCnt, gN, gT, gsC, gsN, FK.e1, FK.e2, eC, eVar, eCall, aNil, aCons, M.bind, M.pure, eTup, eLst, eNew, eSl, oNone, oSome, bT, bNot, bAnd, bOr, eAnd, eOr, eNot, eIf, eCh, truth, eMs, eMl, dSub, dMul, dFdiv, dMod, dLe, dLt, dGe, dGt, D.isNon, dSl, dLen, dInt, dOrd_one, dMax2, dMin2, dTuple, dList, dListC, dApp, dNeg, vw, seq, lstOf, fnD, List.map_cons, List.map_nil, List.length_cons, List.length_nil, List.cons_append, List.nil_append, List.append_nil, List.replicate_succ, List.replicate_zero, List.getElem?_cons_zero, List.getElem?_cons_succ, List.set_cons_zero, List.set_cons_succ, Int.cast_ofNat_Int, Nat.reduceBEq, Int.reduceBEq, Nat.reduceAdd, Nat.reduceSub, Nat.reduceLT, Nat.reduceLeDiff, Nat.zero_add, Nat.add_zero, Nat.sub_zero, Nat.sub_self, ↓reduceIte, if_true, if_false, Bool.not_true, Bool.not_false, Bool.false_eq_true, Bool.true_eq_false, decide_true, decide_false, decide_not, true_and, and_true, and_self, true_or, or_true, not_true_eq_false, not_false_eq_true, ne_eq, reduceCtorEq, Int.reduceLT, Int.reduceLE, Int.reduceNeg, Int.reduceSub, Int.reduceAdd, Int.reduceMul, Int.reducePow, Int.reduceToNat, sz, D.dat, D.datL, D.dep, D.depL, szl, inb, List.any_cons, List.any_nil, Bool.true_and, Bool.false_and, Bool.and_true, Bool.and_false, Bool.or_false, Bool.false_or, Bool.true_or, Bool.or_true, Nat.max_self, Nat.max_zero, Nat.zero_max, Nat.min_self, Nat.zero_le, Nat.min_zero, Nat.zero_min, iR1, iR2, rng1, rng2, iE, itOf, sFor, bYes, Option.isNone_some, Option.isSome_some, Option.isNone_none, Option.isSome_none, Option.some.injEq, dEq_int, dNe_int, dEq_II, dEq_OO, dEq_OI, dEq_IO, dEq_PP, dNe_PP, dIs_O, dIsnt_O, dIs_I, dIsnt_I, dIs_non, dIsnt_non, dIn_IT, dIn_IL, dIdx_tup, dIdx_lst, dIdx_scr, dAdd_int, atI0, atI1, atI2, atI3, atI4, atI5, vw_last, get_last, set_last, app_last, encI] <;> rfl), fun _ => rfl⟩)
    refine Good.seq (Good.nx (ρ := [some (scrD ns), some C, some (encT ids), some (encT oth), some (.ref 0), some (.int me), some (.ref 1), some (.ref 2), some (.ref 4), some (.int t), some (.int u), some (.bl rd), some (.lst ((ids.filter fun i => decide (i.2 = me)).map encI)), none, none, none, none]) (h := HH) (sAsg_eq lo) ?_)
    refine Good.seq (Good.nx (ρ := [some (scrD ns), some C, some (encT ids), some (encT oth), some (.ref 0), some (.int me), some (.ref 1), some (.ref 2), some (.ref 4), some (.int t), some (.int u), some (.bl rd), some (.lst ((ids.filter fun i => decide (i.2 = me)).map encI)), some (.bl (sameB t u b)), none, none, none]) (h := HH) ?_ ?_)
    · unfold sameB
      by_cases z : t = 5
      · cases b with
        | true => (simp only [sSeq, sIf, sB, sE, sAsg, sRet, sRetN, sNil, sExpr, sBrk, sCnt, gN, gT, gsC, gsN, FK.e1, FK.e2, eC, eVar, eCall, aNil, aCons, M.bind, M.pure, eTup, eLst, eNew, eSl, oNone, oSome, bT, bNot, bAnd, bOr, eAnd, eOr, eNot, eIf, eCh, truth, eMs, eMl, dSub, dMul, dFdiv, dMod, dLe, dLt, dGe, dGt, D.isNon, dSl, dLen, dInt, dOrd_one, dMax2, dMin2, dTuple, dList, dListC, dApp, dNeg, vw, seq, lstOf, fnD, List.map_cons, List.map_nil, List.length_cons, List.length_nil, List.cons_append, List.nil_append, List.append_nil, List.replicate_succ, List.replicate_zero, List.getElem?_cons_zero, List.getElem?_cons_succ, List.set_cons_zero, List.set_cons_succ, Int.cast_ofNat_Int, Nat.reduceBEq, Int.reduceBEq, Nat.reduceAdd, Nat.reduceSub, Nat.reduceLT, Nat.reduceLeDiff, Nat.zero_add, Nat.add_zero, Nat.sub_zero, Nat.sub_self, ↓reduceIte, if_true, if_false, Bool.not_true, Bool.not_false, Bool.false_eq_true, Bool.true_eq_false, decide_true, decide_false, decide_not, true_and, and_true, and_self, true_or, or_true, not_true_eq_false, not_false_eq_true, ne_eq, reduceCtorEq, Int.reduceLT, Int.reduceLE, Int.reduceNeg, Int.reduceSub, Int.reduceAdd, Int.reduceMul, Int.reducePow, Int.reduceToNat, sz, D.dat, D.datL, D.dep, D.depL, szl, inb, List.any_cons, List.any_nil, Bool.true_and, Bool.false_and, Bool.and_true, Bool.and_false, Bool.or_false, Bool.false_or, Bool.true_or, Bool.or_true, Nat.max_self, Nat.max_zero, Nat.zero_max, Nat.min_self, Nat.zero_le, Nat.min_zero, Nat.zero_min, iR1, iR2, rng1, rng2, iE, itOf, sFor, bYes, Option.isNone_some, Option.isSome_some, Option.isNone_none, Option.isSome_none, Option.some.injEq, dEq_int, dNe_int, dEq_II, dEq_OO, dEq_OI, dEq_IO, dEq_PP, dNe_PP, dIs_O, dIsnt_O, dIs_I, dIsnt_I, dIs_non, dIsnt_non, dIn_IT, dIn_IL, dIdx_tup, dIdx_lst, dIdx_scr, dAdd_int, atI0, atI1, atI2, atI3, atI4, atI5, vw_last, get_last, set_last, app_last, f5, z] <;> rfl)
        | false => (simp only [sSeq, sIf, sB, sE, sAsg, sRet, sRetN, sNil, sExpr, sBrk, sCnt, gN, gT, gsC, gsN, FK.e1, FK.e2, eC, eVar, eCall, aNil, aCons, M.bind, M.pure, eTup, eLst, eNew, eSl, oNone, oSome, bT, bNot, bAnd, bOr, eAnd, eOr, eNot, eIf, eCh, truth, eMs, eMl, dSub, dMul, dFdiv, dMod, dLe, dLt, dGe, dGt, D.isNon, dSl, dLen, dInt, dOrd_one, dMax2, dMin2, dTuple, dList, dListC, dApp, dNeg, vw, seq, lstOf, fnD, List.map_cons, List.map_nil, List.length_cons, List.length_nil, List.cons_append, List.nil_append, List.append_nil, List.replicate_succ, List.replicate_zero, List.getElem?_cons_zero, List.getElem?_cons_succ, List.set_cons_zero, List.set_cons_succ, Int.cast_ofNat_Int, Nat.reduceBEq, Int.reduceBEq, Nat.reduceAdd, Nat.reduceSub, Nat.reduceLT, Nat.reduceLeDiff, Nat.zero_add, Nat.add_zero, Nat.sub_zero, Nat.sub_self, ↓reduceIte, if_true, if_false, Bool.not_true, Bool.not_false, Bool.false_eq_true, Bool.true_eq_false, decide_true, decide_false, decide_not, true_and, and_true, and_self, true_or, or_true, not_true_eq_false, not_false_eq_true, ne_eq, reduceCtorEq, Int.reduceLT, Int.reduceLE, Int.reduceNeg, Int.reduceSub, Int.reduceAdd, Int.reduceMul, Int.reducePow, Int.reduceToNat, sz, D.dat, D.datL, D.dep, D.depL, szl, inb, List.any_cons, List.any_nil, Bool.true_and, Bool.false_and, Bool.and_true, Bool.and_false, Bool.or_false, Bool.false_or, Bool.true_or, Bool.or_true, Nat.max_self, Nat.max_zero, Nat.zero_max, Nat.min_self, Nat.zero_le, Nat.min_zero, Nat.zero_min, iR1, iR2, rng1, rng2, iE, itOf, sFor, bYes, Option.isNone_some, Option.isSome_some, Option.isNone_none, Option.isSome_none, Option.some.injEq, dEq_int, dNe_int, dEq_II, dEq_OO, dEq_OI, dEq_IO, dEq_PP, dNe_PP, dIs_O, dIsnt_O, dIs_I, dIsnt_I, dIs_non, dIsnt_non, dIn_IT, dIn_IL, dIdx_tup, dIdx_lst, dIdx_scr, dAdd_int, atI0, atI1, atI2, atI3, atI4, atI5, vw_last, get_last, set_last, app_last, f5, z] <;> rfl)
      · (simp only [sSeq, sIf, sB, sE, sAsg, sRet, sRetN, sNil, sExpr, sBrk, sCnt, gN, gT, gsC, gsN, FK.e1, FK.e2, eC, eVar, eCall, aNil, aCons, M.bind, M.pure, eTup, eLst, eNew, eSl, oNone, oSome, bT, bNot, bAnd, bOr, eAnd, eOr, eNot, eIf, eCh, truth, eMs, eMl, dSub, dMul, dFdiv, dMod, dLe, dLt, dGe, dGt, D.isNon, dSl, dLen, dInt, dOrd_one, dMax2, dMin2, dTuple, dList, dListC, dApp, dNeg, vw, seq, lstOf, fnD, List.map_cons, List.map_nil, List.length_cons, List.length_nil, List.cons_append, List.nil_append, List.append_nil, List.replicate_succ, List.replicate_zero, List.getElem?_cons_zero, List.getElem?_cons_succ, List.set_cons_zero, List.set_cons_succ, Int.cast_ofNat_Int, Nat.reduceBEq, Int.reduceBEq, Nat.reduceAdd, Nat.reduceSub, Nat.reduceLT, Nat.reduceLeDiff, Nat.zero_add, Nat.add_zero, Nat.sub_zero, Nat.sub_self, ↓reduceIte, if_true, if_false, Bool.not_true, Bool.not_false, Bool.false_eq_true, Bool.true_eq_false, decide_true, decide_false, decide_not, true_and, and_true, and_self, true_or, or_true, not_true_eq_false, not_false_eq_true, ne_eq, reduceCtorEq, Int.reduceLT, Int.reduceLE, Int.reduceNeg, Int.reduceSub, Int.reduceAdd, Int.reduceMul, Int.reducePow, Int.reduceToNat, sz, D.dat, D.datL, D.dep, D.depL, szl, inb, List.any_cons, List.any_nil, Bool.true_and, Bool.false_and, Bool.and_true, Bool.and_false, Bool.or_false, Bool.false_or, Bool.true_or, Bool.or_true, Nat.max_self, Nat.max_zero, Nat.zero_max, Nat.min_self, Nat.zero_le, Nat.min_zero, Nat.zero_min, iR1, iR2, rng1, rng2, iE, itOf, sFor, bYes, Option.isNone_some, Option.isSome_some, Option.isNone_none, Option.isSome_none, Option.some.injEq, dEq_int, dNe_int, dEq_II, dEq_OO, dEq_OI, dEq_IO, dEq_PP, dNe_PP, dIs_O, dIsnt_O, dIs_I, dIsnt_I, dIs_non, dIsnt_non, dIn_IT, dIn_IL, dIdx_tup, dIdx_lst, dIdx_scr, dAdd_int, atI0, atI1, atI2, atI3, atI4, atI5, vw_last, get_last, set_last, app_last, z] <;> rfl)
    refine Good.seq (Good.nx (ρ := [some (scrD ns), some C, some (encT ids), some (encT oth), some (.ref 0), some (.int me), some (.ref 1), some (.ref 2), some (.ref 4), some (.int t), some (.int u), some (.bl rd), some (.lst ((ids.filter fun i => decide (i.2 = me)).map encI)), some (.bl (sameB t u b)), some (encT oth), none, none]) (h := HH) rfl ?_)
    obtain ⟨ex, hex⟩ : ∃ ex, ex = (if sameB t u b = true ∨ rd = true ∨ oth = ids ∨ ids.any (fun i => decide (i.2 = me)) = true then ids else oth) := ⟨_, rfl⟩
    rw [← hex] at rp
    refine Good.seq (Good.nx (ρ := [some (scrD ns), some C, some (encT ids), some (encT oth), some (.ref 0), some (.int me), some (.ref 1), some (.ref 2), some (.ref 4), some (.int t), some (.int u), some (.bl rd), some (.lst ((ids.filter fun i => decide (i.2 = me)).map encI)), some (.bl (sameB t u b)), some (encT ex), none, none]) (h := HH) ?_ ?_)
    · have own : decide ((0 : Int) < ((ids.filter fun i => decide (i.2 = me)).map encI).length) = ids.any (fun i => decide (i.2 = me)) := by
        rw [List.length_map, Bool.eq_iff_iff, decide_eq_true_eq, List.any_eq_true]
        constructor
        · intro z
          have z : 0 < (ids.filter fun i => decide (i.2 = me)).length := by omega
          obtain ⟨x, hx⟩ := List.exists_mem_of_length_pos z
          have := List.mem_filter.mp hx
          exact ⟨x, this.1, this.2⟩
        · rintro ⟨x, h1, h2⟩
          have := List.length_pos_of_mem (List.mem_filter (p := fun i : Id => decide (i.2 = me)) |>.mpr ⟨h1, h2⟩)
          omega
      generalize hF : (ids.filter fun i => decide (i.2 = me)).map encI = F at *
      cases hs1 : sameB t u b with
      | true => rw [hex, if_pos (.inl hs1)]; (simp only [sSeq, sIf, sB, sE, sAsg, sRet, sRetN, sNil, sExpr, sBrk, sCnt, gN, gT, gsC, gsN, FK.e1, FK.e2, eC, eVar, eCall, aNil, aCons, M.bind, M.pure, eTup, eLst, eNew, eSl, oNone, oSome, bT, bNot, bAnd, bOr, eAnd, eOr, eNot, eIf, eCh, truth, eMs, eMl, dSub, dMul, dFdiv, dMod, dLe, dLt, dGe, dGt, D.isNon, dSl, dLen, dInt, dOrd_one, dMax2, dMin2, dTuple, dList, dListC, dApp, dNeg, vw, seq, lstOf, fnD, List.map_cons, List.map_nil, List.length_cons, List.length_nil, List.cons_append, List.nil_append, List.append_nil, List.replicate_succ, List.replicate_zero, List.getElem?_cons_zero, List.getElem?_cons_succ, List.set_cons_zero, List.set_cons_succ, Int.cast_ofNat_Int, Nat.reduceBEq, Int.reduceBEq, Nat.reduceAdd, Nat.reduceSub, Nat.reduceLT, Nat.reduceLeDiff, Nat.zero_add, Nat.add_zero, Nat.sub_zero, Nat.sub_self, ↓reduceIte, if_true, if_false, Bool.not_true, Bool.not_false, Bool.false_eq_true, Bool.true_eq_false, decide_true, decide_false, decide_not, true_and, and_true, and_self, true_or, or_true, not_true_eq_false, not_false_eq_true, ne_eq, reduceCtorEq, Int.reduceLT, Int.reduceLE, Int.reduceNeg, Int.reduceSub, Int.reduceAdd, Int.reduceMul, Int.reducePow, Int.reduceToNat, sz, D.dat, D.datL, D.dep, D.depL, szl, inb, List.any_cons, List.any_nil, Bool.true_and, Bool.false_and, Bool.and_true, Bool.and_false, Bool.or_false, Bool.false_or, Bool.true_or, Bool.or_true, Nat.max_self, Nat.max_zero, Nat.zero_max, Nat.min_self, Nat.zero_le, Nat.min_zero, Nat.zero_min, iR1, iR2, rng1, rng2, iE, itOf, sFor, bYes, Option.isNone_some, Option.isSome_some, Option.isNone_none, Option.isSome_none, Option.some.injEq, dEq_int, dNe_int, dEq_II, dEq_OO, dEq_OI, dEq_IO, dEq_PP, dNe_PP, dIs_O, dIsnt_O, dIs_I, dIsnt_I, dIs_non, dIsnt_non, dIn_IT, dIn_IL, dIdx_tup, dIdx_lst, dIdx_scr, dAdd_int, atI0, atI1, atI2, atI3, atI4, atI5, vw_last, get_last, set_last, app_last] <;> rfl)
      | false =>
        cases rd with
        | true => rw [hex, if_pos (.inr (.inl rfl))]; (simp only [sSeq, sIf, sB, sE, sAsg, sRet, sRetN, sNil, sExpr, sBrk, sCnt, gN, gT, gsC, gsN, FK.e1, FK.e2, eC, eVar, eCall, aNil, aCons, M.bind, M.pure, eTup, eLst, eNew, eSl, oNone, oSome, bT, bNot, bAnd, bOr, eAnd, eOr, eNot, eIf, eCh, truth, eMs, eMl, dSub, dMul, dFdiv, dMod, dLe, dLt, dGe, dGt, D.isNon, dSl, dLen, dInt, dOrd_one, dMax2, dMin2, dTuple, dList, dListC, dApp, dNeg, vw, seq, lstOf, fnD, List.map_cons, List.map_nil, List.length_cons, List.length_nil, List.cons_append, List.nil_append, List.append_nil, List.replicate_succ, List.replicate_zero, List.getElem?_cons_zero, List.getElem?_cons_succ, List.set_cons_zero, List.set_cons_succ, Int.cast_ofNat_Int, Nat.reduceBEq, Int.reduceBEq, Nat.reduceAdd, Nat.reduceSub, Nat.reduceLT, Nat.reduceLeDiff, Nat.zero_add, Nat.add_zero, Nat.sub_zero, Nat.sub_self, ↓reduceIte, if_true, if_false, Bool.not_true, Bool.not_false, Bool.false_eq_true, Bool.true_eq_false, decide_true, decide_false, decide_not, true_and, and_true, and_self, true_or, or_true, not_true_eq_false, not_false_eq_true, ne_eq, reduceCtorEq, Int.reduceLT, Int.reduceLE, Int.reduceNeg, Int.reduceSub, Int.reduceAdd, Int.reduceMul, Int.reducePow, Int.reduceToNat, sz, D.dat, D.datL, D.dep, D.depL, szl, inb, List.any_cons, List.any_nil, Bool.true_and, Bool.false_and, Bool.and_true, Bool.and_false, Bool.or_false, Bool.false_or, Bool.true_or, Bool.or_true, Nat.max_self, Nat.max_zero, Nat.zero_max, Nat.min_self, Nat.zero_le, Nat.min_zero, Nat.zero_min, iR1, iR2, rng1, rng2, iE, itOf, sFor, bYes, Option.isNone_some, Option.isSome_some, Option.isNone_none, Option.isSome_none, Option.some.injEq, dEq_int, dNe_int, dEq_II, dEq_OO, dEq_OI, dEq_IO, dEq_PP, dNe_PP, dIs_O, dIsnt_O, dIs_I, dIsnt_I, dIs_non, dIsnt_non, dIn_IT, dIn_IL, dIdx_tup, dIdx_lst, dIdx_scr, dAdd_int, atI0, atI1, atI2, atI3, atI4, atI5, vw_last, get_last, set_last, app_last] <;> rfl)
        | false =>
          by_cases z : oth = ids
          · rw [hex, if_pos (.inr (.inr (.inl z)))]
            (simp only [sSeq, sIf, sB, sE, sAsg, sRet, sRetN, sNil, sExpr, sBrk, sCnt, gN, gT, gsC, gsN, FK.e1, FK.e2, eC, eVar, eCall, aNil, aCons, M.bind, M.pure, eTup, eLst, eNew, eSl, oNone, oSome, bT, bNot, bAnd, bOr, eAnd, eOr, eNot, eIf, eCh, truth, eMs, eMl, dSub, dMul, dFdiv, dMod, dLe, dLt, dGe, dGt, D.isNon, dSl, dLen, dInt, dOrd_one, dMax2, dMin2, dTuple, dList, dListC, dApp, dNeg, vw, seq, lstOf, fnD, List.map_cons, List.map_nil, List.length_cons, List.length_nil, List.cons_append, List.nil_append, List.append_nil, List.replicate_succ, List.replicate_zero, List.getElem?_cons_zero, List.getElem?_cons_succ, List.set_cons_zero, List.set_cons_succ, Int.cast_ofNat_Int, Nat.reduceBEq, Int.reduceBEq, Nat.reduceAdd, Nat.reduceSub, Nat.reduceLT, Nat.reduceLeDiff, Nat.zero_add, Nat.add_zero, Nat.sub_zero, Nat.sub_self, ↓reduceIte, if_true, if_false, Bool.not_true, Bool.not_false, Bool.false_eq_true, Bool.true_eq_false, decide_true, decide_false, decide_not, true_and, and_true, and_self, true_or, or_true, not_true_eq_false, not_false_eq_true, ne_eq, reduceCtorEq, Int.reduceLT, Int.reduceLE, Int.reduceNeg, Int.reduceSub, Int.reduceAdd, Int.reduceMul, Int.reducePow, Int.reduceToNat, sz, D.dat, D.datL, D.dep, D.depL, szl, inb, List.any_cons, List.any_nil, Bool.true_and, Bool.false_and, Bool.and_true, Bool.and_false, Bool.or_false, Bool.false_or, Bool.true_or, Bool.or_true, Nat.max_self, Nat.max_zero, Nat.zero_max, Nat.min_self, Nat.zero_le, Nat.min_zero, Nat.zero_min, iR1, iR2, rng1, rng2, iE, itOf, sFor, bYes, Option.isNone_some, Option.isSome_some, Option.isNone_none, Option.isSome_none, Option.some.injEq, dEq_int, dNe_int, dEq_II, dEq_OO, dEq_OI, dEq_IO, dEq_PP, dNe_PP, dIs_O, dIsnt_O, dIs_I, dIsnt_I, dIs_non, dIsnt_non, dIn_IT, dIn_IL, dIdx_tup, dIdx_lst, dIdx_scr, dAdd_int, atI0, atI1, atI2, atI3, atI4, atI5, vw_last, get_last, set_last, app_last, dEq_TT, z] <;> rfl)
          · cases ha : ids.any (fun i => decide (i.2 = me)) with
            | true =>
              rw [ha, decide_eq_true_eq] at own
              rw [hex, if_pos (.inr (.inr (.inr ha)))]
              (simp only [sSeq, sIf, sB, sE, sAsg, sRet, sRetN, sNil, sExpr, sBrk, sCnt, gN, gT, gsC, gsN, FK.e1, FK.e2, eC, eVar, eCall, aNil, aCons, M.bind, M.pure, eTup, eLst, eNew, eSl, oNone, oSome, bT, bNot, bAnd, bOr, eAnd, eOr, eNot, eIf, eCh, truth, eMs, eMl, dSub, dMul, dFdiv, dMod, dLe, dLt, dGe, dGt, D.isNon, dSl, dLen, dInt, dOrd_one, dMax2, dMin2, dTuple, dList, dListC, dApp, dNeg, vw, seq, lstOf, fnD, List.map_cons, List.map_nil, List.length_cons, List.length_nil, List.cons_append, List.nil_append, List.append_nil, List.replicate_succ, List.replicate_zero, List.getElem?_cons_zero, List.getElem?_cons_succ, List.set_cons_zero, List.set_cons_succ, Int.cast_ofNat_Int, Nat.reduceBEq, Int.reduceBEq, Nat.reduceAdd, Nat.reduceSub, Nat.reduceLT, Nat.reduceLeDiff, Nat.zero_add, Nat.add_zero, Nat.sub_zero, Nat.sub_self, ↓reduceIte, if_true, if_false, Bool.not_true, Bool.not_false, Bool.false_eq_true, Bool.true_eq_false, decide_true, decide_false, decide_not, true_and, and_true, and_self, true_or, or_true, not_true_eq_false, not_false_eq_true, ne_eq, reduceCtorEq, Int.reduceLT, Int.reduceLE, Int.reduceNeg, Int.reduceSub, Int.reduceAdd, Int.reduceMul, Int.reducePow, Int.reduceToNat, sz, D.dat, D.datL, D.dep, D.depL, szl, inb, List.any_cons, List.any_nil, Bool.true_and, Bool.false_and, Bool.and_true, Bool.and_false, Bool.or_false, Bool.false_or, Bool.true_or, Bool.or_true, Nat.max_self, Nat.max_zero, Nat.zero_max, Nat.min_self, Nat.zero_le, Nat.min_zero, Nat.zero_min, iR1, iR2, rng1, rng2, iE, itOf, sFor, bYes, Option.isNone_some, Option.isSome_some, Option.isNone_none, Option.isSome_none, Option.some.injEq, dEq_int, dNe_int, dEq_II, dEq_OO, dEq_OI, dEq_IO, dEq_PP, dNe_PP, dIs_O, dIsnt_O, dIs_I, dIsnt_I, dIs_non, dIsnt_non, dIn_IT, dIn_IL, dIdx_tup, dIdx_lst, dIdx_scr, dAdd_int, atI0, atI1, atI2, atI3, atI4, atI5, vw_last, get_last, set_last, app_last, dEq_TT, z, own] <;> rfl)
            | false =>
              rw [ha, decide_eq_false_iff_not] at own
              rw [hex, if_neg (by rw [hs1, ha]; rintro (q | q | q | q) <;> first | (cases q; done) | exact z q)]
              (simp only [sSeq, sIf, sB, sE, sAsg, sRet, sRetN, sNil, sExpr, sBrk, sCnt, gN, gT, gsC, gsN, FK.e1, FK.e2, eC, eVar, eCall, aNil, aCons, M.bind, M.pure, eTup, eLst, eNew, eSl, oNone, oSome, bT, bNot, bAnd, bOr, eAnd, eOr, eNot, eIf, eCh, truth, eMs, eMl, dSub, dMul, dFdiv, dMod, dLe, dLt, dGe, dGt, D.isNon, dSl, dLen, dInt, dOrd_one, dMax2, dMin2, dTuple, dList, dListC, dApp, dNeg, vw, seq, lstOf, fnD, List.map_cons, List.map_nil, List.length_cons, List.length_nil, List.cons_append, List.nil_append, List.append_nil, List.replicate_succ, List.replicate_zero, List.getElem?_cons_zero, List.getElem?_cons_succ, List.set_cons_zero, List.set_cons_succ, Int.cast_ofNat_Int, Nat.reduceBEq, Int.reduceBEq, Nat.reduceAdd, Nat.reduceSub, Nat.reduceLT, Nat.reduceLeDiff, Nat.zero_add, Nat.add_zero, Nat.sub_zero, Nat.sub_self, ↓reduceIte, if_true, if_false, Bool.not_true, Bool.not_false, Bool.false_eq_true, Bool.true_eq_false, decide_true, decide_false, decide_not, true_and, and_true, and_self, true_or, or_true, not_true_eq_false, not_false_eq_true, ne_eq, reduceCtorEq, Int.reduceLT, Int.reduceLE, Int.reduceNeg, Int.reduceSub, Int.reduceAdd, Int.reduceMul, Int.reducePow, Int.reduceToNat, sz, D.dat, D.datL, D.dep, D.depL, szl, inb, List.any_cons, List.any_nil, Bool.true_and, Bool.false_and, Bool.and_true, Bool.and_false, Bool.or_false, Bool.false_or, Bool.true_or, Bool.or_true, Nat.max_self, Nat.max_zero, Nat.zero_max, Nat.min_self, Nat.zero_le, Nat.min_zero, Nat.zero_min, iR1, iR2, rng1, rng2, iE, itOf, sFor, bYes, Option.isNone_some, Option.isSome_some, Option.isNone_none, Option.isSome_none, Option.some.injEq, dEq_int, dNe_int, dEq_II, dEq_OO, dEq_OI, dEq_IO, dEq_PP, dNe_PP, dIs_O, dIsnt_O, dIs_I, dIsnt_I, dIs_non, dIsnt_non, dIn_IT, dIn_IL, dIdx_tup, dIdx_lst, dIdx_scr, dAdd_int, atI0, atI1, atI2, atI3, atI4, atI5, vw_last, get_last, set_last, app_last, dEq_TT, z, own] <;> rfl)
    have rc : callH 6 d_replaced_by [.ref 2, .ref 0, .bl rd, .ref 4, .int t, .int u] HH = .ok (encT ex) HH := (if_pos rfl).trans rp
    exact Good.rt (by (simp only [sSeq, sIf, sB, sE, sAsg, sRet, sRetN, sNil, sExpr, sBrk, sCnt, gN, gT, gsC, gsN, FK.e1, FK.e2, eC, eVar, eCall, aNil, aCons, M.bind, M.pure, eTup, eLst, eNew, eSl, oNone, oSome, bT, bNot, bAnd, bOr, eAnd, eOr, eNot, eIf, eCh, truth, eMs, eMl, dSub, dMul, dFdiv, dMod, dLe, dLt, dGe, dGt, D.isNon, dSl, dLen, dInt, dOrd_one, dMax2, dMin2, dTuple, dList, dListC, dApp, dNeg, vw, seq, lstOf, fnD, List.map_cons, List.map_nil, List.length_cons, List.length_nil, List.cons_append, List.nil_append, List.append_nil, List.replicate_succ, List.replicate_zero, List.getElem?_cons_zero, List.getElem?_cons_succ, List.set_cons_zero, List.set_cons_succ, Int.cast_ofNat_Int, Nat.reduceBEq, Int.reduceBEq, Nat.reduceAdd, Nat.reduceSub, Nat.reduceLT, Nat.reduceLeDiff, Nat.zero_add, Nat.add_zero, Nat.sub_zero, Nat.sub_self, ↓reduceIte, if_true, if_false, Bool.not_true, Bool.not_false, Bool.false_eq_true, Bool.true_eq_false, decide_true, decide_false, decide_not, true_and, and_true, and_self, true_or, or_true, not_true_eq_false, not_false_eq_true, ne_eq, reduceCtorEq, Int.reduceLT, Int.reduceLE, Int.reduceNeg, Int.reduceSub, Int.reduceAdd, Int.reduceMul, Int.reducePow, Int.reduceToNat, sz, D.dat, D.datL, D.dep, D.depL, szl, inb, List.any_cons, List.any_nil, Bool.true_and, Bool.false_and, Bool.and_true, Bool.and_false, Bool.or_false, Bool.false_or, Bool.true_or, Bool.or_true, Nat.max_self, Nat.max_zero, Nat.zero_max, Nat.min_self, Nat.zero_le, Nat.min_zero, Nat.zero_min, iR1, iR2, rng1, rng2, iE, itOf, sFor, bYes, Option.isNone_some, Option.isSome_some, Option.isNone_none, Option.isSome_none, Option.some.injEq, dEq_int, dNe_int, dEq_II, dEq_OO, dEq_OI, dEq_IO, dEq_PP, dNe_PP, dIs_O, dIsnt_O, dIs_I, dIsnt_I, dIs_non, dIsnt_non, dIn_IT, dIn_IL, dIdx_tup, dIdx_lst, dIdx_scr, dAdd_int, atI0, atI1, atI2, atI3, atI4, atI5, vw_last, get_last, set_last, app_last, rc, dEq_TT] <;> rfl)) rfl)
  exact ⟨h', e⟩
end FK

/-! part: W_k27 -/
set_option Elab.async false
set_option linter.all false
set_option maxRecDepth 100000
set_option maxHeartbeats 4000000
/-! law_k27_what_a_write_replaces: each def is what it is said to be; the end (printed by gen.py) -/
namespace FK
open PySem PySem.Spec L2
def top (i : Nat) : Stmt := PySem.Challenge.pw_foldkeep_k27_what_a_write_replaces.main.body.getD i (.Pass ⟨0, 0, 0, 0⟩)
structure Bi (K : PySem.W.Frag) (mg : Str → Option Value) : Prop where
  int : mg "int" = none
  len : mg "len" = none
  list : mg "list" = none
  range : mg "range" = none
  tuple : mg "tuple" = none
  t_alike : ∀ c ∈ (["Rule"] : List Str), AttrOk K mg c "alike"
  t_asking : ∀ c ∈ (["KeeperState"] : List Str), AttrOk K mg c "asking"
  t_away : ∀ c ∈ (["KeeperState"] : List Str), AttrOk K mg c "away"
  t_base : ∀ c ∈ (["Knowledge"] : List Str), AttrOk K mg c "base"
  t_clock : ∀ c ∈ (["Knowledge"] : List Str), AttrOk K mg c "clock"
  t_content : ∀ c ∈ (["Placed"] : List Str), AttrOk K mg c "content"
  t_count : ∀ c ∈ (["Placed"] : List Str), AttrOk K mg c "count"
  t_cuts : ∀ c ∈ (["Rule", "Placed"] : List Str), AttrOk K mg c "cuts"
  t_devices : ∀ c ∈ (["KeeperState"] : List Str), AttrOk K mg c "devices"
  t_drops : ∀ c ∈ (["KeeperState"] : List Str), AttrOk K mg c "drops"
  t_fetching : ∀ c ∈ (["KeeperState"] : List Str), AttrOk K mg c "fetching"
  t_had : ∀ c ∈ (["KeeperState"] : List Str), AttrOk K mg c "had"
  t_heard : ∀ c ∈ (["KeeperState"] : List Str), AttrOk K mg c "heard"
  t_holding : ∀ c ∈ (["KeeperState"] : List Str), AttrOk K mg c "holding"
  t_ids : ∀ c ∈ (["Placed"] : List Str), AttrOk K mg c "ids"
  t_ignores : ∀ c ∈ (["KeeperState"] : List Str), AttrOk K mg c "ignores"
  t_know : ∀ c ∈ (["KeeperState"] : List Str), AttrOk K mg c "know"
  t_knows : ∀ c ∈ (["Knowledge"] : List Str), AttrOk K mg c "knows"
  t_late : ∀ c ∈ (["KeeperState"] : List Str), AttrOk K mg c "late"
  t_line : ∀ c ∈ (["Placed"] : List Str), AttrOk K mg c "line"
  t_longest : ∀ c ∈ (["Rule"] : List Str), AttrOk K mg c "longest"
  t_me : ∀ c ∈ (["KeeperState"] : List Str), AttrOk K mg c "me"
  t_names : ∀ c ∈ (["Placed"] : List Str), AttrOk K mg c "names"
  t_next_number : ∀ c ∈ (["KeeperState"] : List Str), AttrOk K mg c "next_number"
  t_next_place : ∀ c ∈ (["KeeperState"] : List Str), AttrOk K mg c "next_place"
  t_path : ∀ c ∈ (["Placed"] : List Str), AttrOk K mg c "path"
  t_pending : ∀ c ∈ (["KeeperState"] : List Str), AttrOk K mg c "pending"
  t_pieces : ∀ c ∈ (["KeeperState"] : List Str), AttrOk K mg c "pieces"
  t_placed : ∀ c ∈ (["KeeperState"] : List Str), AttrOk K mg c "placed"
  t_reads : ∀ c ∈ (["Rule"] : List Str), AttrOk K mg c "reads"
  t_requests : ∀ c ∈ (["KeeperState"] : List Str), AttrOk K mg c "requests"
  t_rest : ∀ c ∈ (["Knowledge"] : List Str), AttrOk K mg c "rest"
  t_rule : ∀ c ∈ (["KeeperState"] : List Str), AttrOk K mg c "rule"
  t_scan : ∀ c ∈ (["KeeperState"] : List Str), AttrOk K mg c "scan"
  t_seen : ∀ c ∈ (["Placed"] : List Str), AttrOk K mg c "seen"
  t_shelf : ∀ c ∈ (["KeeperState"] : List Str), AttrOk K mg c "shelf"
  t_stage : ∀ c ∈ (["KeeperState"] : List Str), AttrOk K mg c "stage"
  t_swaps : ∀ c ∈ (["Rule"] : List Str), AttrOk K mg c "swaps"
  t_taken : ∀ c ∈ (["KeeperState"] : List Str), AttrOk K mg c "taken"
  t_thing : ∀ c ∈ (["Placed"] : List Str), AttrOk K mg c "thing"
  t_turns : ∀ c ∈ (["Rule"] : List Str), AttrOk K mg c "turns"
  t_unfit : ∀ c ∈ (["Rule"] : List Str), AttrOk K mg c "unfit"
  t_upto : ∀ c ∈ (["Knowledge"] : List Str), AttrOk K mg c "upto"
abbrev s_Knowledge_init : Stmt := inClass (top 4) 0
abbrev N_Knowledge_init : List Str := ["self", "devices", "clock", "base", "upto", "rest", "knows", "device"]
theorem sc_Knowledge_init : FnScope ["self", "devices", "clock", "base", "upto", "rest", "knows", "device"] ["self", "devices", "clock", "base", "upto", "rest", "knows"] (defScope s_Knowledge_init) := ⟨rfl, rfl, rfl, by decide +kernel, rfl, by decide +kernel, by decide +kernel⟩
abbrev s_KeeperState_init : Stmt := inClass (top 8) 0
abbrev N_KeeperState_init : List Str := ["self", "me", "devices", "rule", "ignores", "know", "heard", "placed", "had", "taken", "shelf", "next_place", "pending", "late", "requests", "pieces", "away", "holding", "asking", "fetching", "drops", "next_number", "stage"]
theorem sc_KeeperState_init : FnScope ["self", "me", "devices", "rule", "ignores", "know", "heard", "placed", "had", "taken", "shelf", "next_place", "pending", "late", "requests", "pieces", "away", "holding", "asking", "fetching", "drops", "next_number", "stage"] ["self", "me", "devices", "rule", "ignores", "know", "heard", "placed", "had", "taken", "shelf", "next_place", "pending", "late", "requests", "pieces", "away", "holding", "asking", "fetching", "drops", "next_number", "stage"] (defScope s_KeeperState_init) := ⟨rfl, rfl, rfl, by decide +kernel, rfl, by decide +kernel, by decide +kernel⟩
abbrev s_Placed_init : Stmt := inClass (top 7) 0
abbrev N_Placed_init : List Str := ["self", "path", "names", "thing", "count", "cuts", "content", "ids", "line", "seen"]
theorem sc_Placed_init : FnScope ["self", "path", "names", "thing", "count", "cuts", "content", "ids", "line", "seen"] ["self", "path", "names", "thing", "count", "cuts", "content", "ids", "line", "seen"] (defScope s_Placed_init) := ⟨rfl, rfl, rfl, by decide +kernel, rfl, by decide +kernel, by decide +kernel⟩
abbrev s_Rule_init : Stmt := inClass (top 2) 0
abbrev N_Rule_init : List Str := ["self", "alike", "unfit", "longest", "swaps", "reads", "cuts", "turns"]
theorem sc_Rule_init : FnScope ["self", "alike", "unfit", "longest", "swaps", "reads", "cuts", "turns"] ["self", "alike", "unfit", "longest", "swaps", "reads", "cuts", "turns"] (defScope s_Rule_init) := ⟨rfl, rfl, rfl, by decide +kernel, rfl, by decide +kernel, by decide +kernel⟩
abbrev s_l_cells : Stmt := top 13
abbrev N_l_cells : List Str := ["_law_script", "_law_count", "_law_cells_here", "_law_k", "_law_cell"]
theorem sc_l_cells : FnScope ["_law_script", "_law_count", "_law_cells_here", "_law_k", "_law_cell"] ["_law_script", "_law_count"] (defScope s_l_cells) := ⟨rfl, rfl, rfl, by decide +kernel, rfl, by decide +kernel, by decide +kernel⟩
abbrev s_had_at : Stmt := top 9
abbrev N_had_at : List Str := ["had", "path", "at", "ids"]
theorem sc_had_at : FnScope ["had", "path", "at", "ids"] ["had", "path"] (defScope s_had_at) := ⟨rfl, rfl, rfl, by decide +kernel, rfl, by decide +kernel, by decide +kernel⟩
abbrev s_replaced_by : Stmt := top 11
abbrev N_replaced_by : List Str := ["state", "had", "read", "was", "thing", "cuts", "edit_id"]
theorem sc_replaced_by : FnScope ["state", "had", "read", "was", "thing", "cuts", "edit_id"] ["state", "had", "read", "was", "thing", "cuts"] (defScope s_replaced_by) := ⟨rfl, rfl, rfl, by decide +kernel, rfl, by decide +kernel, by decide +kernel⟩
abbrev s_law : Stmt := top 14
abbrev N_law : List Str := ["_law_script", "_law_cells_here", "_law_ids", "_law_other", "_law_had", "_law_device", "_law_rule", "_law_state", "_law_was", "_law_thing", "_law_cuts", "_law_read", "_law_own", "_law_same", "_law_expected", "_law_k", "_law_edit_id"]
theorem sc_law : FnScope ["_law_script", "_law_cells_here", "_law_ids", "_law_other", "_law_had", "_law_device", "_law_rule", "_law_state", "_law_was", "_law_thing", "_law_cuts", "_law_read", "_law_own", "_law_same", "_law_expected", "_law_k", "_law_edit_id"] ["_law_script"] (defScope s_law) := ⟨rfl, rfl, rfl, by decide +kernel, rfl, by decide +kernel, by decide +kernel⟩
section
variable {P : Program} {w : World} {K : PySem.W.Frag} {mg : Str → Option Value} {base : Heap}
theorem ok_Knowledge_init {a : Addr} {fd : FuncData} (D0 : Fun K "__init__" "Knowledge.__init__" s_Knowledge_init a fd) (B : Bi K mg) : FnOk P w K mg base (L2.CX P w) 1 a fd ["self", "devices", "clock", "base", "upto", "rest", "knows"] (spF K mg 7 d_Knowledge_init) := by
  refine fn_ok (N := N_Knowledge_init) (ps := ["self", "devices", "clock", "base", "upto", "rest", "knows"]) (k := 0) (body := b_Knowledge_init) D0 sc_Knowledge_init (fun cdv A outer s H E hr => ?_)
  exact (ss_cons (ss_fld B.t_clock (se_var (i := 0) rfl (by first | exact Or.inl rfl | exact Or.inr (Or.inl rfl) | exact Or.inr (Or.inr rfl))) (se_var (i := 2) rfl (by first | exact Or.inl rfl | exact Or.inr (Or.inl rfl) | exact Or.inr (Or.inr rfl))))
    (ss_cons (ss_fld B.t_base (se_var (i := 0) rfl (by first | exact Or.inl rfl | exact Or.inr (Or.inl rfl) | exact Or.inr (Or.inr rfl))) (sb_list B.list (sa_cons (se_var (i := 3) rfl (by first | exact Or.inl rfl | exact Or.inr (Or.inl rfl) | exact Or.inr (Or.inr rfl))) sa_nil)))
    (ss_cons (ss_fld B.t_upto (se_var (i := 0) rfl (by first | exact Or.inl rfl | exact Or.inr (Or.inl rfl) | exact Or.inr (Or.inr rfl))) (se_var (i := 4) rfl (by first | exact Or.inl rfl | exact Or.inr (Or.inl rfl) | exact Or.inr (Or.inr rfl))))
    (ss_cons (ss_fld B.t_rest (se_var (i := 0) rfl (by first | exact Or.inl rfl | exact Or.inr (Or.inl rfl) | exact Or.inr (Or.inr rfl))) (sb_list B.list (sa_cons (se_var (i := 5) rfl (by first | exact Or.inl rfl | exact Or.inr (Or.inl rfl) | exact Or.inr (Or.inr rfl))) sa_nil)))
    (ss_cons (ss_fld B.t_knows (se_var (i := 0) rfl (by first | exact Or.inl rfl | exact Or.inr (Or.inl rfl) | exact Or.inr (Or.inr rfl))) (se_lc (fin := lcEnd) (own := [("device", 7)]) (vs := [7]) (.inl rfl) rfl sc_Knowledge_init.nd (si_of (se_var (i := 1) rfl (by first | exact Or.inl rfl | exact Or.inr (Or.inl rfl) | exact Or.inr (Or.inr rfl)))) (blkOk_by (N := N_Knowledge_init) (sc := defScope s_Knowledge_init) (own := [("device", 7)]) (by decide +kernel)) (fun _ _ _ _ _ => (sg_name (i := 7) sc_Knowledge_init.nd rfl (by first | exact Or.inl rfl | exact Or.inr rfl))) (fun _ _ _ _ _ => sl_yes) (fun _ _ _ _ _ => (se_tup (sa_cons (se_var (i := 7) rfl (by first | exact Or.inl rfl | exact Or.inr (Or.inl rfl) | exact Or.inr (Or.inr rfl))) (sa_cons se_int sa_nil)))) (by decide)))
    (ss_one (ss_if (st_cmp bo_isnt op_dIsnt (se_var (i := 6) rfl (by first | exact Or.inl rfl | exact Or.inr (Or.inl rfl) | exact Or.inr (Or.inr rfl))) se_non (by first | exact nomark _ | rfl)) (ss_one (ss_fld B.t_knows (se_var (i := 0) rfl (by first | exact Or.inl rfl | exact Or.inr (Or.inl rfl) | exact Or.inr (Or.inr rfl))) (sb_list B.list (sa_cons (se_var (i := 6) rfl (by first | exact Or.inl rfl | exact Or.inr (Or.inl rfl) | exact Or.inr (Or.inr rfl))) sa_nil)))) ss_nil)))))))
theorem ok_KeeperState_init {a : Addr} {fd : FuncData} (D0 : Fun K "__init__" "KeeperState.__init__" s_KeeperState_init a fd) (B : Bi K mg) (MK3 : MkAt P w K mg base "Knowledge" 1 1 [] [0, 1, 2, 3, 4, 5, 6] [.int 0, .tup [], .int 0, .tup [], .non] d_Knowledge_init) : FnOk P w K mg base (L2.CX P w) 3 a fd ["self", "me", "devices", "rule", "ignores", "know", "heard", "placed", "had", "taken", "shelf", "next_place", "pending", "late", "requests", "pieces", "away", "holding", "asking", "fetching", "drops", "next_number", "stage"] (spF K mg 23 d_KeeperState_init) := by
  refine fn_ok (N := N_KeeperState_init) (ps := ["self", "me", "devices", "rule", "ignores", "know", "heard", "placed", "had", "taken", "shelf", "next_place", "pending", "late", "requests", "pieces", "away", "holding", "asking", "fetching", "drops", "next_number", "stage"]) (k := 2) (body := b_KeeperState_init) D0 sc_KeeperState_init (fun cdv A outer s H E hr => ?_)
  exact (ss_cons (ss_fld B.t_me (se_var (i := 0) rfl (by first | exact Or.inl rfl | exact Or.inr (Or.inl rfl) | exact Or.inr (Or.inr rfl))) (se_var (i := 1) rfl (by first | exact Or.inl rfl | exact Or.inr (Or.inl rfl) | exact Or.inr (Or.inr rfl))))
    (ss_cons (ss_fld B.t_devices (se_var (i := 0) rfl (by first | exact Or.inl rfl | exact Or.inr (Or.inl rfl) | exact Or.inr (Or.inr rfl))) (sb_list B.list (sa_cons (se_var (i := 2) rfl (by first | exact Or.inl rfl | exact Or.inr (Or.inl rfl) | exact Or.inr (Or.inr rfl))) sa_nil)))
    (ss_cons (ss_fld B.t_rule (se_var (i := 0) rfl (by first | exact Or.inl rfl | exact Or.inr (Or.inl rfl) | exact Or.inr (Or.inr rfl))) (se_var (i := 3) rfl (by first | exact Or.inl rfl | exact Or.inr (Or.inl rfl) | exact Or.inr (Or.inr rfl))))
    (ss_cons (ss_fld B.t_ignores (se_var (i := 0) rfl (by first | exact Or.inl rfl | exact Or.inr (Or.inl rfl) | exact Or.inr (Or.inr rfl))) (sb_tuple  B.tuple (sa_cons (se_var (i := 4) rfl (by first | exact Or.inl rfl | exact Or.inr (Or.inl rfl) | exact Or.inr (Or.inr rfl))) sa_nil)))
    (ss_cons (ss_fld B.t_know (se_var (i := 0) rfl (by first | exact Or.inl rfl | exact Or.inr (Or.inl rfl) | exact Or.inr (Or.inr rfl))) (se_var (i := 5) rfl (by first | exact Or.inl rfl | exact Or.inr (Or.inl rfl) | exact Or.inr (Or.inr rfl))))
    (ss_cons (ss_if (st_cmp bo_is op_dIs (se_var (i := 5) rfl (by first | exact Or.inl rfl | exact Or.inr (Or.inl rfl) | exact Or.inr (Or.inr rfl))) se_non (by first | exact nomark _ | rfl)) (ss_one (ss_fld B.t_know (se_var (i := 0) rfl (by first | exact Or.inl rfl | exact Or.inr (Or.inl rfl) | exact Or.inr (Or.inr rfl))) (sm_K MK3 hr (sa_cons (se_var (i := 2) rfl (by first | exact Or.inl rfl | exact Or.inr (Or.inl rfl) | exact Or.inr (Or.inr rfl))) sa_nil) sk_nil (LenA.cons LenA.nil) LenA.nil))) ss_nil)
    (ss_cons (ss_fld B.t_heard (se_var (i := 0) rfl (by first | exact Or.inl rfl | exact Or.inr (Or.inl rfl) | exact Or.inr (Or.inr rfl))) (sb_list B.list (sa_cons (se_var (i := 6) rfl (by first | exact Or.inl rfl | exact Or.inr (Or.inl rfl) | exact Or.inr (Or.inr rfl))) sa_nil)))
    (ss_cons (ss_fld B.t_placed (se_var (i := 0) rfl (by first | exact Or.inl rfl | exact Or.inr (Or.inl rfl) | exact Or.inr (Or.inr rfl))) (sb_list B.list (sa_cons (se_var (i := 7) rfl (by first | exact Or.inl rfl | exact Or.inr (Or.inl rfl) | exact Or.inr (Or.inr rfl))) sa_nil)))
    (ss_cons (ss_fld B.t_had (se_var (i := 0) rfl (by first | exact Or.inl rfl | exact Or.inr (Or.inl rfl) | exact Or.inr (Or.inr rfl))) (sb_list B.list (sa_cons (se_var (i := 8) rfl (by first | exact Or.inl rfl | exact Or.inr (Or.inl rfl) | exact Or.inr (Or.inr rfl))) sa_nil)))
    (ss_cons (ss_fld B.t_taken (se_var (i := 0) rfl (by first | exact Or.inl rfl | exact Or.inr (Or.inl rfl) | exact Or.inr (Or.inr rfl))) (sb_list B.list (sa_cons (se_var (i := 9) rfl (by first | exact Or.inl rfl | exact Or.inr (Or.inl rfl) | exact Or.inr (Or.inr rfl))) sa_nil)))
    (ss_cons (ss_fld B.t_shelf (se_var (i := 0) rfl (by first | exact Or.inl rfl | exact Or.inr (Or.inl rfl) | exact Or.inr (Or.inr rfl))) (sb_list B.list (sa_cons (se_var (i := 10) rfl (by first | exact Or.inl rfl | exact Or.inr (Or.inl rfl) | exact Or.inr (Or.inr rfl))) sa_nil)))
    (ss_cons (ss_fld B.t_next_place (se_var (i := 0) rfl (by first | exact Or.inl rfl | exact Or.inr (Or.inl rfl) | exact Or.inr (Or.inr rfl))) (se_var (i := 11) rfl (by first | exact Or.inl rfl | exact Or.inr (Or.inl rfl) | exact Or.inr (Or.inr rfl))))
    (ss_cons (ss_fld B.t_pending (se_var (i := 0) rfl (by first | exact Or.inl rfl | exact Or.inr (Or.inl rfl) | exact Or.inr (Or.inr rfl))) (se_var (i := 12) rfl (by first | exact Or.inl rfl | exact Or.inr (Or.inl rfl) | exact Or.inr (Or.inr rfl))))
    (ss_cons (ss_fld B.t_late (se_var (i := 0) rfl (by first | exact Or.inl rfl | exact Or.inr (Or.inl rfl) | exact Or.inr (Or.inr rfl))) (sb_list B.list (sa_cons (se_var (i := 13) rfl (by first | exact Or.inl rfl | exact Or.inr (Or.inl rfl) | exact Or.inr (Or.inr rfl))) sa_nil)))
    (ss_cons (ss_fld B.t_requests (se_var (i := 0) rfl (by first | exact Or.inl rfl | exact Or.inr (Or.inl rfl) | exact Or.inr (Or.inr rfl))) (sb_list B.list (sa_cons (se_var (i := 14) rfl (by first | exact Or.inl rfl | exact Or.inr (Or.inl rfl) | exact Or.inr (Or.inr rfl))) sa_nil)))
    (ss_cons (ss_fld B.t_pieces (se_var (i := 0) rfl (by first | exact Or.inl rfl | exact Or.inr (Or.inl rfl) | exact Or.inr (Or.inr rfl))) (sb_list B.list (sa_cons (se_var (i := 15) rfl (by first | exact Or.inl rfl | exact Or.inr (Or.inl rfl) | exact Or.inr (Or.inr rfl))) sa_nil)))
    (ss_cons (ss_fld B.t_away (se_var (i := 0) rfl (by first | exact Or.inl rfl | exact Or.inr (Or.inl rfl) | exact Or.inr (Or.inr rfl))) (sb_list B.list (sa_cons (se_var (i := 16) rfl (by first | exact Or.inl rfl | exact Or.inr (Or.inl rfl) | exact Or.inr (Or.inr rfl))) sa_nil)))
    (ss_cons (ss_fld B.t_holding (se_var (i := 0) rfl (by first | exact Or.inl rfl | exact Or.inr (Or.inl rfl) | exact Or.inr (Or.inr rfl))) (sb_list B.list (sa_cons (se_var (i := 17) rfl (by first | exact Or.inl rfl | exact Or.inr (Or.inl rfl) | exact Or.inr (Or.inr rfl))) sa_nil)))
    (ss_cons (ss_fld B.t_asking (se_var (i := 0) rfl (by first | exact Or.inl rfl | exact Or.inr (Or.inl rfl) | exact Or.inr (Or.inr rfl))) (sb_list B.list (sa_cons (se_var (i := 18) rfl (by first | exact Or.inl rfl | exact Or.inr (Or.inl rfl) | exact Or.inr (Or.inr rfl))) sa_nil)))
    (ss_cons (ss_fld B.t_fetching (se_var (i := 0) rfl (by first | exact Or.inl rfl | exact Or.inr (Or.inl rfl) | exact Or.inr (Or.inr rfl))) (sb_list B.list (sa_cons (se_var (i := 19) rfl (by first | exact Or.inl rfl | exact Or.inr (Or.inl rfl) | exact Or.inr (Or.inr rfl))) sa_nil)))
    (ss_cons (ss_fld B.t_drops (se_var (i := 0) rfl (by first | exact Or.inl rfl | exact Or.inr (Or.inl rfl) | exact Or.inr (Or.inr rfl))) (sb_list B.list (sa_cons (se_var (i := 20) rfl (by first | exact Or.inl rfl | exact Or.inr (Or.inl rfl) | exact Or.inr (Or.inr rfl))) sa_nil)))
    (ss_cons (ss_fld B.t_next_number (se_var (i := 0) rfl (by first | exact Or.inl rfl | exact Or.inr (Or.inl rfl) | exact Or.inr (Or.inr rfl))) (se_var (i := 21) rfl (by first | exact Or.inl rfl | exact Or.inr (Or.inl rfl) | exact Or.inr (Or.inr rfl))))
    (ss_cons (ss_fld B.t_stage (se_var (i := 0) rfl (by first | exact Or.inl rfl | exact Or.inr (Or.inl rfl) | exact Or.inr (Or.inr rfl))) (se_var (i := 22) rfl (by first | exact Or.inl rfl | exact Or.inr (Or.inl rfl) | exact Or.inr (Or.inr rfl))))
    (ss_one (ss_fld B.t_scan (se_var (i := 0) rfl (by first | exact Or.inl rfl | exact Or.inr (Or.inl rfl) | exact Or.inr (Or.inr rfl))) se_non)))))))))))))))))))))))))
theorem ok_Placed_init {a : Addr} {fd : FuncData} (D0 : Fun K "__init__" "Placed.__init__" s_Placed_init a fd) (B : Bi K mg) : FnOk P w K mg base (L2.CX P w) 1 a fd ["self", "path", "names", "thing", "count", "cuts", "content", "ids", "line", "seen"] (spF K mg 10 d_Placed_init) := by
  refine fn_ok (N := N_Placed_init) (ps := ["self", "path", "names", "thing", "count", "cuts", "content", "ids", "line", "seen"]) (k := 0) (body := b_Placed_init) D0 sc_Placed_init (fun cdv A outer s H E hr => ?_)
  exact (ss_cons (ss_fld B.t_path (se_var (i := 0) rfl (by first | exact Or.inl rfl | exact Or.inr (Or.inl rfl) | exact Or.inr (Or.inr rfl))) (se_var (i := 1) rfl (by first | exact Or.inl rfl | exact Or.inr (Or.inl rfl) | exact Or.inr (Or.inr rfl))))
    (ss_cons (ss_fld B.t_names (se_var (i := 0) rfl (by first | exact Or.inl rfl | exact Or.inr (Or.inl rfl) | exact Or.inr (Or.inr rfl))) (se_var (i := 2) rfl (by first | exact Or.inl rfl | exact Or.inr (Or.inl rfl) | exact Or.inr (Or.inr rfl))))
    (ss_cons (ss_fld B.t_thing (se_var (i := 0) rfl (by first | exact Or.inl rfl | exact Or.inr (Or.inl rfl) | exact Or.inr (Or.inr rfl))) (se_var (i := 3) rfl (by first | exact Or.inl rfl | exact Or.inr (Or.inl rfl) | exact Or.inr (Or.inr rfl))))
    (ss_cons (ss_fld B.t_count (se_var (i := 0) rfl (by first | exact Or.inl rfl | exact Or.inr (Or.inl rfl) | exact Or.inr (Or.inr rfl))) (se_var (i := 4) rfl (by first | exact Or.inl rfl | exact Or.inr (Or.inl rfl) | exact Or.inr (Or.inr rfl))))
    (ss_cons (ss_fld B.t_cuts (se_var (i := 0) rfl (by first | exact Or.inl rfl | exact Or.inr (Or.inl rfl) | exact Or.inr (Or.inr rfl))) (se_var (i := 5) rfl (by first | exact Or.inl rfl | exact Or.inr (Or.inl rfl) | exact Or.inr (Or.inr rfl))))
    (ss_cons (ss_fld B.t_content (se_var (i := 0) rfl (by first | exact Or.inl rfl | exact Or.inr (Or.inl rfl) | exact Or.inr (Or.inr rfl))) (se_var (i := 6) rfl (by first | exact Or.inl rfl | exact Or.inr (Or.inl rfl) | exact Or.inr (Or.inr rfl))))
    (ss_cons (ss_fld B.t_ids (se_var (i := 0) rfl (by first | exact Or.inl rfl | exact Or.inr (Or.inl rfl) | exact Or.inr (Or.inr rfl))) (se_var (i := 7) rfl (by first | exact Or.inl rfl | exact Or.inr (Or.inl rfl) | exact Or.inr (Or.inr rfl))))
    (ss_cons (ss_fld B.t_line (se_var (i := 0) rfl (by first | exact Or.inl rfl | exact Or.inr (Or.inl rfl) | exact Or.inr (Or.inr rfl))) (se_var (i := 8) rfl (by first | exact Or.inl rfl | exact Or.inr (Or.inl rfl) | exact Or.inr (Or.inr rfl))))
    (ss_one (ss_fld B.t_seen (se_var (i := 0) rfl (by first | exact Or.inl rfl | exact Or.inr (Or.inl rfl) | exact Or.inr (Or.inr rfl))) (se_var (i := 9) rfl (by first | exact Or.inl rfl | exact Or.inr (Or.inl rfl) | exact Or.inr (Or.inr rfl)))))))))))))
theorem ok_Rule_init {a : Addr} {fd : FuncData} (D0 : Fun K "__init__" "Rule.__init__" s_Rule_init a fd) (B : Bi K mg) : FnOk P w K mg base (L2.CX P w) 1 a fd ["self", "alike", "unfit", "longest", "swaps", "reads", "cuts", "turns"] (spF K mg 8 d_Rule_init) := by
  refine fn_ok (N := N_Rule_init) (ps := ["self", "alike", "unfit", "longest", "swaps", "reads", "cuts", "turns"]) (k := 0) (body := b_Rule_init) D0 sc_Rule_init (fun cdv A outer s H E hr => ?_)
  exact (ss_cons (ss_fld B.t_alike (se_var (i := 0) rfl (by first | exact Or.inl rfl | exact Or.inr (Or.inl rfl) | exact Or.inr (Or.inr rfl))) (se_var (i := 1) rfl (by first | exact Or.inl rfl | exact Or.inr (Or.inl rfl) | exact Or.inr (Or.inr rfl))))
    (ss_cons (ss_fld B.t_unfit (se_var (i := 0) rfl (by first | exact Or.inl rfl | exact Or.inr (Or.inl rfl) | exact Or.inr (Or.inr rfl))) (se_var (i := 2) rfl (by first | exact Or.inl rfl | exact Or.inr (Or.inl rfl) | exact Or.inr (Or.inr rfl))))
    (ss_cons (ss_fld B.t_longest (se_var (i := 0) rfl (by first | exact Or.inl rfl | exact Or.inr (Or.inl rfl) | exact Or.inr (Or.inr rfl))) (se_var (i := 3) rfl (by first | exact Or.inl rfl | exact Or.inr (Or.inl rfl) | exact Or.inr (Or.inr rfl))))
    (ss_cons (ss_fld B.t_swaps (se_var (i := 0) rfl (by first | exact Or.inl rfl | exact Or.inr (Or.inl rfl) | exact Or.inr (Or.inr rfl))) (se_var (i := 4) rfl (by first | exact Or.inl rfl | exact Or.inr (Or.inl rfl) | exact Or.inr (Or.inr rfl))))
    (ss_cons (ss_fld B.t_reads (se_var (i := 0) rfl (by first | exact Or.inl rfl | exact Or.inr (Or.inl rfl) | exact Or.inr (Or.inr rfl))) (se_var (i := 5) rfl (by first | exact Or.inl rfl | exact Or.inr (Or.inl rfl) | exact Or.inr (Or.inr rfl))))
    (ss_cons (ss_fld B.t_cuts (se_var (i := 0) rfl (by first | exact Or.inl rfl | exact Or.inr (Or.inl rfl) | exact Or.inr (Or.inr rfl))) (se_var (i := 6) rfl (by first | exact Or.inl rfl | exact Or.inr (Or.inl rfl) | exact Or.inr (Or.inr rfl))))
    (ss_one (ss_fld B.t_turns (se_var (i := 0) rfl (by first | exact Or.inl rfl | exact Or.inr (Or.inl rfl) | exact Or.inr (Or.inr rfl))) (se_var (i := 7) rfl (by first | exact Or.inl rfl | exact Or.inr (Or.inl rfl) | exact Or.inr (Or.inr rfl)))))))))))
theorem ok_l_cells {a : Addr} {fd : FuncData} (D0 : DefAt K mg "_law_cells" s_l_cells ["_law_script", "_law_count"] a fd) (B : Bi K mg) : FnOk P w K mg base (L2.CX P w) 1 a fd ["_law_script", "_law_count"] (spF K mg 2 d_l_cells) := by
  refine fn_ok (N := N_l_cells) (ps := ["_law_script", "_law_count"]) (k := 0) (body := b_l_cells) D0.F sc_l_cells (fun cdv A outer s H E hr => ?_)
  exact (ss_cons (ss_asg (se_new sa_nil) (sg_name (i := 2) sc_l_cells.nd rfl (by first | exact Or.inl rfl | exact Or.inr rfl)))
    (ss_cons (ss_for (passes_of rfl) rfl (si_range1 rfl B.range (sa_cons (se_var (i := 1) rfl (by first | exact Or.inl rfl | exact Or.inr (Or.inl rfl) | exact Or.inr (Or.inr rfl))) sa_nil)) (sg_name (i := 3) sc_l_cells.nd rfl (by first | exact Or.inl rfl | exact Or.inr rfl)) (ss_cons (ss_asg se_int (sg_name (i := 4) sc_l_cells.nd rfl (by first | exact Or.inl rfl | exact Or.inr rfl)))
    (ss_cons (ss_if (st_cmp bo_lt (op_dLt (u0 hr)) (se_var (i := 3) rfl (by first | exact Or.inl rfl | exact Or.inr (Or.inl rfl) | exact Or.inr (Or.inr rfl))) (sb_len  B.len (sa_cons (se_var (i := 0) rfl (by first | exact Or.inl rfl | exact Or.inr (Or.inl rfl) | exact Or.inr (Or.inr rfl))) sa_nil)) (by first | exact nomark _ | rfl)) (ss_one (ss_asg (sb_int  B.int (sa_cons (se_idx (se_var (i := 0) rfl (by first | exact Or.inl rfl | exact Or.inr (Or.inl rfl) | exact Or.inr (Or.inr rfl))) (se_var (i := 3) rfl (by first | exact Or.inl rfl | exact Or.inr (Or.inl rfl) | exact Or.inr (Or.inr rfl))) ix_dIdx) sa_nil)) (sg_name (i := 4) sc_l_cells.nd rfl (by first | exact Or.inl rfl | exact Or.inr rfl)))) ss_nil)
    (ss_cons (ss_if (st_cmp bo_lt (op_dLt (u0 hr)) (se_var (i := 4) rfl (by first | exact Or.inl rfl | exact Or.inr (Or.inl rfl) | exact Or.inr (Or.inr rfl))) se_int (by first | exact nomark _ | rfl)) (ss_one (ss_asg (se_op op_dSub se_int (se_op op_dMul se_int (se_var (i := 4) rfl (by first | exact Or.inl rfl | exact Or.inr (Or.inl rfl) | exact Or.inr (Or.inr rfl))))) (sg_name (i := 4) sc_l_cells.nd rfl (by first | exact Or.inl rfl | exact Or.inr rfl)))) ss_nil)
    (ss_cons (ss_if (sw_or (st_cmp bo_ge op_dGe (se_var (i := 3) rfl (by first | exact Or.inl rfl | exact Or.inr (Or.inl rfl) | exact Or.inr (Or.inr rfl))) (sb_len  B.len (sa_cons (se_var (i := 0) rfl (by first | exact Or.inl rfl | exact Or.inr (Or.inl rfl) | exact Or.inr (Or.inr rfl))) sa_nil)) (by first | exact nomark _ | rfl)) (sw_or1 (st_cmp bo_lt (op_dLt (u0 hr)) (se_var (i := 4) rfl (by first | exact Or.inl rfl | exact Or.inr (Or.inl rfl) | exact Or.inr (Or.inr rfl))) se_int (by first | exact nomark _ | rfl)))).pt (ss_cons (ss_if (st_cmp bo_gt op_dGt (sb_len  B.len (sa_cons (se_var (i := 0) rfl (by first | exact Or.inl rfl | exact Or.inr (Or.inl rfl) | exact Or.inr (Or.inr rfl))) sa_nil)) se_int (by first | exact nomark _ | rfl)) (ss_one (ss_asg (sb_int  B.int (sa_cons (se_idx (se_var (i := 0) rfl (by first | exact Or.inl rfl | exact Or.inr (Or.inl rfl) | exact Or.inr (Or.inr rfl))) (se_op op_dMod (sb_int  B.int (sa_cons (se_var (i := 3) rfl (by first | exact Or.inl rfl | exact Or.inr (Or.inl rfl) | exact Or.inr (Or.inr rfl))) sa_nil)) (sb_len  B.len (sa_cons (se_var (i := 0) rfl (by first | exact Or.inl rfl | exact Or.inr (Or.inl rfl) | exact Or.inr (Or.inr rfl))) sa_nil))) ix_dIdx) sa_nil)) (sg_name (i := 4) sc_l_cells.nd rfl (by first | exact Or.inl rfl | exact Or.inr rfl)))) ss_nil)
    (ss_cons (ss_if (st_cmp bo_lt (op_dLt (u0 hr)) (se_var (i := 4) rfl (by first | exact Or.inl rfl | exact Or.inr (Or.inl rfl) | exact Or.inr (Or.inr rfl))) se_int (by first | exact nomark _ | rfl)) (ss_one (ss_asg (se_op op_dSub se_int (se_op op_dMul se_int (se_var (i := 4) rfl (by first | exact Or.inl rfl | exact Or.inr (Or.inl rfl) | exact Or.inr (Or.inr rfl))))) (sg_name (i := 4) sc_l_cells.nd rfl (by first | exact Or.inl rfl | exact Or.inr rfl)))) ss_nil)
    (ss_cons (ss_asg (se_op op_dMod (sb_int  B.int (sa_cons (se_op op_dAdd (se_op op_dMul (se_op op_dAdd (se_op op_dAdd (se_var (i := 4) rfl (by first | exact Or.inl rfl | exact Or.inr (Or.inl rfl) | exact Or.inr (Or.inr rfl))) (se_op op_dMul se_int (se_var (i := 3) rfl (by first | exact Or.inl rfl | exact Or.inr (Or.inl rfl) | exact Or.inr (Or.inr rfl))))) se_int) se_int) (se_op op_dMul (se_op op_dMul (se_var (i := 3) rfl (by first | exact Or.inl rfl | exact Or.inr (Or.inl rfl) | exact Or.inr (Or.inr rfl))) (se_var (i := 3) rfl (by first | exact Or.inl rfl | exact Or.inr (Or.inl rfl) | exact Or.inr (Or.inr rfl)))) se_int)) sa_nil)) se_int) (sg_name (i := 4) sc_l_cells.nd rfl (by first | exact Or.inl rfl | exact Or.inr rfl)))
    (ss_one (ss_asg (se_op op_dMod (sb_int  B.int (sa_cons (se_op op_dMul (se_op op_dAdd (se_op op_dAdd (se_var (i := 4) rfl (by first | exact Or.inl rfl | exact Or.inr (Or.inl rfl) | exact Or.inr (Or.inr rfl))) (se_op op_dMul se_int (se_var (i := 3) rfl (by first | exact Or.inl rfl | exact Or.inr (Or.inl rfl) | exact Or.inr (Or.inr rfl))))) se_int) se_int) sa_nil)) se_int) (sg_name (i := 4) sc_l_cells.nd rfl (by first | exact Or.inl rfl | exact Or.inr rfl))))))) ss_nil)
    (ss_one (ss_expr (se_app (se_var (i := 2) rfl (by first | exact Or.inl rfl | exact Or.inr (Or.inl rfl) | exact Or.inr (Or.inr rfl))) (sa_cons (se_var (i := 4) rfl (by first | exact Or.inl rfl | exact Or.inr (Or.inl rfl) | exact Or.inr (Or.inr rfl))) sa_nil)))))))))
    (ss_one (ss_ret (se_var (i := 2) rfl (by first | exact Or.inl rfl | exact Or.inr (Or.inl rfl) | exact Or.inr (Or.inr rfl)))))))
theorem ok_had_at {a : Addr} {fd : FuncData} (D0 : DefAt K mg "had_at" s_had_at ["had", "path"] a fd) (B : Bi K mg) : FnOk P w K mg base (L2.CX P w) 1 a fd ["had", "path"] (spF K mg 2 d_had_at) := by
  refine fn_ok (N := N_had_at) (ps := ["had", "path"]) (k := 0) (body := b_had_at) D0.F sc_had_at (fun cdv A outer s H E hr => ?_)
  exact (ss_cons (ss_for (passes_of rfl) rfl (si_of (se_var (i := 0) rfl (by first | exact Or.inl rfl | exact Or.inr (Or.inl rfl) | exact Or.inr (Or.inr rfl)))) (sg_tup rfl (sg_cons (sg_name (i := 2) sc_had_at.nd rfl (by first | exact Or.inl rfl | exact Or.inr rfl)) (sg_cons (sg_name (i := 3) sc_had_at.nd rfl (by first | exact Or.inl rfl | exact Or.inr rfl)) sg_nil)) (gl_cons (gl_cons gl_nil))) (ss_one (ss_if (st_cmp bo_eq (op_dEq (u60 hr)) (se_var (i := 2) rfl (by first | exact Or.inl rfl | exact Or.inr (Or.inl rfl) | exact Or.inr (Or.inr rfl))) (se_var (i := 1) rfl (by first | exact Or.inl rfl | exact Or.inr (Or.inl rfl) | exact Or.inr (Or.inr rfl))) (by first | exact nomark _ | rfl)) (ss_one (ss_ret (se_var (i := 3) rfl (by first | exact Or.inl rfl | exact Or.inr (Or.inl rfl) | exact Or.inr (Or.inr rfl))))) ss_nil)))
    (ss_one (ss_ret (se_tup sa_nil))))
theorem ok_replaced_by {a : Addr} {fd : FuncData} (D0 : DefAt K mg "replaced_by" s_replaced_by ["state", "had", "read", "was", "thing", "cuts"] a fd) (B : Bi K mg) {a_had_at : Addr} {f_had_at : FuncData} (D_had_at : DefAt K mg "had_at" s_had_at ["had", "path"] a_had_at f_had_at) (G_had_at : FnOk P w K mg base (L2.CX P w) 1 a_had_at f_had_at ["had", "path"] (spF K mg 2 d_had_at)) : FnOk P w K mg base (L2.CX P w) 2 a fd ["state", "had", "read", "was", "thing", "cuts"] (spF K mg 6 d_replaced_by) := by
  refine fn_ok (N := N_replaced_by) (ps := ["state", "had", "read", "was", "thing", "cuts"]) (k := 1) (body := b_replaced_by) D0.F sc_replaced_by (fun cdv A outer s H E hr => ?_)
  exact (ss_cons (ss_if (sw_and (st_cmp bo_eq (op_dEq (u60 hr)) (se_var (i := 4) rfl (by first | exact Or.inl rfl | exact Or.inr (Or.inl rfl) | exact Or.inr (Or.inr rfl))) (se_fld B.t_thing (se_var (i := 3) rfl (by first | exact Or.inl rfl | exact Or.inr (Or.inl rfl) | exact Or.inr (Or.inr rfl)))) (by first | exact nomark _ | rfl)) (sw_and1 (sw_or (st_not (st_truth (se_fld B.t_cuts (se_fld B.t_rule (se_var (i := 0) rfl (by first | exact Or.inl rfl | exact Or.inr (Or.inl rfl) | exact Or.inr (Or.inr rfl))))))) (sw_or1 (st_cmp bo_eq (op_dEq (u60 hr)) (se_var (i := 5) rfl (by first | exact Or.inl rfl | exact Or.inr (Or.inl rfl) | exact Or.inr (Or.inr rfl))) (se_fld B.t_cuts (se_var (i := 3) rfl (by first | exact Or.inl rfl | exact Or.inr (Or.inl rfl) | exact Or.inr (Or.inr rfl)))) (by first | exact nomark _ | rfl)))).pt)).pt (ss_one (ss_ret (se_fld B.t_ids (se_var (i := 3) rfl (by first | exact Or.inl rfl | exact Or.inr (Or.inl rfl) | exact Or.inr (Or.inr rfl)))))) ss_nil)
    (ss_cons (ss_if (sw_or (st_truth (se_var (i := 2) rfl (by first | exact Or.inl rfl | exact Or.inr (Or.inl rfl) | exact Or.inr (Or.inr rfl)))) (sw_or1 (st_cmp bo_eq (op_dEq (u60 hr)) (se_def callP (.inr (.inl rfl)) (takes_of rfl rfl rfl rfl) D_had_at G_had_at hr (sa_cons (se_var (i := 1) rfl (by first | exact Or.inl rfl | exact Or.inr (Or.inl rfl) | exact Or.inr (Or.inr rfl))) (sa_cons (se_fld B.t_path (se_var (i := 3) rfl (by first | exact Or.inl rfl | exact Or.inr (Or.inl rfl) | exact Or.inr (Or.inr rfl)))) sa_nil))) (se_fld B.t_ids (se_var (i := 3) rfl (by first | exact Or.inl rfl | exact Or.inr (Or.inl rfl) | exact Or.inr (Or.inr rfl)))) (by first | exact nomark _ | rfl)))).pt (ss_one (ss_ret (se_fld B.t_ids (se_var (i := 3) rfl (by first | exact Or.inl rfl | exact Or.inr (Or.inl rfl) | exact Or.inr (Or.inr rfl)))))) ss_nil)
    (ss_cons (ss_for (passes_of rfl) rfl (si_of (se_fld B.t_ids (se_var (i := 3) rfl (by first | exact Or.inl rfl | exact Or.inr (Or.inl rfl) | exact Or.inr (Or.inr rfl))))) (sg_name (i := 6) sc_replaced_by.nd rfl (by first | exact Or.inl rfl | exact Or.inr rfl)) (ss_one (ss_if (st_cmp bo_eq (op_dEq (u60 hr)) (se_idx (se_var (i := 6) rfl (by first | exact Or.inl rfl | exact Or.inr (Or.inl rfl) | exact Or.inr (Or.inr rfl))) se_int ix_dIdx) (se_fld B.t_me (se_var (i := 0) rfl (by first | exact Or.inl rfl | exact Or.inr (Or.inl rfl) | exact Or.inr (Or.inr rfl)))) (by first | exact nomark _ | rfl)) (ss_one (ss_ret (se_fld B.t_ids (se_var (i := 3) rfl (by first | exact Or.inl rfl | exact Or.inr (Or.inl rfl) | exact Or.inr (Or.inr rfl)))))) ss_nil)))
    (ss_one (ss_ret (se_def callP (.inr (.inl rfl)) (takes_of rfl rfl rfl rfl) D_had_at G_had_at hr (sa_cons (se_var (i := 1) rfl (by first | exact Or.inl rfl | exact Or.inr (Or.inl rfl) | exact Or.inr (Or.inr rfl))) (sa_cons (se_fld B.t_path (se_var (i := 3) rfl (by first | exact Or.inl rfl | exact Or.inr (Or.inl rfl) | exact Or.inr (Or.inr rfl)))) sa_nil))))))))
theorem ok_law {a : Addr} {fd : FuncData} (D0 : DefAt K mg "law" s_law ["_law_script"] a fd) (B : Bi K mg) {a_l_cells : Addr} {f_l_cells : FuncData} (D_l_cells : DefAt K mg "_law_cells" s_l_cells ["_law_script", "_law_count"] a_l_cells f_l_cells) (G_l_cells : FnOk P w K mg base (L2.CX P w) 1 a_l_cells f_l_cells ["_law_script", "_law_count"] (spF K mg 2 d_l_cells)) {a_replaced_by : Addr} {f_replaced_by : FuncData} (D_replaced_by : DefAt K mg "replaced_by" s_replaced_by ["state", "had", "read", "was", "thing", "cuts"] a_replaced_by f_replaced_by) (G_replaced_by : FnOk P w K mg base (L2.CX P w) 2 a_replaced_by f_replaced_by ["state", "had", "read", "was", "thing", "cuts"] (spF K mg 6 d_replaced_by)) (MK0 : MkAt P w K mg base "Rule" 1 0 ["cuts"] [0, 1, 2, 3, 4, 5, 7, 6] [.tup [], .tup [], .int 80, .bl true, .bl true, .bl true] d_Rule_init) (MK1 : MkAt P w K mg base "KeeperState" 3 4 [] [0, 1, 2, 3, 4, 5, 6, 7, 8, 9, 10, 11, 12, 13, 14, 15, 16, 17, 18, 19, 20, 21, 22] [.non, .tup [], .tup [], .tup [], .tup [], .tup [], .int 0, .non, .tup [], .tup [], .tup [], .tup [], .tup [], .tup [], .tup [], .tup [], .int 0, .tup [.str "idle"]] d_KeeperState_init) (MK2 : MkPos P w K mg base "Placed" 1 10 [] d_Placed_init) : FnOk P w K mg base (L2.CX P w) 5 a fd ["_law_script"] (spF K mg 1 d_law) := by
  refine fn_ok (N := N_law) (ps := ["_law_script"]) (k := 4) (body := b_law) D0.F sc_law (fun cdv A outer s H E hr => ?_)
  exact (ss_cons (ss_asg (se_def callP (.inr (.inl rfl)) (takes_of rfl rfl rfl rfl) D_l_cells G_l_cells hr (sa_cons (se_var (i := 0) rfl (by first | exact Or.inl rfl | exact Or.inr (Or.inl rfl) | exact Or.inr (Or.inr rfl))) (sa_cons se_int sa_nil))) (sg_name (i := 1) sc_law.nd rfl (by first | exact Or.inl rfl | exact Or.inr rfl)))
    (ss_cons (ss_asg (sb_tuple  B.tuple (sa_cons (se_lc (fin := lcEnd) (own := [("_law_k", 15)]) (vs := [15]) (.inl rfl) rfl sc_law.nd (si_range1 rfl B.range (sa_cons (se_op op_dAdd se_int (se_op op_dMod (sb_int  B.int (sa_cons (se_idx (se_var (i := 1) rfl (by first | exact Or.inl rfl | exact Or.inr (Or.inl rfl) | exact Or.inr (Or.inr rfl))) se_int ix_dIdx) sa_nil)) se_int)) sa_nil)) (blkOk_by (N := N_law) (sc := defScope s_law) (own := [("_law_k", 15)]) (by decide +kernel)) (fun _ _ _ _ _ => (sg_name (i := 15) sc_law.nd rfl (by first | exact Or.inl rfl | exact Or.inr rfl))) (fun _ _ _ _ _ => sl_yes) (fun _ _ _ _ _ => (se_tup (sa_cons (se_op op_dAdd (se_var (i := 15) rfl (by first | exact Or.inl rfl | exact Or.inr (Or.inl rfl) | exact Or.inr (Or.inr rfl))) se_int) (sa_cons (se_op op_dMod (sb_int  B.int (sa_cons (se_idx (se_var (i := 1) rfl (by first | exact Or.inl rfl | exact Or.inr (Or.inl rfl) | exact Or.inr (Or.inr rfl))) (se_var (i := 15) rfl (by first | exact Or.inl rfl | exact Or.inr (Or.inl rfl) | exact Or.inr (Or.inr rfl))) ix_dIdx) sa_nil)) se_int) sa_nil)))) (by decide)) sa_nil)) (sg_name (i := 2) sc_law.nd rfl (by first | exact Or.inl rfl | exact Or.inr rfl)))
    (ss_cons (ss_asg (se_idx (se_lst (sa_cons (se_tup sa_nil) (sa_cons (se_var (i := 2) rfl (by first | exact Or.inl rfl | exact Or.inr (Or.inl rfl) | exact Or.inr (Or.inr rfl))) (sa_cons (se_sl (se_var (i := 2) rfl (by first | exact Or.inl rfl | exact Or.inr (Or.inl rfl) | exact Or.inr (Or.inr rfl))) (so_some se_int) so_none) (sa_cons (se_tup (sa_cons (se_tup (sa_cons se_int (sa_cons se_int sa_nil))) sa_nil)) sa_nil))))) (se_op op_dMod (sb_int  B.int (sa_cons (se_idx (se_var (i := 1) rfl (by first | exact Or.inl rfl | exact Or.inr (Or.inl rfl) | exact Or.inr (Or.inr rfl))) se_int ix_dIdx) sa_nil)) se_int) ix_dIdx) (sg_name (i := 3) sc_law.nd rfl (by first | exact Or.inl rfl | exact Or.inr rfl)))
    (ss_cons (ss_asg (se_new (sa_cons (se_tup (sa_cons (se_tup (sa_cons se_str sa_nil)) (sa_cons (se_var (i := 2) rfl (by first | exact Or.inl rfl | exact Or.inr (Or.inl rfl) | exact Or.inr (Or.inr rfl))) sa_nil))) sa_nil)) (sg_name (i := 4) sc_law.nd rfl (by first | exact Or.inl rfl | exact Or.inr rfl)))
    (ss_cons (ss_if (st_cmp bo_gt op_dGt (sb_len  B.len (sa_cons (se_var (i := 3) rfl (by first | exact Or.inl rfl | exact Or.inr (Or.inl rfl) | exact Or.inr (Or.inr rfl))) sa_nil)) se_int (by first | exact nomark _ | rfl)) (ss_one (ss_expr (se_app (se_var (i := 4) rfl (by first | exact Or.inl rfl | exact Or.inr (Or.inl rfl) | exact Or.inr (Or.inr rfl))) (sa_cons (se_tup (sa_cons (se_tup (sa_cons se_str sa_nil)) (sa_cons (se_var (i := 3) rfl (by first | exact Or.inl rfl | exact Or.inr (Or.inl rfl) | exact Or.inr (Or.inr rfl))) sa_nil))) sa_nil)))) ss_nil)
    (ss_cons (ss_asg (se_op op_dMod (sb_int  B.int (sa_cons (se_idx (se_var (i := 1) rfl (by first | exact Or.inl rfl | exact Or.inr (Or.inl rfl) | exact Or.inr (Or.inr rfl))) se_int ix_dIdx) sa_nil)) se_int) (sg_name (i := 5) sc_law.nd rfl (by first | exact Or.inl rfl | exact Or.inr rfl)))
    (ss_cons (ss_asg (sm_K0 MK0 hr (sk_cons (se_cmp (op_dEq (u60 hr)) (se_op op_dMod (se_idx (se_var (i := 1) rfl (by first | exact Or.inl rfl | exact Or.inr (Or.inl rfl) | exact Or.inr (Or.inr rfl))) se_int ix_dIdx) se_int) se_int (by first | exact nomark _ | rfl)) sk_nil) (LenA.cons LenA.nil)) (sg_name (i := 6) sc_law.nd rfl (by first | exact Or.inl rfl | exact Or.inr rfl)))
    (ss_cons (ss_asg (sm_K MK1 hr (sa_cons (se_var (i := 5) rfl (by first | exact Or.inl rfl | exact Or.inr (Or.inl rfl) | exact Or.inr (Or.inr rfl))) (sa_cons (se_lst (sa_cons se_int (sa_cons se_int (sa_cons se_int (sa_cons se_int sa_nil))))) (sa_cons (se_var (i := 6) rfl (by first | exact Or.inl rfl | exact Or.inr (Or.inl rfl) | exact Or.inr (Or.inr rfl))) (sa_cons (se_tup sa_nil) sa_nil)))) sk_nil (LenA.cons (LenA.cons (LenA.cons (LenA.cons LenA.nil)))) LenA.nil) (sg_name (i := 7) sc_law.nd rfl (by first | exact Or.inl rfl | exact Or.inr rfl)))
    (ss_cons (ss_asg (sm_P MK2 hr (sa_cons (se_tup (sa_cons se_str sa_nil)) (sa_cons (se_tup (sa_cons se_str sa_nil)) (sa_cons se_int (sa_cons se_int (sa_cons se_int (sa_cons (se_tup (sa_cons se_int (sa_cons se_int (sa_cons se_int (sa_cons se_bl sa_nil))))) (sa_cons (se_var (i := 2) rfl (by first | exact Or.inl rfl | exact Or.inr (Or.inl rfl) | exact Or.inr (Or.inr rfl))) (sa_cons (se_idx (se_var (i := 2) rfl (by first | exact Or.inl rfl | exact Or.inr (Or.inl rfl) | exact Or.inr (Or.inr rfl))) se_int ix_dIdx) (sa_cons se_bl sa_nil))))))))) (LenA.cons (LenA.cons (LenA.cons (LenA.cons (LenA.cons (LenA.cons (LenA.cons (LenA.cons (LenA.cons LenA.nil)))))))))) (sg_name (i := 8) sc_law.nd rfl (by first | exact Or.inl rfl | exact Or.inr rfl)))
    (ss_cons (ss_asg (se_op op_dAdd se_int (se_op op_dMod (sb_int  B.int (sa_cons (se_idx (se_var (i := 1) rfl (by first | exact Or.inl rfl | exact Or.inr (Or.inl rfl) | exact Or.inr (Or.inr rfl))) se_int ix_dIdx) sa_nil)) se_int)) (sg_name (i := 9) sc_law.nd rfl (by first | exact Or.inl rfl | exact Or.inr rfl)))
    (ss_cons (ss_asg (se_op op_dAdd se_int (se_op op_dMod (sb_int  B.int (sa_cons (se_idx (se_var (i := 1) rfl (by first | exact Or.inl rfl | exact Or.inr (Or.inl rfl) | exact Or.inr (Or.inr rfl))) se_int ix_dIdx) sa_nil)) se_int)) (sg_name (i := 10) sc_law.nd rfl (by first | exact Or.inl rfl | exact Or.inr rfl)))
    (ss_cons (ss_asg (se_cmp (op_dEq (u60 hr)) (se_op op_dMod (se_idx (se_var (i := 1) rfl (by first | exact Or.inl rfl | exact Or.inr (Or.inl rfl) | exact Or.inr (Or.inr rfl))) se_int ix_dIdx) se_int) se_int (by first | exact nomark _ | rfl)) (sg_name (i := 11) sc_law.nd rfl (by first | exact Or.inl rfl | exact Or.inr rfl)))
    (ss_cons (ss_setLc (i := 12) (fin := lcEnd) (own := [("_law_edit_id", 16)]) (vs := [16]) (.inl rfl) rfl sc_law.nd rfl rfl (sw_true rfl rfl rfl (by decide +kernel)) (si_of (se_var (i := 2) rfl (by first | exact Or.inl rfl | exact Or.inr (Or.inl rfl) | exact Or.inr (Or.inr rfl)))) (blkOk_by (N := N_law) (sc := defScope s_law) (own := [("_law_edit_id", 16)]) (by decide +kernel)) (fun _ _ _ _ _ => (sg_name (i := 16) sc_law.nd rfl (by first | exact Or.inl rfl | exact Or.inr rfl))) (fun _ _ _ _ _ => (sl_one (st_cmp bo_eq (op_dEq (u60 hr)) (se_idx (se_var (i := 16) rfl (by first | exact Or.inl rfl | exact Or.inr (Or.inl rfl) | exact Or.inr (Or.inr rfl))) se_int ix_dIdx) (se_var (i := 5) rfl (by first | exact Or.inl rfl | exact Or.inr (Or.inl rfl) | exact Or.inr (Or.inr rfl))) (by first | exact nomark _ | rfl)))) (fun _ _ _ _ _ => (se_var (i := 16) rfl (by first | exact Or.inl rfl | exact Or.inr (Or.inl rfl) | exact Or.inr (Or.inr rfl)))) (by decide))
    (ss_cons (ss_asg (se_and (se_cmp (op_dEq (u60 hr)) (se_var (i := 9) rfl (by first | exact Or.inl rfl | exact Or.inr (Or.inl rfl) | exact Or.inr (Or.inr rfl))) se_int (by first | exact nomark _ | rfl)) (se_one (se_or (se_not (se_fld B.t_cuts (se_var (i := 6) rfl (by first | exact Or.inl rfl | exact Or.inr (Or.inl rfl) | exact Or.inr (Or.inr rfl))))) (se_one (se_cmp (op_dEq (u60 hr)) (se_var (i := 10) rfl (by first | exact Or.inl rfl | exact Or.inr (Or.inl rfl) | exact Or.inr (Or.inr rfl))) se_int (by first | exact nomark _ | rfl)))))) (sg_name (i := 13) sc_law.nd rfl (by first | exact Or.inl rfl | exact Or.inr rfl)))
    (ss_cons (ss_asg (se_var (i := 3) rfl (by first | exact Or.inl rfl | exact Or.inr (Or.inl rfl) | exact Or.inr (Or.inr rfl))) (sg_name (i := 14) sc_law.nd rfl (by first | exact Or.inl rfl | exact Or.inr rfl)))
    (ss_cons (ss_if (sw_or (st_truth (se_var (i := 13) rfl (by first | exact Or.inl rfl | exact Or.inr (Or.inl rfl) | exact Or.inr (Or.inr rfl)))) (sw_or (st_truth (se_var (i := 11) rfl (by first | exact Or.inl rfl | exact Or.inr (Or.inl rfl) | exact Or.inr (Or.inr rfl)))) (sw_or (st_cmp bo_eq (op_dEq (u60 hr)) (se_var (i := 3) rfl (by first | exact Or.inl rfl | exact Or.inr (Or.inl rfl) | exact Or.inr (Or.inr rfl))) (se_var (i := 2) rfl (by first | exact Or.inl rfl | exact Or.inr (Or.inl rfl) | exact Or.inr (Or.inr rfl))) (by first | exact nomark _ | rfl)) (sw_or1 (st_cmp bo_gt op_dGt (sb_len  B.len (sa_cons (se_var (i := 12) rfl (by first | exact Or.inl rfl | exact Or.inr (Or.inl rfl) | exact Or.inr (Or.inr rfl))) sa_nil)) se_int (by first | exact nomark _ | rfl)))))).pt (ss_one (ss_asg (se_var (i := 2) rfl (by first | exact Or.inl rfl | exact Or.inr (Or.inl rfl) | exact Or.inr (Or.inr rfl))) (sg_name (i := 14) sc_law.nd rfl (by first | exact Or.inl rfl | exact Or.inr rfl)))) ss_nil)
    (ss_one (ss_ret (se_cmp (op_dEq (u60 hr)) (se_def callH (.inl rfl) (takes_of rfl rfl rfl rfl) D_replaced_by G_replaced_by hr (sa_cons (se_var (i := 7) rfl (by first | exact Or.inl rfl | exact Or.inr (Or.inl rfl) | exact Or.inr (Or.inr rfl))) (sa_cons (se_var (i := 4) rfl (by first | exact Or.inl rfl | exact Or.inr (Or.inl rfl) | exact Or.inr (Or.inr rfl))) (sa_cons (se_var (i := 11) rfl (by first | exact Or.inl rfl | exact Or.inr (Or.inl rfl) | exact Or.inr (Or.inr rfl))) (sa_cons (se_var (i := 8) rfl (by first | exact Or.inl rfl | exact Or.inr (Or.inl rfl) | exact Or.inr (Or.inr rfl))) (sa_cons (se_var (i := 9) rfl (by first | exact Or.inl rfl | exact Or.inr (Or.inl rfl) | exact Or.inr (Or.inr rfl))) (sa_cons (se_var (i := 10) rfl (by first | exact Or.inl rfl | exact Or.inr (Or.inl rfl) | exact Or.inr (Or.inr rfl))) sa_nil))))))) (se_var (i := 14) rfl (by first | exact Or.inl rfl | exact Or.inr (Or.inl rfl) | exact Or.inr (Or.inr rfl))) (by first | exact nomark _ | rfl))))))))))))))))))))
end
theorem all_mk {l : PySem.W.OpenLaw} {w : World} {K : PySem.W.Frag} {h : Heap} {mg : Str → Option Value} {fa : Addr} (X : K.In h) (G : h.Ns mainGlobals mg) (hfa : mg "law" = some (.ref fa))
    {C_Rule : Addr} (n_Rule : PySem.W.nsIn K mainGlobals "Rule" = some (some (.ref C_Rule)))
    (pg_Rule : PySem.W.plainGet K C_Rule Str.empty = true)
    (hd_Rule : PySem.W.hasDictIn K C_Rule = true)
    (po_Rule : PySem.W.plainOver K C_Rule = true)
    (sa_Rule : PySem.W.findIn K (.ref C_Rule) "__setattr__" = some (some (.builtin "object.__setattr__")))
    (x_Rule_alike : PySem.W.findIn K (.ref C_Rule) "alike" = some none)
    (x_Rule_cuts : PySem.W.findIn K (.ref C_Rule) "cuts" = some none)
    (x_Rule_longest : PySem.W.findIn K (.ref C_Rule) "longest" = some none)
    (x_Rule_reads : PySem.W.findIn K (.ref C_Rule) "reads" = some none)
    (x_Rule_swaps : PySem.W.findIn K (.ref C_Rule) "swaps" = some none)
    (x_Rule_turns : PySem.W.findIn K (.ref C_Rule) "turns" = some none)
    (x_Rule_unfit : PySem.W.findIn K (.ref C_Rule) "unfit" = some none)
    {C_KeeperState : Addr} (n_KeeperState : PySem.W.nsIn K mainGlobals "KeeperState" = some (some (.ref C_KeeperState)))
    (pg_KeeperState : PySem.W.plainGet K C_KeeperState Str.empty = true)
    (hd_KeeperState : PySem.W.hasDictIn K C_KeeperState = true)
    (po_KeeperState : PySem.W.plainOver K C_KeeperState = true)
    (sa_KeeperState : PySem.W.findIn K (.ref C_KeeperState) "__setattr__" = some (some (.builtin "object.__setattr__")))
    (x_KeeperState_asking : PySem.W.findIn K (.ref C_KeeperState) "asking" = some none)
    (x_KeeperState_away : PySem.W.findIn K (.ref C_KeeperState) "away" = some none)
    (x_KeeperState_devices : PySem.W.findIn K (.ref C_KeeperState) "devices" = some none)
    (x_KeeperState_drops : PySem.W.findIn K (.ref C_KeeperState) "drops" = some none)
    (x_KeeperState_fetching : PySem.W.findIn K (.ref C_KeeperState) "fetching" = some none)
    (x_KeeperState_had : PySem.W.findIn K (.ref C_KeeperState) "had" = some none)
    (x_KeeperState_heard : PySem.W.findIn K (.ref C_KeeperState) "heard" = some none)
    (x_KeeperState_holding : PySem.W.findIn K (.ref C_KeeperState) "holding" = some none)
    (x_KeeperState_ignores : PySem.W.findIn K (.ref C_KeeperState) "ignores" = some none)
    (x_KeeperState_know : PySem.W.findIn K (.ref C_KeeperState) "know" = some none)
    (x_KeeperState_late : PySem.W.findIn K (.ref C_KeeperState) "late" = some none)
    (x_KeeperState_me : PySem.W.findIn K (.ref C_KeeperState) "me" = some none)
    (x_KeeperState_next_number : PySem.W.findIn K (.ref C_KeeperState) "next_number" = some none)
    (x_KeeperState_next_place : PySem.W.findIn K (.ref C_KeeperState) "next_place" = some none)
    (x_KeeperState_pending : PySem.W.findIn K (.ref C_KeeperState) "pending" = some none)
    (x_KeeperState_pieces : PySem.W.findIn K (.ref C_KeeperState) "pieces" = some none)
    (x_KeeperState_placed : PySem.W.findIn K (.ref C_KeeperState) "placed" = some none)
    (x_KeeperState_requests : PySem.W.findIn K (.ref C_KeeperState) "requests" = some none)
    (x_KeeperState_rule : PySem.W.findIn K (.ref C_KeeperState) "rule" = some none)
    (x_KeeperState_scan : PySem.W.findIn K (.ref C_KeeperState) "scan" = some none)
    (x_KeeperState_shelf : PySem.W.findIn K (.ref C_KeeperState) "shelf" = some none)
    (x_KeeperState_stage : PySem.W.findIn K (.ref C_KeeperState) "stage" = some none)
    (x_KeeperState_taken : PySem.W.findIn K (.ref C_KeeperState) "taken" = some none)
    {C_Placed : Addr} (n_Placed : PySem.W.nsIn K mainGlobals "Placed" = some (some (.ref C_Placed)))
    (pg_Placed : PySem.W.plainGet K C_Placed Str.empty = true)
    (hd_Placed : PySem.W.hasDictIn K C_Placed = true)
    (po_Placed : PySem.W.plainOver K C_Placed = true)
    (sa_Placed : PySem.W.findIn K (.ref C_Placed) "__setattr__" = some (some (.builtin "object.__setattr__")))
    (x_Placed_content : PySem.W.findIn K (.ref C_Placed) "content" = some none)
    (x_Placed_count : PySem.W.findIn K (.ref C_Placed) "count" = some none)
    (x_Placed_cuts : PySem.W.findIn K (.ref C_Placed) "cuts" = some none)
    (x_Placed_ids : PySem.W.findIn K (.ref C_Placed) "ids" = some none)
    (x_Placed_line : PySem.W.findIn K (.ref C_Placed) "line" = some none)
    (x_Placed_names : PySem.W.findIn K (.ref C_Placed) "names" = some none)
    (x_Placed_path : PySem.W.findIn K (.ref C_Placed) "path" = some none)
    (x_Placed_seen : PySem.W.findIn K (.ref C_Placed) "seen" = some none)
    (x_Placed_thing : PySem.W.findIn K (.ref C_Placed) "thing" = some none)
    {C_Knowledge : Addr} (n_Knowledge : PySem.W.nsIn K mainGlobals "Knowledge" = some (some (.ref C_Knowledge)))
    (pg_Knowledge : PySem.W.plainGet K C_Knowledge Str.empty = true)
    (hd_Knowledge : PySem.W.hasDictIn K C_Knowledge = true)
    (po_Knowledge : PySem.W.plainOver K C_Knowledge = true)
    (sa_Knowledge : PySem.W.findIn K (.ref C_Knowledge) "__setattr__" = some (some (.builtin "object.__setattr__")))
    (x_Knowledge_base : PySem.W.findIn K (.ref C_Knowledge) "base" = some none)
    (x_Knowledge_clock : PySem.W.findIn K (.ref C_Knowledge) "clock" = some none)
    (x_Knowledge_knows : PySem.W.findIn K (.ref C_Knowledge) "knows" = some none)
    (x_Knowledge_rest : PySem.W.findIn K (.ref C_Knowledge) "rest" = some none)
    (x_Knowledge_upto : PySem.W.findIn K (.ref C_Knowledge) "upto" = some none)
    {a0 : Addr} {od0 an0 : Option Addr} {sl0 : Array (Option Value)} {oc0 dc0 pm0 cd0 ct0 : Value} {dk0 : Addr}
    (n0 : PySem.W.findIn K (.ref C_Knowledge) "__init__" = some (some (.ref a0)))
    (i0 : PySem.W.isFn K (.ref a0) = true)
    (l0 : K.lookup a0 = some ⟨oc0, od0, .func (PySem.W.fnOf "__init__" "Knowledge.__init__" (defArgs s_Knowledge_init) (defBody s_Knowledge_init) (defScope s_Knowledge_init) .none (.ref dk0) dc0 pm0 an0 cd0 ct0), sl0⟩)
    (c0 : PySem.W.codeIn K cd0 "Knowledge.__init__" = true)
    (k0 : PySem.W.keepIn K (.ref a0) = true)
    (mk_Knowledge : PySem.W.makesIn K C_Knowledge = true)
    (kc_Knowledge : PySem.W.keepIn K (.ref C_Knowledge) = true)
    {tkq0_clock : Tok}
    (q0_clock : PySem.W.nsIn K dk0 "clock" = some (some (.int 0 tkq0_clock)))
    {Tq0_base : Addr} {Todq0_base : Option Addr} {Tnq0_base : Nat} {Tslq0_base : Array (Option Value)}
    (q0_base : PySem.W.nsIn K dk0 "base" = some (some (.ref Tq0_base)))
    (rq0_base : K.lookup Tq0_base = some ⟨.type "tuple", Todq0_base, .seq #[] Tnq0_base, Tslq0_base⟩)
    {tkq0_upto : Tok}
    (q0_upto : PySem.W.nsIn K dk0 "upto" = some (some (.int 0 tkq0_upto)))
    {Tq0_rest : Addr} {Todq0_rest : Option Addr} {Tnq0_rest : Nat} {Tslq0_rest : Array (Option Value)}
    (q0_rest : PySem.W.nsIn K dk0 "rest" = some (some (.ref Tq0_rest)))
    (rq0_rest : K.lookup Tq0_rest = some ⟨.type "tuple", Todq0_rest, .seq #[] Tnq0_rest, Tslq0_rest⟩)
    (q0_knows : PySem.W.nsIn K dk0 "knows" = some (some .none))
    {a1 : Addr} {od1 an1 : Option Addr} {sl1 : Array (Option Value)} {oc1 dc1 pm1 cd1 ct1 : Value} {dk1 : Addr}
    (n1 : PySem.W.findIn K (.ref C_KeeperState) "__init__" = some (some (.ref a1)))
    (i1 : PySem.W.isFn K (.ref a1) = true)
    (l1 : K.lookup a1 = some ⟨oc1, od1, .func (PySem.W.fnOf "__init__" "KeeperState.__init__" (defArgs s_KeeperState_init) (defBody s_KeeperState_init) (defScope s_KeeperState_init) .none (.ref dk1) dc1 pm1 an1 cd1 ct1), sl1⟩)
    (c1 : PySem.W.codeIn K cd1 "KeeperState.__init__" = true)
    (k1 : PySem.W.keepIn K (.ref a1) = true)
    (mk_KeeperState : PySem.W.makesIn K C_KeeperState = true)
    (kc_KeeperState : PySem.W.keepIn K (.ref C_KeeperState) = true)
    (q1_know : PySem.W.nsIn K dk1 "know" = some (some .none))
    {Tq1_heard : Addr} {Todq1_heard : Option Addr} {Tnq1_heard : Nat} {Tslq1_heard : Array (Option Value)}
    (q1_heard : PySem.W.nsIn K dk1 "heard" = some (some (.ref Tq1_heard)))
    (rq1_heard : K.lookup Tq1_heard = some ⟨.type "tuple", Todq1_heard, .seq #[] Tnq1_heard, Tslq1_heard⟩)
    {Tq1_placed : Addr} {Todq1_placed : Option Addr} {Tnq1_placed : Nat} {Tslq1_placed : Array (Option Value)}
    (q1_placed : PySem.W.nsIn K dk1 "placed" = some (some (.ref Tq1_placed)))
    (rq1_placed : K.lookup Tq1_placed = some ⟨.type "tuple", Todq1_placed, .seq #[] Tnq1_placed, Tslq1_placed⟩)
    {Tq1_had : Addr} {Todq1_had : Option Addr} {Tnq1_had : Nat} {Tslq1_had : Array (Option Value)}
    (q1_had : PySem.W.nsIn K dk1 "had" = some (some (.ref Tq1_had)))
    (rq1_had : K.lookup Tq1_had = some ⟨.type "tuple", Todq1_had, .seq #[] Tnq1_had, Tslq1_had⟩)
    {Tq1_taken : Addr} {Todq1_taken : Option Addr} {Tnq1_taken : Nat} {Tslq1_taken : Array (Option Value)}
    (q1_taken : PySem.W.nsIn K dk1 "taken" = some (some (.ref Tq1_taken)))
    (rq1_taken : K.lookup Tq1_taken = some ⟨.type "tuple", Todq1_taken, .seq #[] Tnq1_taken, Tslq1_taken⟩)
    {Tq1_shelf : Addr} {Todq1_shelf : Option Addr} {Tnq1_shelf : Nat} {Tslq1_shelf : Array (Option Value)}
    (q1_shelf : PySem.W.nsIn K dk1 "shelf" = some (some (.ref Tq1_shelf)))
    (rq1_shelf : K.lookup Tq1_shelf = some ⟨.type "tuple", Todq1_shelf, .seq #[] Tnq1_shelf, Tslq1_shelf⟩)
    {tkq1_next_place : Tok}
    (q1_next_place : PySem.W.nsIn K dk1 "next_place" = some (some (.int 0 tkq1_next_place)))
    (q1_pending : PySem.W.nsIn K dk1 "pending" = some (some .none))
    {Tq1_late : Addr} {Todq1_late : Option Addr} {Tnq1_late : Nat} {Tslq1_late : Array (Option Value)}
    (q1_late : PySem.W.nsIn K dk1 "late" = some (some (.ref Tq1_late)))
    (rq1_late : K.lookup Tq1_late = some ⟨.type "tuple", Todq1_late, .seq #[] Tnq1_late, Tslq1_late⟩)
    {Tq1_requests : Addr} {Todq1_requests : Option Addr} {Tnq1_requests : Nat} {Tslq1_requests : Array (Option Value)}
    (q1_requests : PySem.W.nsIn K dk1 "requests" = some (some (.ref Tq1_requests)))
    (rq1_requests : K.lookup Tq1_requests = some ⟨.type "tuple", Todq1_requests, .seq #[] Tnq1_requests, Tslq1_requests⟩)
    {Tq1_pieces : Addr} {Todq1_pieces : Option Addr} {Tnq1_pieces : Nat} {Tslq1_pieces : Array (Option Value)}
    (q1_pieces : PySem.W.nsIn K dk1 "pieces" = some (some (.ref Tq1_pieces)))
    (rq1_pieces : K.lookup Tq1_pieces = some ⟨.type "tuple", Todq1_pieces, .seq #[] Tnq1_pieces, Tslq1_pieces⟩)
    {Tq1_away : Addr} {Todq1_away : Option Addr} {Tnq1_away : Nat} {Tslq1_away : Array (Option Value)}
    (q1_away : PySem.W.nsIn K dk1 "away" = some (some (.ref Tq1_away)))
    (rq1_away : K.lookup Tq1_away = some ⟨.type "tuple", Todq1_away, .seq #[] Tnq1_away, Tslq1_away⟩)
    {Tq1_holding : Addr} {Todq1_holding : Option Addr} {Tnq1_holding : Nat} {Tslq1_holding : Array (Option Value)}
    (q1_holding : PySem.W.nsIn K dk1 "holding" = some (some (.ref Tq1_holding)))
    (rq1_holding : K.lookup Tq1_holding = some ⟨.type "tuple", Todq1_holding, .seq #[] Tnq1_holding, Tslq1_holding⟩)
    {Tq1_asking : Addr} {Todq1_asking : Option Addr} {Tnq1_asking : Nat} {Tslq1_asking : Array (Option Value)}
    (q1_asking : PySem.W.nsIn K dk1 "asking" = some (some (.ref Tq1_asking)))
    (rq1_asking : K.lookup Tq1_asking = some ⟨.type "tuple", Todq1_asking, .seq #[] Tnq1_asking, Tslq1_asking⟩)
    {Tq1_fetching : Addr} {Todq1_fetching : Option Addr} {Tnq1_fetching : Nat} {Tslq1_fetching : Array (Option Value)}
    (q1_fetching : PySem.W.nsIn K dk1 "fetching" = some (some (.ref Tq1_fetching)))
    (rq1_fetching : K.lookup Tq1_fetching = some ⟨.type "tuple", Todq1_fetching, .seq #[] Tnq1_fetching, Tslq1_fetching⟩)
    {Tq1_drops : Addr} {Todq1_drops : Option Addr} {Tnq1_drops : Nat} {Tslq1_drops : Array (Option Value)}
    (q1_drops : PySem.W.nsIn K dk1 "drops" = some (some (.ref Tq1_drops)))
    (rq1_drops : K.lookup Tq1_drops = some ⟨.type "tuple", Todq1_drops, .seq #[] Tnq1_drops, Tslq1_drops⟩)
    {tkq1_next_number : Tok}
    (q1_next_number : PySem.W.nsIn K dk1 "next_number" = some (some (.int 0 tkq1_next_number)))
    {Tq1_stage : Addr} {Todq1_stage : Option Addr} {Tnq1_stage : Nat} {Tslq1_stage : Array (Option Value)} {Tkq1_stage : Tok}
    (q1_stage : PySem.W.nsIn K dk1 "stage" = some (some (.ref Tq1_stage)))
    (rq1_stage : K.lookup Tq1_stage = some ⟨.type "tuple", Todq1_stage, .seq #[.str "idle" Tkq1_stage] Tnq1_stage, Tslq1_stage⟩)
    {a2 : Addr} {od2 an2 : Option Addr} {sl2 : Array (Option Value)} {oc2 dc2 pm2 cd2 ct2 : Value} {kV2 : Value}
    (n2 : PySem.W.findIn K (.ref C_Placed) "__init__" = some (some (.ref a2)))
    (i2 : PySem.W.isFn K (.ref a2) = true)
    (l2 : K.lookup a2 = some ⟨oc2, od2, .func (PySem.W.fnOf "__init__" "Placed.__init__" (defArgs s_Placed_init) (defBody s_Placed_init) (defScope s_Placed_init) .none kV2 dc2 pm2 an2 cd2 ct2), sl2⟩)
    (c2 : PySem.W.codeIn K cd2 "Placed.__init__" = true)
    (k2 : PySem.W.keepIn K (.ref a2) = true)
    (mk_Placed : PySem.W.makesIn K C_Placed = true)
    (kc_Placed : PySem.W.keepIn K (.ref C_Placed) = true)
    {a3 : Addr} {od3 an3 : Option Addr} {sl3 : Array (Option Value)} {oc3 dc3 pm3 cd3 ct3 : Value} {dk3 : Addr}
    (n3 : PySem.W.findIn K (.ref C_Rule) "__init__" = some (some (.ref a3)))
    (i3 : PySem.W.isFn K (.ref a3) = true)
    (l3 : K.lookup a3 = some ⟨oc3, od3, .func (PySem.W.fnOf "__init__" "Rule.__init__" (defArgs s_Rule_init) (defBody s_Rule_init) (defScope s_Rule_init) .none (.ref dk3) dc3 pm3 an3 cd3 ct3), sl3⟩)
    (c3 : PySem.W.codeIn K cd3 "Rule.__init__" = true)
    (k3 : PySem.W.keepIn K (.ref a3) = true)
    (mk_Rule : PySem.W.makesIn K C_Rule = true)
    (kc_Rule : PySem.W.keepIn K (.ref C_Rule) = true)
    {Tq3_alike : Addr} {Todq3_alike : Option Addr} {Tnq3_alike : Nat} {Tslq3_alike : Array (Option Value)}
    (q3_alike : PySem.W.nsIn K dk3 "alike" = some (some (.ref Tq3_alike)))
    (rq3_alike : K.lookup Tq3_alike = some ⟨.type "tuple", Todq3_alike, .seq #[] Tnq3_alike, Tslq3_alike⟩)
    {Tq3_unfit : Addr} {Todq3_unfit : Option Addr} {Tnq3_unfit : Nat} {Tslq3_unfit : Array (Option Value)}
    (q3_unfit : PySem.W.nsIn K dk3 "unfit" = some (some (.ref Tq3_unfit)))
    (rq3_unfit : K.lookup Tq3_unfit = some ⟨.type "tuple", Todq3_unfit, .seq #[] Tnq3_unfit, Tslq3_unfit⟩)
    {tkq3_longest : Tok}
    (q3_longest : PySem.W.nsIn K dk3 "longest" = some (some (.int 80 tkq3_longest)))
    (q3_swaps : PySem.W.nsIn K dk3 "swaps" = some (some (.bool true)))
    (q3_reads : PySem.W.nsIn K dk3 "reads" = some (some (.bool true)))
    (q3_cuts : PySem.W.nsIn K dk3 "cuts" = some (some (.bool true)))
    (q3_turns : PySem.W.nsIn K dk3 "turns" = some (some (.bool true)))
    {a4 : Addr} {od4 an4 : Option Addr} {sl4 : Array (Option Value)} {oc4 dc4 pm4 cd4 ct4 : Value} {kV4 : Value}
    (n4 : PySem.W.nsIn K mainGlobals "_law_cells" = some (some (.ref a4)))
    (l4 : K.lookup a4 = some ⟨oc4, od4, .func (PySem.W.fnOf "_law_cells" "_law_cells" (defArgs s_l_cells) (defBody s_l_cells) (defScope s_l_cells) .none kV4 dc4 pm4 an4 cd4 ct4), sl4⟩)
    (c4 : PySem.W.codeIn K cd4 "_law_cells" = true)
    (k4 : PySem.W.keepIn K (.ref a4) = true)
    {a5 : Addr} {od5 an5 : Option Addr} {sl5 : Array (Option Value)} {oc5 dc5 pm5 cd5 ct5 : Value} {kV5 : Value}
    (n5 : PySem.W.nsIn K mainGlobals "had_at" = some (some (.ref a5)))
    (l5 : K.lookup a5 = some ⟨oc5, od5, .func (PySem.W.fnOf "had_at" "had_at" (defArgs s_had_at) (defBody s_had_at) (defScope s_had_at) .none kV5 dc5 pm5 an5 cd5 ct5), sl5⟩)
    (c5 : PySem.W.codeIn K cd5 "had_at" = true)
    (k5 : PySem.W.keepIn K (.ref a5) = true)
    {a6 : Addr} {od6 an6 : Option Addr} {sl6 : Array (Option Value)} {oc6 dc6 pm6 cd6 ct6 : Value} {kV6 : Value}
    (n6 : PySem.W.nsIn K mainGlobals "replaced_by" = some (some (.ref a6)))
    (l6 : K.lookup a6 = some ⟨oc6, od6, .func (PySem.W.fnOf "replaced_by" "replaced_by" (defArgs s_replaced_by) (defBody s_replaced_by) (defScope s_replaced_by) .none kV6 dc6 pm6 an6 cd6 ct6), sl6⟩)
    (c6 : PySem.W.codeIn K cd6 "replaced_by" = true)
    (k6 : PySem.W.keepIn K (.ref a6) = true)
    {a7 : Addr} {od7 an7 : Option Addr} {sl7 : Array (Option Value)} {oc7 dc7 pm7 cd7 ct7 : Value} {kV7 : Value}
    (n7 : PySem.W.nsIn K mainGlobals "law" = some (some (.ref a7)))
    (l7 : K.lookup a7 = some ⟨oc7, od7, .func (PySem.W.fnOf "law" "law" (defArgs s_law) (defBody s_law) (defScope s_law) .none kV7 dc7 pm7 an7 cd7 ct7), sl7⟩)
    (c7 : PySem.W.codeIn K cd7 "law" = true)
    (k7 : PySem.W.keepIn K (.ref a7) = true)
    (z_int : PySem.W.nsIn K mainGlobals "int" = some none)
    (z_len : PySem.W.nsIn K mainGlobals "len" = some none)
    (z_list : PySem.W.nsIn K mainGlobals "list" = some none)
    (z_range : PySem.W.nsIn K mainGlobals "range" = some none)
    (z_tuple : PySem.W.nsIn K mainGlobals "tuple" = some none)
    : ∃ fd : FuncData, (∀ (s : Shared) (v : Value), BindsTo s fd ⟨[v], []⟩ [("_law_script", v)]) ∧ ∀ base : Heap, K.In base → base.Ns mainGlobals mg → FnOk l.prog w K mg base (L2.CX l.prog w) 5 fa fd ["_law_script"] (spF K mg 1 d_law) := by
  have e := hfa.symm.trans (PySem.W.mg_of X G n7)
  cases e
  have hC_Rule := PySem.W.mg_of X G n_Rule
  have hC_KeeperState := PySem.W.mg_of X G n_KeeperState
  have hC_Placed := PySem.W.mg_of X G n_Placed
  have hC_Knowledge := PySem.W.mg_of X G n_Knowledge
  have B : Bi K mg := ⟨PySem.W.mg_none_of X G z_int, PySem.W.mg_none_of X G z_len, PySem.W.mg_none_of X G z_list, PySem.W.mg_none_of X G z_range, PySem.W.mg_none_of X G z_tuple, List.forall_mem_cons.mpr ⟨fun C hC => by rw [hC_Rule] at hC; cases hC; exact ⟨⟨pg_Rule, hd_Rule, po_Rule, sa_Rule⟩, x_Rule_alike⟩, fun _ z => nomatch z⟩, List.forall_mem_cons.mpr ⟨fun C hC => by rw [hC_KeeperState] at hC; cases hC; exact ⟨⟨pg_KeeperState, hd_KeeperState, po_KeeperState, sa_KeeperState⟩, x_KeeperState_asking⟩, fun _ z => nomatch z⟩, List.forall_mem_cons.mpr ⟨fun C hC => by rw [hC_KeeperState] at hC; cases hC; exact ⟨⟨pg_KeeperState, hd_KeeperState, po_KeeperState, sa_KeeperState⟩, x_KeeperState_away⟩, fun _ z => nomatch z⟩, List.forall_mem_cons.mpr ⟨fun C hC => by rw [hC_Knowledge] at hC; cases hC; exact ⟨⟨pg_Knowledge, hd_Knowledge, po_Knowledge, sa_Knowledge⟩, x_Knowledge_base⟩, fun _ z => nomatch z⟩, List.forall_mem_cons.mpr ⟨fun C hC => by rw [hC_Knowledge] at hC; cases hC; exact ⟨⟨pg_Knowledge, hd_Knowledge, po_Knowledge, sa_Knowledge⟩, x_Knowledge_clock⟩, fun _ z => nomatch z⟩, List.forall_mem_cons.mpr ⟨fun C hC => by rw [hC_Placed] at hC; cases hC; exact ⟨⟨pg_Placed, hd_Placed, po_Placed, sa_Placed⟩, x_Placed_content⟩, fun _ z => nomatch z⟩, List.forall_mem_cons.mpr ⟨fun C hC => by rw [hC_Placed] at hC; cases hC; exact ⟨⟨pg_Placed, hd_Placed, po_Placed, sa_Placed⟩, x_Placed_count⟩, fun _ z => nomatch z⟩, List.forall_mem_cons.mpr ⟨fun C hC => by rw [hC_Rule] at hC; cases hC; exact ⟨⟨pg_Rule, hd_Rule, po_Rule, sa_Rule⟩, x_Rule_cuts⟩, List.forall_mem_cons.mpr ⟨fun C hC => by rw [hC_Placed] at hC; cases hC; exact ⟨⟨pg_Placed, hd_Placed, po_Placed, sa_Placed⟩, x_Placed_cuts⟩, fun _ z => nomatch z⟩⟩, List.forall_mem_cons.mpr ⟨fun C hC => by rw [hC_KeeperState] at hC; cases hC; exact ⟨⟨pg_KeeperState, hd_KeeperState, po_KeeperState, sa_KeeperState⟩, x_KeeperState_devices⟩, fun _ z => nomatch z⟩, List.forall_mem_cons.mpr ⟨fun C hC => by rw [hC_KeeperState] at hC; cases hC; exact ⟨⟨pg_KeeperState, hd_KeeperState, po_KeeperState, sa_KeeperState⟩, x_KeeperState_drops⟩, fun _ z => nomatch z⟩, List.forall_mem_cons.mpr ⟨fun C hC => by rw [hC_KeeperState] at hC; cases hC; exact ⟨⟨pg_KeeperState, hd_KeeperState, po_KeeperState, sa_KeeperState⟩, x_KeeperState_fetching⟩, fun _ z => nomatch z⟩, List.forall_mem_cons.mpr ⟨fun C hC => by rw [hC_KeeperState] at hC; cases hC; exact ⟨⟨pg_KeeperState, hd_KeeperState, po_KeeperState, sa_KeeperState⟩, x_KeeperState_had⟩, fun _ z => nomatch z⟩, List.forall_mem_cons.mpr ⟨fun C hC => by rw [hC_KeeperState] at hC; cases hC; exact ⟨⟨pg_KeeperState, hd_KeeperState, po_KeeperState, sa_KeeperState⟩, x_KeeperState_heard⟩, fun _ z => nomatch z⟩, List.forall_mem_cons.mpr ⟨fun C hC => by rw [hC_KeeperState] at hC; cases hC; exact ⟨⟨pg_KeeperState, hd_KeeperState, po_KeeperState, sa_KeeperState⟩, x_KeeperState_holding⟩, fun _ z => nomatch z⟩, List.forall_mem_cons.mpr ⟨fun C hC => by rw [hC_Placed] at hC; cases hC; exact ⟨⟨pg_Placed, hd_Placed, po_Placed, sa_Placed⟩, x_Placed_ids⟩, fun _ z => nomatch z⟩, List.forall_mem_cons.mpr ⟨fun C hC => by rw [hC_KeeperState] at hC; cases hC; exact ⟨⟨pg_KeeperState, hd_KeeperState, po_KeeperState, sa_KeeperState⟩, x_KeeperState_ignores⟩, fun _ z => nomatch z⟩, List.forall_mem_cons.mpr ⟨fun C hC => by rw [hC_KeeperState] at hC; cases hC; exact ⟨⟨pg_KeeperState, hd_KeeperState, po_KeeperState, sa_KeeperState⟩, x_KeeperState_know⟩, fun _ z => nomatch z⟩, List.forall_mem_cons.mpr ⟨fun C hC => by rw [hC_Knowledge] at hC; cases hC; exact ⟨⟨pg_Knowledge, hd_Knowledge, po_Knowledge, sa_Knowledge⟩, x_Knowledge_knows⟩, fun _ z => nomatch z⟩, List.forall_mem_cons.mpr ⟨fun C hC => by rw [hC_KeeperState] at hC; cases hC; exact ⟨⟨pg_KeeperState, hd_KeeperState, po_KeeperState, sa_KeeperState⟩, x_KeeperState_late⟩, fun _ z => nomatch z⟩, List.forall_mem_cons.mpr ⟨fun C hC => by rw [hC_Placed] at hC; cases hC; exact ⟨⟨pg_Placed, hd_Placed, po_Placed, sa_Placed⟩, x_Placed_line⟩, fun _ z => nomatch z⟩, List.forall_mem_cons.mpr ⟨fun C hC => by rw [hC_Rule] at hC; cases hC; exact ⟨⟨pg_Rule, hd_Rule, po_Rule, sa_Rule⟩, x_Rule_longest⟩, fun _ z => nomatch z⟩, List.forall_mem_cons.mpr ⟨fun C hC => by rw [hC_KeeperState] at hC; cases hC; exact ⟨⟨pg_KeeperState, hd_KeeperState, po_KeeperState, sa_KeeperState⟩, x_KeeperState_me⟩, fun _ z => nomatch z⟩, List.forall_mem_cons.mpr ⟨fun C hC => by rw [hC_Placed] at hC; cases hC; exact ⟨⟨pg_Placed, hd_Placed, po_Placed, sa_Placed⟩, x_Placed_names⟩, fun _ z => nomatch z⟩, List.forall_mem_cons.mpr ⟨fun C hC => by rw [hC_KeeperState] at hC; cases hC; exact ⟨⟨pg_KeeperState, hd_KeeperState, po_KeeperState, sa_KeeperState⟩, x_KeeperState_next_number⟩, fun _ z => nomatch z⟩, List.forall_mem_cons.mpr ⟨fun C hC => by rw [hC_KeeperState] at hC; cases hC; exact ⟨⟨pg_KeeperState, hd_KeeperState, po_KeeperState, sa_KeeperState⟩, x_KeeperState_next_place⟩, fun _ z => nomatch z⟩, List.forall_mem_cons.mpr ⟨fun C hC => by rw [hC_Placed] at hC; cases hC; exact ⟨⟨pg_Placed, hd_Placed, po_Placed, sa_Placed⟩, x_Placed_path⟩, fun _ z => nomatch z⟩, List.forall_mem_cons.mpr ⟨fun C hC => by rw [hC_KeeperState] at hC; cases hC; exact ⟨⟨pg_KeeperState, hd_KeeperState, po_KeeperState, sa_KeeperState⟩, x_KeeperState_pending⟩, fun _ z => nomatch z⟩, List.forall_mem_cons.mpr ⟨fun C hC => by rw [hC_KeeperState] at hC; cases hC; exact ⟨⟨pg_KeeperState, hd_KeeperState, po_KeeperState, sa_KeeperState⟩, x_KeeperState_pieces⟩, fun _ z => nomatch z⟩, List.forall_mem_cons.mpr ⟨fun C hC => by rw [hC_KeeperState] at hC; cases hC; exact ⟨⟨pg_KeeperState, hd_KeeperState, po_KeeperState, sa_KeeperState⟩, x_KeeperState_placed⟩, fun _ z => nomatch z⟩, List.forall_mem_cons.mpr ⟨fun C hC => by rw [hC_Rule] at hC; cases hC; exact ⟨⟨pg_Rule, hd_Rule, po_Rule, sa_Rule⟩, x_Rule_reads⟩, fun _ z => nomatch z⟩, List.forall_mem_cons.mpr ⟨fun C hC => by rw [hC_KeeperState] at hC; cases hC; exact ⟨⟨pg_KeeperState, hd_KeeperState, po_KeeperState, sa_KeeperState⟩, x_KeeperState_requests⟩, fun _ z => nomatch z⟩, List.forall_mem_cons.mpr ⟨fun C hC => by rw [hC_Knowledge] at hC; cases hC; exact ⟨⟨pg_Knowledge, hd_Knowledge, po_Knowledge, sa_Knowledge⟩, x_Knowledge_rest⟩, fun _ z => nomatch z⟩, List.forall_mem_cons.mpr ⟨fun C hC => by rw [hC_KeeperState] at hC; cases hC; exact ⟨⟨pg_KeeperState, hd_KeeperState, po_KeeperState, sa_KeeperState⟩, x_KeeperState_rule⟩, fun _ z => nomatch z⟩, List.forall_mem_cons.mpr ⟨fun C hC => by rw [hC_KeeperState] at hC; cases hC; exact ⟨⟨pg_KeeperState, hd_KeeperState, po_KeeperState, sa_KeeperState⟩, x_KeeperState_scan⟩, fun _ z => nomatch z⟩, List.forall_mem_cons.mpr ⟨fun C hC => by rw [hC_Placed] at hC; cases hC; exact ⟨⟨pg_Placed, hd_Placed, po_Placed, sa_Placed⟩, x_Placed_seen⟩, fun _ z => nomatch z⟩, List.forall_mem_cons.mpr ⟨fun C hC => by rw [hC_KeeperState] at hC; cases hC; exact ⟨⟨pg_KeeperState, hd_KeeperState, po_KeeperState, sa_KeeperState⟩, x_KeeperState_shelf⟩, fun _ z => nomatch z⟩, List.forall_mem_cons.mpr ⟨fun C hC => by rw [hC_KeeperState] at hC; cases hC; exact ⟨⟨pg_KeeperState, hd_KeeperState, po_KeeperState, sa_KeeperState⟩, x_KeeperState_stage⟩, fun _ z => nomatch z⟩, List.forall_mem_cons.mpr ⟨fun C hC => by rw [hC_Rule] at hC; cases hC; exact ⟨⟨pg_Rule, hd_Rule, po_Rule, sa_Rule⟩, x_Rule_swaps⟩, fun _ z => nomatch z⟩, List.forall_mem_cons.mpr ⟨fun C hC => by rw [hC_KeeperState] at hC; cases hC; exact ⟨⟨pg_KeeperState, hd_KeeperState, po_KeeperState, sa_KeeperState⟩, x_KeeperState_taken⟩, fun _ z => nomatch z⟩, List.forall_mem_cons.mpr ⟨fun C hC => by rw [hC_Placed] at hC; cases hC; exact ⟨⟨pg_Placed, hd_Placed, po_Placed, sa_Placed⟩, x_Placed_thing⟩, fun _ z => nomatch z⟩, List.forall_mem_cons.mpr ⟨fun C hC => by rw [hC_Rule] at hC; cases hC; exact ⟨⟨pg_Rule, hd_Rule, po_Rule, sa_Rule⟩, x_Rule_turns⟩, fun _ z => nomatch z⟩, List.forall_mem_cons.mpr ⟨fun C hC => by rw [hC_Rule] at hC; cases hC; exact ⟨⟨pg_Rule, hd_Rule, po_Rule, sa_Rule⟩, x_Rule_unfit⟩, fun _ z => nomatch z⟩, List.forall_mem_cons.mpr ⟨fun C hC => by rw [hC_Knowledge] at hC; cases hC; exact ⟨⟨pg_Knowledge, hd_Knowledge, po_Knowledge, sa_Knowledge⟩, x_Knowledge_upto⟩, fun _ z => nomatch z⟩⟩
  have F0 := fun_mk (st := s_Knowledge_init) l0 c0 k0
  have F1 := fun_mk (st := s_KeeperState_init) l1 c1 k1
  have F2 := fun_mk (st := s_Placed_init) l2 c2 k2
  have F3 := fun_mk (st := s_Rule_init) l3 c3 k3
  have F4 := fun_mk (st := s_l_cells) l4 c4 k4
  have D4 : DefAt K mg "_law_cells" s_l_cells ["_law_script", "_law_count"] a4 _ := ⟨F4, PySem.W.mg_of X G n4, F4.binds (ps := ["_law_script", "_law_count"]) fun _ _ _ _ _ _ us hl => match us, hl with | [_, _], _ => rfl⟩
  have F5 := fun_mk (st := s_had_at) l5 c5 k5
  have D5 : DefAt K mg "had_at" s_had_at ["had", "path"] a5 _ := ⟨F5, PySem.W.mg_of X G n5, F5.binds (ps := ["had", "path"]) fun _ _ _ _ _ _ us hl => match us, hl with | [_, _], _ => rfl⟩
  have F6 := fun_mk (st := s_replaced_by) l6 c6 k6
  have D6 : DefAt K mg "replaced_by" s_replaced_by ["state", "had", "read", "was", "thing", "cuts"] a6 _ := ⟨F6, PySem.W.mg_of X G n6, F6.binds (ps := ["state", "had", "read", "was", "thing", "cuts"]) fun _ _ _ _ _ _ us hl => match us, hl with | [_, _, _, _, _, _], _ => rfl⟩
  have F7 := fun_mk (st := s_law) l7 c7 k7
  have D7 : DefAt K mg "law" s_law ["_law_script"] fa _ := ⟨F7, PySem.W.mg_of X G n7, F7.binds (ps := ["_law_script"]) fun _ _ _ _ _ _ us hl => match us, hl with | [_], _ => rfl⟩
  refine ⟨PySem.W.fnOf "law" "law" (defArgs s_law) (defBody s_law) (defScope s_law) .none kV7 dc7 pm7 an7 cd7 ct7, fun s v => .of_eq rfl, fun base _ _ => ?_⟩
  have G0 := ok_Knowledge_init (P := l.prog) (w := w) (base := base) F0 B
  have MK3 : MkAt l.prog w K mg base "Knowledge" 1 1 [] [0, 1, 2, 3, 4, 5, 6] [.int 0, .tup [], .int 0, .tup [], .non] d_Knowledge_init := mk_at2 (st := s_Knowledge_init) (ps := ["self", "devices", "clock", "base", "upto", "rest", "knows"]) (ms := [("clock", .int 0), ("base", .ref Tq0_base), ("upto", .int 0), ("rest", .ref Tq0_rest), ("knows", .non)]) ["self", "devices"] ["clock", "base", "upto", "rest", "knows"] ["clock", "base", "upto", "rest", "knows"] l0 c0 k0 ⟨mk_Knowledge, n0, i0, kc_Knowledge⟩ hC_Knowledge G0 (List.forall_mem_cons.mpr ⟨⟨_, q0_clock, ⟨_, rfl⟩⟩, List.forall_mem_cons.mpr ⟨⟨_, q0_base, rfl⟩, List.forall_mem_cons.mpr ⟨⟨_, q0_upto, ⟨_, rfl⟩⟩, List.forall_mem_cons.mpr ⟨⟨_, q0_rest, rfl⟩, List.forall_mem_cons.mpr ⟨⟨_, q0_knows, rfl⟩, fun _ z => nomatch z⟩⟩⟩⟩⟩) (by decide) (fun m S => RepL.cons (mk_int _) (RepL.cons (rep_tup0 rq0_base) (RepL.cons (mk_int _) (RepL.cons (rep_tup0 rq0_rest) (RepL.cons (mk_non) (RepL.nil)))))) rfl rfl rfl rfl rfl rfl rfl (by decide +kernel)
  have G1 := ok_KeeperState_init (P := l.prog) (w := w) (base := base) F1 B MK3
  have MK1 : MkAt l.prog w K mg base "KeeperState" 3 4 [] [0, 1, 2, 3, 4, 5, 6, 7, 8, 9, 10, 11, 12, 13, 14, 15, 16, 17, 18, 19, 20, 21, 22] [.non, .tup [], .tup [], .tup [], .tup [], .tup [], .int 0, .non, .tup [], .tup [], .tup [], .tup [], .tup [], .tup [], .tup [], .tup [], .int 0, .tup [.str "idle"]] d_KeeperState_init := mk_at2 (st := s_KeeperState_init) (ps := ["self", "me", "devices", "rule", "ignores", "know", "heard", "placed", "had", "taken", "shelf", "next_place", "pending", "late", "requests", "pieces", "away", "holding", "asking", "fetching", "drops", "next_number", "stage"]) (ms := [("know", .non), ("heard", .ref Tq1_heard), ("placed", .ref Tq1_placed), ("had", .ref Tq1_had), ("taken", .ref Tq1_taken), ("shelf", .ref Tq1_shelf), ("next_place", .int 0), ("pending", .non), ("late", .ref Tq1_late), ("requests", .ref Tq1_requests), ("pieces", .ref Tq1_pieces), ("away", .ref Tq1_away), ("holding", .ref Tq1_holding), ("asking", .ref Tq1_asking), ("fetching", .ref Tq1_fetching), ("drops", .ref Tq1_drops), ("next_number", .int 0), ("stage", .ref Tq1_stage)]) ["self", "me", "devices", "rule", "ignores"] ["know", "heard", "placed", "had", "taken", "shelf", "next_place", "pending", "late", "requests", "pieces", "away", "holding", "asking", "fetching", "drops", "next_number", "stage"] ["know", "heard", "placed", "had", "taken", "shelf", "next_place", "pending", "late", "requests", "pieces", "away", "holding", "asking", "fetching", "drops", "next_number", "stage"] l1 c1 k1 ⟨mk_KeeperState, n1, i1, kc_KeeperState⟩ hC_KeeperState G1 (List.forall_mem_cons.mpr ⟨⟨_, q1_know, rfl⟩, List.forall_mem_cons.mpr ⟨⟨_, q1_heard, rfl⟩, List.forall_mem_cons.mpr ⟨⟨_, q1_placed, rfl⟩, List.forall_mem_cons.mpr ⟨⟨_, q1_had, rfl⟩, List.forall_mem_cons.mpr ⟨⟨_, q1_taken, rfl⟩, List.forall_mem_cons.mpr ⟨⟨_, q1_shelf, rfl⟩, List.forall_mem_cons.mpr ⟨⟨_, q1_next_place, ⟨_, rfl⟩⟩, List.forall_mem_cons.mpr ⟨⟨_, q1_pending, rfl⟩, List.forall_mem_cons.mpr ⟨⟨_, q1_late, rfl⟩, List.forall_mem_cons.mpr ⟨⟨_, q1_requests, rfl⟩, List.forall_mem_cons.mpr ⟨⟨_, q1_pieces, rfl⟩, List.forall_mem_cons.mpr ⟨⟨_, q1_away, rfl⟩, List.forall_mem_cons.mpr ⟨⟨_, q1_holding, rfl⟩, List.forall_mem_cons.mpr ⟨⟨_, q1_asking, rfl⟩, List.forall_mem_cons.mpr ⟨⟨_, q1_fetching, rfl⟩, List.forall_mem_cons.mpr ⟨⟨_, q1_drops, rfl⟩, List.forall_mem_cons.mpr ⟨⟨_, q1_next_number, ⟨_, rfl⟩⟩, List.forall_mem_cons.mpr ⟨⟨_, q1_stage, rfl⟩, fun _ z => nomatch z⟩⟩⟩⟩⟩⟩⟩⟩⟩⟩⟩⟩⟩⟩⟩⟩⟩⟩) (by decide) (fun m S => RepL.cons (mk_non) (RepL.cons (rep_tup0 rq1_heard) (RepL.cons (rep_tup0 rq1_placed) (RepL.cons (rep_tup0 rq1_had) (RepL.cons (rep_tup0 rq1_taken) (RepL.cons (rep_tup0 rq1_shelf) (RepL.cons (mk_int _) (RepL.cons (mk_non) (RepL.cons (rep_tup0 rq1_late) (RepL.cons (rep_tup0 rq1_requests) (RepL.cons (rep_tup0 rq1_pieces) (RepL.cons (rep_tup0 rq1_away) (RepL.cons (rep_tup0 rq1_holding) (RepL.cons (rep_tup0 rq1_asking) (RepL.cons (rep_tup0 rq1_fetching) (RepL.cons (rep_tup0 rq1_drops) (RepL.cons (mk_int _) (RepL.cons (rep_tup1 rq1_stage (ok_ofString _)) (RepL.nil))))))))))))))))))) rfl rfl rfl rfl rfl rfl rfl (by decide +kernel)
  have G2 := ok_Placed_init (P := l.prog) (w := w) (base := base) F2 B
  have MK2 : MkPos l.prog w K mg base "Placed" 1 10 [] d_Placed_init := ⟨_, _, _, _, [], [], ⟨mk_Placed, n2, i2, kc_Placed⟩, G2, hC_Placed, F2.binds (ps := ["self", "path", "names", "thing", "count", "cuts", "content", "ids", "line", "seen"]) fun _ _ _ _ _ _ us hl => (match us, hl with | [_, _, _, _, _, _, _, _, _, _], _ => rfl), .nil, fun _ _ => RepL.nil⟩
  have G3 := ok_Rule_init (P := l.prog) (w := w) (base := base) F3 B
  have MK0 : MkAt l.prog w K mg base "Rule" 1 0 ["cuts"] [0, 1, 2, 3, 4, 5, 7, 6] [.tup [], .tup [], .int 80, .bl true, .bl true, .bl true] d_Rule_init := mk_at2 (st := s_Rule_init) (ps := ["self", "alike", "unfit", "longest", "swaps", "reads", "cuts", "turns"]) (ms := [("alike", .ref Tq3_alike), ("unfit", .ref Tq3_unfit), ("longest", .int 80), ("swaps", .bl true), ("reads", .bl true), ("turns", .bl true)]) ["self"] ["alike", "unfit", "longest", "swaps", "reads", "cuts", "turns"] ["alike", "unfit", "longest", "swaps", "reads", "turns"] l3 c3 k3 ⟨mk_Rule, n3, i3, kc_Rule⟩ hC_Rule G3 (List.forall_mem_cons.mpr ⟨⟨_, q3_alike, rfl⟩, List.forall_mem_cons.mpr ⟨⟨_, q3_unfit, rfl⟩, List.forall_mem_cons.mpr ⟨⟨_, q3_longest, ⟨_, rfl⟩⟩, List.forall_mem_cons.mpr ⟨⟨_, q3_swaps, rfl⟩, List.forall_mem_cons.mpr ⟨⟨_, q3_reads, rfl⟩, List.forall_mem_cons.mpr ⟨⟨_, q3_turns, rfl⟩, fun _ z => nomatch z⟩⟩⟩⟩⟩⟩) (by decide) (fun m S => RepL.cons (rep_tup0 rq3_alike) (RepL.cons (rep_tup0 rq3_unfit) (RepL.cons (mk_int _) (RepL.cons (mk_bl _) (RepL.cons (mk_bl _) (RepL.cons (mk_bl _) (RepL.nil))))))) rfl rfl rfl rfl rfl rfl rfl (by decide +kernel)
  have G4 := ok_l_cells (P := l.prog) (w := w) (base := base) D4 B
  have G5 := ok_had_at (P := l.prog) (w := w) (base := base) D5 B
  have G6 := ok_replaced_by (P := l.prog) (w := w) (base := base) D6 B D5 G5
  have G7 := ok_law (P := l.prog) (w := w) (base := base) D7 B D4 G4 D6 G6 MK0 MK1 MK2
  exact G7
end FK
open PySem PySem.W PyProof.Rows
set_option maxRecDepth 100000 in
set_option maxHeartbeats 0 in
theorem PySem.Challenge.cw_foldkeep_k27_what_a_write_replaces_holds : PySem.Challenge.rw_foldkeep_k27_what_a_write_replaces.Holds := by
  w_on; o_law; k_head; (case hw => w_witness2)
  k_fill
  refine FK.law_walk (l := PySem.Challenge.rw_foldkeep_k27_what_a_write_replaces) (k := 5) (x := "_law_script") (F := FK.d_law) rfl rfl ⟨rfl, by decide, by decide⟩ (fun w h Y => PySem.W.kIn_of Y) ?F FK.law_true
  case F =>
    intro w mg fa h KX G hmg
    refine' FK.all_mk KX G hmg ?n_Rule ?pg_Rule ?hd_Rule ?po_Rule ?sa_Rule ?x_Rule_alike ?x_Rule_cuts ?x_Rule_longest ?x_Rule_reads ?x_Rule_swaps ?x_Rule_turns ?x_Rule_unfit ?n_KeeperState ?pg_KeeperState ?hd_KeeperState ?po_KeeperState ?sa_KeeperState ?x_KeeperState_asking ?x_KeeperState_away ?x_KeeperState_devices ?x_KeeperState_drops ?x_KeeperState_fetching ?x_KeeperState_had ?x_KeeperState_heard ?x_KeeperState_holding ?x_KeeperState_ignores ?x_KeeperState_know ?x_KeeperState_late ?x_KeeperState_me ?x_KeeperState_next_number ?x_KeeperState_next_place ?x_KeeperState_pending ?x_KeeperState_pieces ?x_KeeperState_placed ?x_KeeperState_requests ?x_KeeperState_rule ?x_KeeperState_scan ?x_KeeperState_shelf ?x_KeeperState_stage ?x_KeeperState_taken ?n_Placed ?pg_Placed ?hd_Placed ?po_Placed ?sa_Placed ?x_Placed_content ?x_Placed_count ?x_Placed_cuts ?x_Placed_ids ?x_Placed_line ?x_Placed_names ?x_Placed_path ?x_Placed_seen ?x_Placed_thing ?n_Knowledge ?pg_Knowledge ?hd_Knowledge ?po_Knowledge ?sa_Knowledge ?x_Knowledge_base ?x_Knowledge_clock ?x_Knowledge_knows ?x_Knowledge_rest ?x_Knowledge_upto ?n0 ?i0 ?l0 ?c0 ?k0 ?mk_Knowledge ?kc_Knowledge ?q0_clock ?q0_base ?rq0_base ?q0_upto ?q0_rest ?rq0_rest ?q0_knows ?n1 ?i1 ?l1 ?c1 ?k1 ?mk_KeeperState ?kc_KeeperState ?q1_know ?q1_heard ?rq1_heard ?q1_placed ?rq1_placed ?q1_had ?rq1_had ?q1_taken ?rq1_taken ?q1_shelf ?rq1_shelf ?q1_next_place ?q1_pending ?q1_late ?rq1_late ?q1_requests ?rq1_requests ?q1_pieces ?rq1_pieces ?q1_away ?rq1_away ?q1_holding ?rq1_holding ?q1_asking ?rq1_asking ?q1_fetching ?rq1_fetching ?q1_drops ?rq1_drops ?q1_next_number ?q1_stage ?rq1_stage ?n2 ?i2 ?l2 ?c2 ?k2 ?mk_Placed ?kc_Placed ?n3 ?i3 ?l3 ?c3 ?k3 ?mk_Rule ?kc_Rule ?q3_alike ?rq3_alike ?q3_unfit ?rq3_unfit ?q3_longest ?q3_swaps ?q3_reads ?q3_cuts ?q3_turns ?n4 ?l4 ?c4 ?k4 ?n5 ?l5 ?c5 ?k5 ?n6 ?l6 ?c6 ?k6 ?n7 ?l7 ?c7 ?k7 ?z_int ?z_len ?z_list ?z_range ?z_tuple
    (case n_Rule => k_is)
    (case pg_Rule => k_is)
    (case hd_Rule => k_is)
    (case po_Rule => k_is)
    (case sa_Rule => k_is)
    (case x_Rule_alike => k_is)
    (case x_Rule_cuts => k_is)
    (case x_Rule_longest => k_is)
    (case x_Rule_reads => k_is)
    (case x_Rule_swaps => k_is)
    (case x_Rule_turns => k_is)
    (case x_Rule_unfit => k_is)
    (case n_KeeperState => k_is)
    (case pg_KeeperState => k_is)
    (case hd_KeeperState => k_is)
    (case po_KeeperState => k_is)
    (case sa_KeeperState => k_is)
    (case x_KeeperState_asking => k_is)
    (case x_KeeperState_away => k_is)
    (case x_KeeperState_devices => k_is)
    (case x_KeeperState_drops => k_is)
    (case x_KeeperState_fetching => k_is)
    (case x_KeeperState_had => k_is)
    (case x_KeeperState_heard => k_is)
    (case x_KeeperState_holding => k_is)
    (case x_KeeperState_ignores => k_is)
    (case x_KeeperState_know => k_is)
    (case x_KeeperState_late => k_is)
    (case x_KeeperState_me => k_is)
    (case x_KeeperState_next_number => k_is)
    (case x_KeeperState_next_place => k_is)
    (case x_KeeperState_pending => k_is)
    (case x_KeeperState_pieces => k_is)
    (case x_KeeperState_placed => k_is)
    (case x_KeeperState_requests => k_is)
    (case x_KeeperState_rule => k_is)
    (case x_KeeperState_scan => k_is)
    (case x_KeeperState_shelf => k_is)
    (case x_KeeperState_stage => k_is)
    (case x_KeeperState_taken => k_is)
    (case n_Placed => k_is)
    (case pg_Placed => k_is)
    (case hd_Placed => k_is)
    (case po_Placed => k_is)
    (case sa_Placed => k_is)
    (case x_Placed_content => k_is)
    (case x_Placed_count => k_is)
    (case x_Placed_cuts => k_is)
    (case x_Placed_ids => k_is)
    (case x_Placed_line => k_is)
    (case x_Placed_names => k_is)
    (case x_Placed_path => k_is)
    (case x_Placed_seen => k_is)
    (case x_Placed_thing => k_is)
    (case n_Knowledge => k_is)
    (case pg_Knowledge => k_is)
    (case hd_Knowledge => k_is)
    (case po_Knowledge => k_is)
    (case sa_Knowledge => k_is)
    (case x_Knowledge_base => k_is)
    (case x_Knowledge_clock => k_is)
    (case x_Knowledge_knows => k_is)
    (case x_Knowledge_rest => k_is)
    (case x_Knowledge_upto => k_is)
    (case n0 => k_is)
    (case i0 => k_is)
    (case l0 => k_is)
    (case c0 => k_is)
    (case k0 => k_is)
    (case mk_Knowledge => k_is)
    (case kc_Knowledge => k_is)
    (case q0_clock => k_is)
    (case q0_base => k_is)
    (case rq0_base => k_is)
    (case q0_upto => k_is)
    (case q0_rest => k_is)
    (case rq0_rest => k_is)
    (case q0_knows => k_is)
    (case n1 => k_is)
    (case i1 => k_is)
    (case l1 => k_is)
    (case c1 => k_is)
    (case k1 => k_is)
    (case mk_KeeperState => k_is)
    (case kc_KeeperState => k_is)
    (case q1_know => k_is)
    (case q1_heard => k_is)
    (case rq1_heard => k_is)
    (case q1_placed => k_is)
    (case rq1_placed => k_is)
    (case q1_had => k_is)
    (case rq1_had => k_is)
    (case q1_taken => k_is)
    (case rq1_taken => k_is)
    (case q1_shelf => k_is)
    (case rq1_shelf => k_is)
    (case q1_next_place => k_is)
    (case q1_pending => k_is)
    (case q1_late => k_is)
    (case rq1_late => k_is)
    (case q1_requests => k_is)
    (case rq1_requests => k_is)
    (case q1_pieces => k_is)
    (case rq1_pieces => k_is)
    (case q1_away => k_is)
    (case rq1_away => k_is)
    (case q1_holding => k_is)
    (case rq1_holding => k_is)
    (case q1_asking => k_is)
    (case rq1_asking => k_is)
    (case q1_fetching => k_is)
    (case rq1_fetching => k_is)
    (case q1_drops => k_is)
    (case rq1_drops => k_is)
    (case q1_next_number => k_is)
    (case q1_stage => k_is)
    (case rq1_stage => k_is)
    (case n2 => k_is)
    (case i2 => k_is)
    (case l2 => k_is)
    (case c2 => k_is)
    (case k2 => k_is)
    (case mk_Placed => k_is)
    (case kc_Placed => k_is)
    (case n3 => k_is)
    (case i3 => k_is)
    (case l3 => k_is)
    (case c3 => k_is)
    (case k3 => k_is)
    (case mk_Rule => k_is)
    (case kc_Rule => k_is)
    (case q3_alike => k_is)
    (case rq3_alike => k_is)
    (case q3_unfit => k_is)
    (case rq3_unfit => k_is)
    (case q3_longest => k_is)
    (case q3_swaps => k_is)
    (case q3_reads => k_is)
    (case q3_cuts => k_is)
    (case q3_turns => k_is)
    (case n4 => k_is)
    (case l4 => k_is)
    (case c4 => k_is)
    (case k4 => k_is)
    (case n5 => k_is)
    (case l5 => k_is)
    (case c5 => k_is)
    (case k5 => k_is)
    (case n6 => k_is)
    (case l6 => k_is)
    (case c6 => k_is)
    (case k6 => k_is)
    (case n7 => k_is)
    (case l7 => k_is)
    (case c7 => k_is)
    (case k7 => k_is)
    (case z_int => k_is)
    (case z_len => k_is)
    (case z_list => k_is)
    (case z_range => k_is)
    (case z_tuple => k_is)
#print axioms PySem.Challenge.cw_foldkeep_k27_what_a_write_replaces_holds

