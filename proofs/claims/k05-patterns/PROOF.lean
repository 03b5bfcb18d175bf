import PyProof.Rows.All
import Wide.All
import OpenK.AllK
import Wide.FinOn
import HandS.ForExc
import HandS.ForMost
import HandS.Flow
import HandS.Lambda
import KE.KDictKeyed
import HandS.TupAny
import HandS.Codes
import HandS.StrMore
import HandS.Strs
import HandS.Deep
import HandS.CallSlots
import KE.DataCmp
import HandS.IsInst
import HandS.MakeKw
import HandS.MakeKwOnly
import HandS.Defaults
import HandS.TupSets
import HandS.List
import KE.SortData
import KE.SortKeyHeap
import KE.LtData
import HandS.Conv
import HandS.Iter
import HandS.EndTab
import HandS.EndOwn
import HandS.SetFor
import PyProof.ListRange
import PySem.Challenge.RW_foldkeep_k05_patterns
/-! part: FK1 -/
set_option Elab.async false
set_option linter.all false
set_option maxRecDepth 100000
set_option maxHeartbeats 4000000
/-! FK1: plain data D, a small heap of cells, how they lie in the abstract heap, what a run must show. -/
namespace FK
open PySem PySem.Spec L2

/-- plain data; ref n is the n-th cell; scr: a list that is read alone (the script, a module's own) -/
inductive D where
  | non | bl (b : Bool) | int (i : Int) | str (x : Str)
  | tup (xs : List D) | lst (xs : List D) | scr (xs : List D) | obj (c : Str) (ns : List Str) (xs : List D) | ref (n : Nat)
inductive Cell where
  | lst (xs : List D) | ins (c : Str) (ns : List Str) (xs : List D)
  /-- the table of code objects of the def q; a dict by texts; a dict by tuples of ints and bools (b: it is walked) -/
  | tab (q : Str) | dS (ks : List Str) (xs : List D) | dM (b : Bool) (ks : List D) (xs : List D)
abbrev CH := List Cell
/-- a run's end -/
inductive R (α : Type) where
  | ok (a : α) (h : CH) | exc (c : Str) (h : CH) | bad
abbrev M (α : Type) := CH → R α
def M.pure {α : Type} (a : α) : M α := fun h => .ok a h
def M.bind {α β : Type} (x : M α) (f : α → M β) : M β := fun h =>
  match x h with
  | .ok a h1 => f a h1
  | .exc c h1 => .exc c h1
  | .bad => .bad
def M.bad {α : Type} : M α := fun _ => .bad
abbrev Env := List (Option D)
/-- how a statement ends -/
inductive Fl where
  | nx | bk | ct | rt (d : D)
inductive RS where
  | ok (f : Fl) (ρ : Env) (h : CH) | exc (c : Str) (ρ : Env) (h : CH) | bad
abbrev ED := Env → M D
abbrev BD := Env → M Bool
abbrev AD := Env → M (List D)
abbrev SD := Env → CH → RS

/-- ints and bools, as the ints that they are equal to -/
def numsM : List D → Option (List Int)
  | [] => some []
  | .int i :: r => (numsM r).map (i :: ·)
  | .bl b :: r => (numsM r).map ((if b = true then 1 else 0) :: ·)
  | _ => none
def nsOf : D → List Int
  | .tup xs => (numsM xs).getD []
  | _ => []
/-- the hash of a tuple of ints -/
def hM (ns : List Int) : Int := reduceHash (Builtin.Tuple.tupleHashOf (ns.map hashInt))

/-- the heap without some addresses -/
def hide (Z : List Addr) (H : Hp) : Hp := fun a => if a ∈ Z then none else H a
theorem hide_some {Z : List Addr} {H : Hp} {a : Addr} {o : HO} (h : hide Z H a = some o) : a ∉ Z ∧ H a = some o := by
  unfold hide at h
  by_cases z : a ∈ Z
  · rw [if_pos z] at h; cases h
  · rw [if_neg z] at h; exact ⟨z, h⟩
theorem hide_of {Z : List Addr} {H : Hp} {a : Addr} {o : HO} (z : a ∉ Z) (h : H a = some o) : hide Z H a = some o := by
  unfold hide; rw [if_neg z]; exact h
def Sub (H H' : Hp) : Prop := ∀ a o, H a = some o → H' a = some o
theorem Sub.refl {H : Hp} : Sub H H := fun _ _ h => h
theorem Sub.trans {A B C : Hp} (x : Sub A B) (y : Sub B C) : Sub A C := fun a o h => y a o (x a o h)
theorem hide_sub {Z : List Addr} {H : Hp} : Sub (hide Z H) H := fun _ _ h => (hide_some h).2
theorem Sub.rd {H H' : Hp} (s : Sub H H') {a : Addr} {u : HO} (h : Rd H a u) : Rd H' a u := by
  rcases h with h | ⟨o, h⟩
  · exact .inl (s _ _ h)
  · exact .inr ⟨o, s _ _ h⟩
theorem Sub.sql {K : PySem.W.Frag} {H H' : Hp} (s : Sub H H') {a : Addr} {xs : List V} (h : SqL K H a xs) : SqL K H' a xs := by
  rcases h with h | h
  · exact .inl (s.rd h)
  · exact .inr h
theorem Sub.sqt {K : PySem.W.Frag} {H H' : Hp} (s : Sub H H') {a : Addr} {xs : List V} (h : SqT K H a xs) : SqT K H' a xs := by
  rcases h with h | h
  · exact .inl (s.rd h)
  · exact .inr h

section
variable (K : PySem.W.Frag) (mg : Str → Option Value)
mutual
/-- the value v is the datum d; m: the cells' addresses, S: what stands still -/
def Rep (m : List Addr) (S : Hp) : D → V → Prop
  | .non, v => v = .non
  | .bl b, v => v = .bl b
  | .int i, v => v = .int i
  | .str x, v => v = .str x ∧ PyData.strOk x = true
  | .tup xs, v => ∃ a vs, v = .ref a ∧ SqT K S a vs ∧ RepL m S xs vs
  | .lst xs, v => ∃ a vs, v = .ref a ∧ S a = some (.lst vs) ∧ RepL m S xs vs
  | .scr xs, v => ∃ a vs, v = .ref a ∧ SqL K S a vs ∧ RepL m S xs vs
  | .obj c ns xs, v => ∃ a C dx fs, v = .ref a ∧ S a = some (.ins C dx fs) ∧ mg c = some (.ref C) ∧ fs.map (·.1) = ns ∧ RepL m S xs (fs.map (·.2))
  | .ref n, v => ∃ a, m[n]? = some a ∧ v = .ref a
def RepL (m : List Addr) (S : Hp) : List D → List V → Prop
  | [], vs => vs = []
  | d :: ds, vs => ∃ v r, vs = v :: r ∧ Rep m S d v ∧ RepL m S ds r
end
/-- a dict's entries -/
def EntR (m : List Addr) (S : Hp) : List D → List D → List DictEntry → Prop
  | [], [], es => es = []
  | k :: ks, x :: xs, es => ∃ (b : Addr) (vs : List V) (kd : List D) (ns : List Int) (v : V) (u : Value) (r : List DictEntry), es = ⟨hM ns, .ref b, u⟩ :: r ∧ k = .tup kd ∧ numsM kd = some ns ∧ SqT K S b vs ∧ RepL K mg m S kd vs ∧ RelV v u ∧ Rep K mg m S x v ∧ EntR m S ks xs r
  | _, _, _ => False
def CellR (m : List Addr) (S H : Hp) (a : Addr) : Cell → Prop
  | .lst xs => ∃ vs, H a = some (.lst vs) ∧ RepL K mg m S xs vs
  | .ins c ns xs => ∃ C dx fs, H a = some (.ins C dx fs) ∧ mg c = some (.ref C) ∧ fs.map (·.1) = ns ∧ RepL K mg m S xs (fs.map (·.2))
  | .tab q => ∃ (c : Addr) (ps : Array Value), PySem.W.tabIn K q = some (c, a) ∧ H a = some (.tbl ps) ∧ TriplesOk ps.toList ∧ ∀ (pos : Pos) (cv : Value), codeAmong pos ps.toList = some cv → ∃ c', cv = .ref c' ∧ S c' = some (LamX.CodeO c' (q ++ ".<locals>." ++ "<lambda>"))
  | .dS ks xs => ∃ vs, H a = some (.dK ((ks.map Sum.inr).zip vs)) ∧ vs.length = ks.length ∧ RepL K mg m S xs vs ∧ ∀ k ∈ ks, PyData.strOk k = true
  | .dM b ks xs => ∃ (o : Obj) (es : Array DictEntry) (ep : Nat), H a = some (if b = true then .frz o (.ext fun h => h.get? a = some o) else .ext fun h => h.get? a = some o) ∧ (a == sysModules) = false ∧ o.ExactDict ∧ o.data = .dict es ep ∧ EntR K mg m S ks xs es.toList ∧ (ks.map nsOf).Nodup
/-- the cells lie at m, apart from Z -/
structure HeapOk (Z m : List Addr) (h : CH) (H : Hp) : Prop where
  len : m.length = h.length
  nd : m.Nodup
  dj : ∀ a ∈ m, a ∉ Z
  ex : ∀ a ∈ Z, ∃ o, H a = some o
  cell : ∀ (n : Nat) c a, h[n]? = some c → m[n]? = some a → CellR K mg m (hide (Z ++ m) H) H a c
/-- from (m, H) to (m', H'): more cells, what stood still stands, Z is as it was -/
structure Ext (Z m : List Addr) (H : Hp) (m' : List Addr) (H' : Hp) : Prop where
  pre : ∀ (n : Nat) a, m[n]? = some a → m'[n]? = some a
  st : Sub (hide (Z ++ m) H) (hide (Z ++ m') H')
  zs : ∀ a ∈ Z, H' a = H a
  fr : ∀ a o u, H a = some (.frz o u) → H' a = some (.frz o u)
/-- slots -/
def REnv (m : List Addr) (S : Hp) : Env → St → Prop
  | [], σ => σ = []
  | o :: ρ, σ => ∃ p r, σ = p :: r ∧ (∀ d, o = some d → ∃ v, p = some v ∧ Rep K mg m S d v) ∧ REnv m S ρ r
/-- what a run must show; rel: how its end lies in the heap -/
def PostG {α β : Type} (rel : List Addr → Hp → α → β → Prop) (W : WX) (σ : St) (Z m : List Addr) (H : Hp) (r : R α) (Q : β → Hp → Prop) : Prop :=
  match r with
  | .ok d h => ∀ v m' H', Ext Z m H m' H' → HeapOk K mg Z m' h H' → rel m' (hide (Z ++ m') H') d v → Q v H'
  | .exc c h => ∀ m' H' cls, Ext Z m H m' H' → HeapOk K mg Z m' h H' → mg c = some cls → W cls none σ H'
  | .bad => False
abbrev Post (W : WX) (σ : St) (Z m : List Addr) (H : Hp) (r : R D) (Q : VK) : Prop := PostG K mg (Rep K mg) W σ Z m H r Q
abbrev PostL (W : WX) (σ : St) (Z m : List Addr) (H : Hp) (r : R (List D)) (Q : List V → Hp → Prop) : Prop := PostG K mg (RepL K mg) W σ Z m H r Q
abbrev PostB (W : WX) (σ : St) (Z m : List Addr) (H : Hp) (r : R Bool) (Q : Bool → Hp → Prop) : Prop := PostG K mg (fun _ _ a b => b = a) W σ Z m H r Q
def PostS (W : WX) (Z m : List Addr) (H : Hp) (r : RS) (E : Ends) : Prop :=
  match r with
  | .ok .nx ρ h => ∀ σ' m' H', Ext Z m H m' H' → HeapOk K mg Z m' h H' → REnv K mg m' (hide (Z ++ m') H') ρ σ' → E.nx σ' H'
  | .ok .bk ρ h => ∀ σ' m' H', Ext Z m H m' H' → HeapOk K mg Z m' h H' → REnv K mg m' (hide (Z ++ m') H') ρ σ' → E.bk σ' H'
  | .ok .ct ρ h => ∀ σ' m' H', Ext Z m H m' H' → HeapOk K mg Z m' h H' → REnv K mg m' (hide (Z ++ m') H') ρ σ' → E.ct σ' H'
  | .ok (.rt d) _ h => ∀ v m' H', Ext Z m H m' H' → HeapOk K mg Z m' h H' → Rep K mg m' (hide (Z ++ m') H') d v → E.rt v H'
  | .exc c ρ h => ∀ σ' m' H' cls, Ext Z m H m' H' → HeapOk K mg Z m' h H' → REnv K mg m' (hide (Z ++ m') H') ρ σ' → mg c = some cls → W cls none σ' H'
  | .bad => False
/-- where a run stands -/
structure At (Z m : List Addr) (ρ : Env) (h : CH) (σ : St) (H : Hp) : Prop where
  hk : HeapOk K mg Z m h H
  en : REnv K mg m (hide (Z ++ m) H) ρ σ
def tD (W : WX) (f : ED) : TE := fun σ H Q => ∃ Z m ρ h, At K mg Z m ρ h σ H ∧ Post K mg W σ Z m H (f ρ h) Q
def tDL (W : WX) (f : AD) : TA := fun σ H Q => ∃ Z m ρ h, At K mg Z m ρ h σ H ∧ PostL K mg W σ Z m H (f ρ h) Q
def tDB (W : WX) (f : BD) : TT := fun σ H Q => ∃ Z m ρ h, At K mg Z m ρ h σ H ∧ PostB K mg W σ Z m H (f ρ h) Q
def tDS (W : WX) (f : SD) : TS := fun E σ H => ∃ Z m ρ h, At K mg Z m ρ h σ H ∧ PostS K mg W Z m H (f ρ h) E
end

section
variable {K : PySem.W.Frag} {mg : Str → Option Value} {m m' : List Addr} {S S' : Hp}
mutual
theorem Rep.mono (hm : ∀ (n : Nat) a, m[n]? = some a → m'[n]? = some a) (hs : Sub S S') : ∀ (d : D) (v : V), Rep K mg m S d v → Rep K mg m' S' d v
  | .non, v, h => by simpa [Rep] using h
  | .bl b, v, h => by simpa [Rep] using h
  | .int b, v, h => by simpa [Rep] using h
  | .str b, v, h => by simpa [Rep] using h
  | .tup xs, v, h => by
    unfold Rep at h ⊢
    obtain ⟨a, vs, e, q, r⟩ := h
    exact ⟨a, vs, e, hs.sqt q, RepL.mono hm hs xs vs r⟩
  | .lst xs, v, h => by
    unfold Rep at h ⊢
    obtain ⟨a, vs, e, q, r⟩ := h
    exact ⟨a, vs, e, hs _ _ q, RepL.mono hm hs xs vs r⟩
  | .scr xs, v, h => by
    unfold Rep at h ⊢
    obtain ⟨a, vs, e, q, r⟩ := h
    exact ⟨a, vs, e, hs.sql q, RepL.mono hm hs xs vs r⟩
  | .obj c ns xs, v, h => by
    unfold Rep at h ⊢
    obtain ⟨a, C, dx, fs, e, q, e2, e3, r⟩ := h
    exact ⟨a, C, dx, fs, e, hs _ _ q, e2, e3, RepL.mono hm hs xs _ r⟩
  | .ref n, v, h => by
    unfold Rep at h ⊢
    obtain ⟨a, e, q⟩ := h
    exact ⟨a, hm n a e, q⟩
theorem RepL.mono (hm : ∀ (n : Nat) a, m[n]? = some a → m'[n]? = some a) (hs : Sub S S') : ∀ (ds : List D) (vs : List V), RepL K mg m S ds vs → RepL K mg m' S' ds vs
  | [], vs, h => by simpa [RepL] using h
  | d :: ds, vs, h => by
    unfold RepL at h ⊢
    obtain ⟨v, r, e, a, b⟩ := h
    exact ⟨v, r, e, Rep.mono hm hs d v a, RepL.mono hm hs ds r b⟩
end
theorem RepL.length : ∀ {ds : List D} {vs : List V}, RepL K mg m S ds vs → vs.length = ds.length
  | [], vs, h => by unfold RepL at h; subst h; rfl
  | d :: ds, vs, h => by
    unfold RepL at h
    obtain ⟨v, r, rfl, _, b⟩ := h
    rw [List.length_cons, List.length_cons, RepL.length b]
theorem RepL.get : ∀ {ds : List D} {vs : List V} {i : Nat} {d : D}, RepL K mg m S ds vs → ds[i]? = some d → ∃ v, vs[i]? = some v ∧ Rep K mg m S d v
  | [], _, _, _, _, e => by simp at e
  | x :: ds, vs, 0, d, h, e => by
    unfold RepL at h
    obtain ⟨v, r, rfl, a, b⟩ := h
    simp at e
    subst e
    exact ⟨v, rfl, a⟩
  | x :: ds, vs, i + 1, d, h, e => by
    unfold RepL at h
    obtain ⟨v, r, rfl, a, b⟩ := h
    obtain ⟨u, h1, h2⟩ := RepL.get b (i := i) (d := d) (by simpa using e)
    exact ⟨u, by simpa using h1, h2⟩
theorem RepL.append : ∀ {ds es : List D} {vs us : List V}, RepL K mg m S ds vs → RepL K mg m S es us → RepL K mg m S (ds ++ es) (vs ++ us)
  | [], es, vs, us, h, h2 => by unfold RepL at h; subst h; exact h2
  | d :: ds, es, vs, us, h, h2 => by
    unfold RepL at h
    obtain ⟨v, r, rfl, a, b⟩ := h
    show RepL K mg m S (d :: (ds ++ es)) (v :: (r ++ us))
    unfold RepL
    exact ⟨v, _, rfl, a, RepL.append b h2⟩
theorem RepL.one {d : D} {v : V} (h : Rep K mg m S d v) : RepL K mg m S [d] [v] := by
  unfold RepL
  exact ⟨v, [], rfl, h, by unfold RepL; rfl⟩
theorem RepL.nil : RepL K mg m S [] [] := by unfold RepL; rfl
theorem RepL.cons {d : D} {v : V} {ds : List D} {vs : List V} (h : Rep K mg m S d v) (t : RepL K mg m S ds vs) : RepL K mg m S (d :: ds) (v :: vs) := by
  unfold RepL
  exact ⟨v, vs, rfl, h, t⟩
theorem RepL.of_cons {d : D} {vs : List V} {ds : List D} (h : RepL K mg m S (d :: ds) vs) : ∃ v r, vs = v :: r ∧ Rep K mg m S d v ∧ RepL K mg m S ds r := by
  unfold RepL at h; exact h
theorem RepL.of_nil {vs : List V} (h : RepL K mg m S [] vs) : vs = [] := by unfold RepL at h; exact h
theorem RepL.take : ∀ {ds : List D} {vs : List V} (n : Nat), RepL K mg m S ds vs → RepL K mg m S (ds.take n) (vs.take n)
  | [], vs, n, h => by rw [h.of_nil]; simp [RepL]
  | d :: ds, vs, 0, h => by simp [RepL]
  | d :: ds, vs, n + 1, h => by
    obtain ⟨v, r, rfl, a, b⟩ := h.of_cons
    exact RepL.cons a (RepL.take n b)
theorem RepL.drop : ∀ {ds : List D} {vs : List V} (n : Nat), RepL K mg m S ds vs → RepL K mg m S (ds.drop n) (vs.drop n)
  | [], vs, n, h => by rw [h.of_nil]; simp [RepL]
  | d :: ds, vs, 0, h => by simpa using h
  | d :: ds, vs, n + 1, h => by
    obtain ⟨v, r, rfl, a, b⟩ := h.of_cons
    simpa using RepL.drop n b
theorem RepL.set {d : D} {v : V} (q : Rep K mg m S d v) : ∀ {ds : List D} {vs : List V} (n : Nat), RepL K mg m S ds vs → RepL K mg m S (ds.set n d) (vs.set n v)
  | [], vs, n, h => by rw [h.of_nil]; simp [RepL]
  | x :: ds, vs, 0, h => by
    obtain ⟨u, r, rfl, a, b⟩ := h.of_cons
    exact RepL.cons q b
  | x :: ds, vs, n + 1, h => by
    obtain ⟨u, r, rfl, a, b⟩ := h.of_cons
    exact RepL.cons a (RepL.set q n b)
theorem REnv.mono (hm : ∀ (n : Nat) a, m[n]? = some a → m'[n]? = some a) (hs : Sub S S') : ∀ (ρ : Env) (σ : St), REnv K mg m S ρ σ → REnv K mg m' S' ρ σ
  | [], σ, h => h
  | o :: ρ, σ, h => by
    obtain ⟨p, r, e, a, b⟩ := h
    exact ⟨p, r, e, fun d hd => let ⟨v, h1, h2⟩ := a d hd; ⟨v, h1, Rep.mono hm hs d v h2⟩, REnv.mono hm hs ρ r b⟩
theorem REnv.get : ∀ {ρ : Env} {σ : St} {i : Nat} {d : D}, REnv K mg m S ρ σ → ρ[i]? = some (some d) → ∃ v, σ[i]? = some (some v) ∧ Rep K mg m S d v
  | [], _, _, _, _, e => by simp at e
  | o :: ρ, σ, 0, d, h, e => by
    obtain ⟨p, r, rfl, a, b⟩ := h
    simp at e
    obtain ⟨v, h1, h2⟩ := a d e
    subst h1
    exact ⟨v, rfl, h2⟩
  | o :: ρ, σ, i + 1, d, h, e => by
    obtain ⟨p, r, rfl, a, b⟩ := h
    obtain ⟨v, h1, h2⟩ := REnv.get b (i := i) (d := d) (by simpa using e)
    exact ⟨v, by simpa using h1, h2⟩
theorem REnv.set {d : D} {v : V} (q : Rep K mg m S d v) : ∀ {ρ : Env} {σ : St} (i : Nat), REnv K mg m S ρ σ → REnv K mg m S (ρ.set i (some d)) (σ.set i (some v))
  | [], σ, i, h => by
    have e : σ = [] := h
    subst e
    exact h
  | o :: ρ, σ, 0, h => by
    obtain ⟨p, r, rfl, a, b⟩ := h
    exact ⟨some v, r, rfl, fun d' e => ⟨v, rfl, by cases e; exact q⟩, b⟩
  | o :: ρ, σ, i + 1, h => by
    obtain ⟨p, r, rfl, a, b⟩ := h
    exact ⟨p, r.set i (some v), rfl, a, REnv.set q i b⟩
theorem REnv.unset : ∀ {ρ : Env} {σ : St} (i : Nat), REnv K mg m S ρ σ → REnv K mg m S (ρ.set i none) (σ.set i none)
  | [], σ, i, h => by
    have e : σ = [] := h
    subst e
    exact h
  | o :: ρ, σ, 0, h => by
    obtain ⟨p, r, rfl, a, b⟩ := h
    exact ⟨none, r, rfl, (fun d' e => by cases e), b⟩
  | o :: ρ, σ, i + 1, h => by
    obtain ⟨p, r, rfl, a, b⟩ := h
    exact ⟨p, r.set i none, rfl, a, REnv.unset i b⟩
theorem REnv.start : ∀ {ds : List D} {vs : List V} (n : Nat), RepL K mg m S ds vs → REnv K mg m S (ds.map some ++ List.replicate n none) (vs.map some ++ List.replicate n none)
  | [], vs, n, h => by
    rw [h.of_nil]
    show REnv K mg m S (List.replicate n none) (List.replicate n none)
    induction n with
    | zero => rfl
    | succ n ih => exact ⟨none, _, rfl, (fun d' e => by cases e), ih⟩
  | d :: ds, vs, n, h => by
    obtain ⟨v, r, rfl, a, b⟩ := h.of_cons
    exact ⟨some v, _, rfl, fun d' e => ⟨v, rfl, by cases e; exact a⟩, REnv.start n b⟩
theorem EntR.mono (hm : ∀ (n : Nat) a, m[n]? = some a → m'[n]? = some a) (hs : Sub S S') : ∀ {ks xs : List D} {es : List DictEntry}, EntR K mg m S ks xs es → EntR K mg m' S' ks xs es
  | [], [], es, h => h
  | k :: ks, x :: xs, es, h => by
    obtain ⟨b, vs, kd, ns, v, u, r, h1, h2, h3, h4, h5, h6, h7, h8⟩ := h
    exact ⟨b, vs, kd, ns, v, u, r, h1, h2, h3, hs.sqt h4, RepL.mono hm hs _ _ h5, h6, Rep.mono hm hs _ _ h7, EntR.mono hm hs h8⟩
  | [], _ :: _, es, h => h.elim
  | _ :: _, [], es, h => h.elim
theorem CellR.there {H : Hp} {a : Addr} : ∀ {c : Cell}, CellR K mg m S H a c → ∃ o, H a = some o
  | .lst xs, h => let ⟨vs, h1, _⟩ := h; ⟨_, h1⟩
  | .ins c ns xs, h => let ⟨_, _, _, h1, _⟩ := h; ⟨_, h1⟩
  | .tab q, h => let ⟨_, _, _, h1, _⟩ := h; ⟨_, h1⟩
  | .dS ks xs, h => let ⟨_, h1, _⟩ := h; ⟨_, h1⟩
  | .dM b ks xs, h => let ⟨_, _, _, h1, _⟩ := h; ⟨_, h1⟩
theorem CellR.mono (hm : ∀ (n : Nat) a, m[n]? = some a → m'[n]? = some a) (hs : Sub S S') {H H' : Hp} {a : Addr} (e : H' a = H a) : ∀ {c : Cell}, CellR K mg m S H a c → CellR K mg m' S' H' a c
  | .lst xs, h => by
    obtain ⟨vs, h1, h2⟩ := h
    exact ⟨vs, by rw [e]; exact h1, RepL.mono hm hs _ _ h2⟩
  | .ins c ns xs, h => by
    obtain ⟨C, dx, fs, h1, h2, h3, h4⟩ := h
    exact ⟨C, dx, fs, by rw [e]; exact h1, h2, h3, RepL.mono hm hs _ _ h4⟩
  | .tab q, h => by
    obtain ⟨c, ps, h1, h2, h3, h4⟩ := h
    exact ⟨c, ps, h1, by rw [e]; exact h2, h3, fun pos cv hc => let ⟨c', e1, e2⟩ := h4 pos cv hc; ⟨c', e1, hs _ _ e2⟩⟩
  | .dS ks xs, h => by
    obtain ⟨vs, h1, h2, h3, h4⟩ := h
    exact ⟨vs, by rw [e]; exact h1, h2, RepL.mono hm hs _ _ h3, h4⟩
  | .dM b ks xs, h => by
    obtain ⟨o, es, ep, h1, h2, h3, h4, h5, h6⟩ := h
    exact ⟨o, es, ep, by rw [e]; exact h1, h2, h3, h4, EntR.mono hm hs h5, h6⟩
/-- of a cell: no tuple -/
theorem CellR.what {H : Hp} {a : Addr} : ∀ {c : Cell}, CellR K mg m S H a c → (∀ vs, H a ≠ some (.tup vs)) ∧ ∀ o vs, H a ≠ some (.frz o (.tup vs))
  | .lst xs, h => let ⟨vs, h1, _⟩ := h; ⟨fun vs e => (by rw [h1] at e; cases e), fun o u e => (by rw [h1] at e; cases e)⟩
  | .ins c ns xs, h => let ⟨_, _, _, h1, _⟩ := h; ⟨fun vs e => (by rw [h1] at e; cases e), fun o u e => (by rw [h1] at e; cases e)⟩
  | .tab q, h => let ⟨_, _, _, h1, _⟩ := h; ⟨fun vs e => (by rw [h1] at e; cases e), fun o u e => (by rw [h1] at e; cases e)⟩
  | .dS ks xs, h => let ⟨_, h1, _⟩ := h; ⟨fun vs e => (by rw [h1] at e; cases e), fun o u e => (by rw [h1] at e; cases e)⟩
  | .dM true ks xs, h => let ⟨_, _, _, h1, _⟩ := h; ⟨fun vs e => (by rw [h1] at e; cases e), fun o u e => (by rw [h1] at e; cases e)⟩
  | .dM false ks xs, h => let ⟨_, _, _, h1, _⟩ := h; ⟨fun vs e => (by rw [h1] at e; cases e), fun o u e => (by rw [h1] at e; cases e)⟩
end

section
variable {K : PySem.W.Frag} {mg : Str → Option Value} {Z m m1 m2 : List Addr} {H H1 H2 : Hp} {h h1 : CH}
theorem Ext.refl : Ext Z m H m H := ⟨fun _ _ e => e, Sub.refl, fun _ _ => rfl, fun _ _ _ e => e⟩
theorem Ext.trans (a : Ext Z m H m1 H1) (b : Ext Z m1 H1 m2 H2) : Ext Z m H m2 H2 :=
  ⟨fun n x e => b.pre n x (a.pre n x e), a.st.trans b.st, fun x hx => (b.zs x hx).trans (a.zs x hx), fun x o u e => b.fr x o u (a.fr x o u e)⟩
theorem Ext.rep (e : Ext Z m H m1 H1) {d : D} {v : V} (r : Rep K mg m (hide (Z ++ m) H) d v) : Rep K mg m1 (hide (Z ++ m1) H1) d v := Rep.mono e.pre e.st d v r
theorem Ext.repL (e : Ext Z m H m1 H1) {d : List D} {v : List V} (r : RepL K mg m (hide (Z ++ m) H) d v) : RepL K mg m1 (hide (Z ++ m1) H1) d v := RepL.mono e.pre e.st d v r
theorem Ext.env (e : Ext Z m H m1 H1) {ρ : Env} {σ : St} (r : REnv K mg m (hide (Z ++ m) H) ρ σ) : REnv K mg m1 (hide (Z ++ m1) H1) ρ σ := REnv.mono e.pre e.st ρ σ r
theorem HeapOk.at (x : HeapOk K mg Z m h H) {n : Nat} {c : Cell} (e : h[n]? = some c) : ∃ a, m[n]? = some a ∧ CellR K mg m (hide (Z ++ m) H) H a c := by
  have hn : n < m.length := by
    rw [x.len]
    exact (List.getElem?_eq_some_iff.mp e).1
  exact ⟨m[n], List.getElem?_eq_getElem hn, x.cell n c _ e (List.getElem?_eq_getElem hn)⟩
theorem HeapOk.there (x : HeapOk K mg Z m h H) {a : Addr} (ha : a ∈ Z ++ m) : ∃ o, H a = some o := by
  rcases List.mem_append.mp ha with z | z
  · exact x.ex a z
  · obtain ⟨n, hn, e⟩ := List.mem_iff_getElem.mp z
    have hc : n < h.length := by rw [← x.len]; exact hn
    have q := x.cell n _ a (List.getElem?_eq_getElem hc) (by rw [List.getElem?_eq_getElem hn, e])
    exact q.there
theorem HeapOk.out (x : HeapOk K mg Z m h H) {p : Addr} (hp : H p = none) : p ∉ Z ++ m := fun z => by
  obtain ⟨o, e⟩ := x.there z
  rw [hp] at e; cases e
/-- a new thing that stands still -/
theorem Ext.laid (x : HeapOk K mg Z m h H) {p : Addr} {o : HO} (hp : H p = none) : Ext Z m H m (upd H p o) := by
  refine ⟨fun _ _ e => e, fun a u e => ?_, fun a ha => upd_ne fun z => ?_, fun a o u e => by rw [upd_ne (ne_of_none e hp)]; exact e⟩
  · obtain ⟨h1, h2⟩ := hide_some e
    exact hide_of h1 (by rw [upd_ne (ne_of_none h2 hp)]; exact h2)
  · subst z
    exact x.out hp (List.mem_append_left _ ha)
theorem HeapOk.laid (x : HeapOk K mg Z m h H) {p : Addr} {o : HO} (hp : H p = none) : HeapOk K mg Z m h (upd H p o) := by
  have ex := Ext.laid (o := o) x hp
  have out := x.out hp
  refine ⟨x.len, x.nd, x.dj, fun a ha => ?_, fun n c a h1 h2 => ?_⟩
  · rw [ex.zs a ha]; exact x.ex a ha
  · have ne : a ≠ p := fun z => out (List.mem_append_right _ (by rw [← z]; exact List.mem_of_getElem? h2))
    exact CellR.mono (fun _ _ e => e) ex.st (upd_ne ne) (x.cell n c a h1 h2)
/-- .. and is read as it was laid -/
theorem HeapOk.seen (x : HeapOk K mg Z m h H) {p : Addr} {o : HO} (hp : H p = none) : hide (Z ++ m) (upd H p o) p = some o := hide_of (x.out hp) upd_same

section
variable {α β γ δ : Type} {relA : List Addr → Hp → α → γ → Prop} {relB : List Addr → Hp → β → δ → Prop} {W : WX} {σ : St}
/-- what comes first, then what follows -/
theorem PostG.bind {x : M α} {f : α → M β} {Q : δ → Hp → Prop} (p : PostG K mg relB W σ Z m H (M.bind x f h) Q) :
    PostG K mg relA W σ Z m H (x h) (fun v H' => ∃ d m' h', Ext Z m H m' H' ∧ HeapOk K mg Z m' h' H' ∧ relA m' (hide (Z ++ m') H') d v ∧ x h = .ok d h' ∧ PostG K mg relB W σ Z m' H' (f d h') Q) := by
  unfold M.bind at p
  cases e : x h with
  | ok d h1 =>
    rw [e] at p
    intro v m' H' ex hk r
    refine ⟨d, m', h1, ex, hk, r, rfl, ?_⟩
    have p : PostG K mg relB W σ Z m H (f d h1) Q := p
    cases e2 : f d h1 with
    | ok d2 h2 => rw [e2] at p; exact fun v' m'' H'' ex' hk' r' => p v' m'' H'' (ex.trans ex') hk' r'
    | exc c h2 => rw [e2] at p; exact fun m'' H'' cls ex' hk' hc => p m'' H'' cls (ex.trans ex') hk' hc
    | bad => rw [e2] at p; exact p
  | exc c h1 => rw [e] at p; exact p
  | bad => rw [e] at p; exact p
theorem PostG.imp {r : R α} {Q Q' : γ → Hp → Prop} (p : PostG K mg relA W σ Z m H r Q) (i : ∀ v H', Q v H' → Q' v H') : PostG K mg relA W σ Z m H r Q' := by
  cases r with
  | ok d h1 => exact fun v m' H' ex hk r => i _ _ (p v m' H' ex hk r)
  | exc c h1 => exact p
  | bad => exact p
/-- shift the start -/
theorem PostG.from {r : R α} {Q : γ → Hp → Prop} (ex : Ext Z m H m1 H1) (p : PostG K mg relA W σ Z m H r Q) : PostG K mg relA W σ Z m1 H1 r Q := by
  cases r with
  | ok d h1 => exact fun v m' H' ex' hk r => p v m' H' (ex.trans ex') hk r
  | exc c h1 => exact fun m' H' cls ex' hk hc => p m' H' cls (ex.trans ex') hk hc
  | bad => exact p
end
end
end FK

/-! part: FK2 -/
set_option Elab.async false
set_option linter.all false
set_option maxRecDepth 100000
set_option maxHeartbeats 4000000
/-! FK2: operators on data, expressions. -/
namespace FK
open PySem PySem.Spec L2

/-! ### the data's own functions -/
mutual
def D.py : D → PyData
  | .non => .none
  | .bl b => .bool b
  | .int i => .int i
  | .str x => .str x
  | .tup xs => .tuple (D.pyL xs)
  | .lst xs => .list (D.pyL xs)
  | .scr xs => .list (D.pyL xs)
  | .obj _ _ _ => .none
  | .ref _ => .none
def D.pyL : List D → List PyData
  | [] => []
  | d :: ds => D.py d :: D.pyL ds
end
mutual
/-- no objects, no cells in it -/
def D.dat : D → Bool
  | .tup xs => D.datL xs
  | .lst xs => D.datL xs
  | .scr xs => D.datL xs
  | .obj _ _ _ => false
  | .ref _ => false
  | _ => true
def D.datL : List D → Bool
  | [] => true
  | d :: ds => D.dat d && D.datL ds
end
mutual
def D.dep : D → Nat
  | .tup xs => D.depL xs + 1
  | .lst xs => D.depL xs + 1
  | .scr xs => D.depL xs + 1
  | _ => 0
def D.depL : List D → Nat
  | [] => 0
  | d :: ds => max (D.dep d) (D.depL ds)
end
def D.eqb (x y : D) : Bool := PyData.eqv x.py y.py
mutual
theorem D.dep_py : ∀ d : D, d.dat = true → d.py.depth = d.dep
  | .non, _ => rfl
  | .bl _, _ => rfl
  | .int _, _ => rfl
  | .str _, _ => rfl
  | .tup xs, h => by
    show PyData.depthAll (D.pyL xs) + 1 = D.depL xs + 1
    rw [D.depL_py xs (by simpa [D.dat] using h)]
  | .lst xs, h => by
    show PyData.depthAll (D.pyL xs) + 1 = D.depL xs + 1
    rw [D.depL_py xs (by simpa [D.dat] using h)]
  | .scr xs, h => by
    show PyData.depthAll (D.pyL xs) + 1 = D.depL xs + 1
    rw [D.depL_py xs (by simpa [D.dat] using h)]
  | .obj _ _ _, h => by simp [D.dat] at h
  | .ref _, h => by simp [D.dat] at h
theorem D.depL_py : ∀ ds : List D, D.datL ds = true → PyData.depthAll (D.pyL ds) = D.depL ds
  | [], _ => rfl
  | d :: ds, h => by
    have h' : d.dat = true ∧ D.datL ds = true := by simpa [D.datL] using h
    show max (PyData.depth d.py) (PyData.depthAll (D.pyL ds)) = max (D.dep d) (D.depL ds)
    rw [D.dep_py d h'.1, D.depL_py ds h'.2]
end
section
variable {K : PySem.W.Frag} {mg : Str → Option Value} {m : List Addr} {S H : Hp}
mutual
theorem Rep.dp (hs : Sub S H) : ∀ (d : D) (v : V), Rep K mg m S d v → d.dat = true → Dp K H v d.py
  | .non, v, h, _ => by simp [Rep] at h; subst h; exact .non
  | .bl b, v, h, _ => by simp [Rep] at h; subst h; exact .bl b
  | .int i, v, h, _ => by simp [Rep] at h; subst h; exact .int i
  | .str x, v, h, _ => by simp [Rep] at h; obtain ⟨rfl, _⟩ := h; exact .str x
  | .tup xs, v, h, q => by
    unfold Rep at h
    obtain ⟨a, vs, rfl, h1, h2⟩ := h
    exact .tup (hs.sqt h1) (RepL.dp hs xs vs h2 (by simpa [D.dat] using q))
  | .lst xs, v, h, q => by
    unfold Rep at h
    obtain ⟨a, vs, rfl, h1, h2⟩ := h
    exact .lst (SqL.of (hs _ _ h1)) (RepL.dp hs xs vs h2 (by simpa [D.dat] using q))
  | .scr xs, v, h, q => by
    unfold Rep at h
    obtain ⟨a, vs, rfl, h1, h2⟩ := h
    exact .lst (hs.sql h1) (RepL.dp hs xs vs h2 (by simpa [D.dat] using q))
  | .obj _ _ _, _, _, q => by simp [D.dat] at q
  | .ref _, _, _, q => by simp [D.dat] at q
theorem RepL.dp (hs : Sub S H) : ∀ (ds : List D) (vs : List V), RepL K mg m S ds vs → D.datL ds = true → DpAll K H vs (D.pyL ds)
  | [], vs, h, _ => by rw [h.of_nil]; exact .nil
  | d :: ds, vs, h, q => by
    obtain ⟨v, r, rfl, h1, h2⟩ := h.of_cons
    have q' : d.dat = true ∧ D.datL ds = true := by simpa [D.datL] using q
    exact .cons (Rep.dp hs d v h1 q'.1) (RepL.dp hs ds r h2 q'.2)
end
mutual
theorem Rep.lay : ∀ (d : D) (v : V), Rep K mg m S d v → d.dat = true → d.py.canLay0 = true
  | .non, v, h, _ => rfl
  | .bl b, v, h, _ => rfl
  | .int i, v, h, _ => rfl
  | .str x, v, h, _ => by simp [Rep] at h; exact h.2
  | .tup xs, v, h, q => by
    unfold Rep at h
    obtain ⟨a, vs, rfl, h1, h2⟩ := h
    exact RepL.lay xs vs h2 (by simpa [D.dat] using q)
  | .lst xs, v, h, q => by
    unfold Rep at h
    obtain ⟨a, vs, rfl, h1, h2⟩ := h
    exact RepL.lay xs vs h2 (by simpa [D.dat] using q)
  | .scr xs, v, h, q => by
    unfold Rep at h
    obtain ⟨a, vs, rfl, h1, h2⟩ := h
    exact RepL.lay xs vs h2 (by simpa [D.dat] using q)
  | .obj _ _ _, _, _, q => by simp [D.dat] at q
  | .ref _, _, _, q => by simp [D.dat] at q
theorem RepL.lay : ∀ (ds : List D) (vs : List V), RepL K mg m S ds vs → D.datL ds = true → PyData.canLayAll0 (D.pyL ds) = true
  | [], vs, h, _ => rfl
  | d :: ds, vs, h, q => by
    obtain ⟨v, r, rfl, h1, h2⟩ := h.of_cons
    have q' : d.dat = true ∧ D.datL ds = true := by simpa [D.datL] using q
    show (PyData.canLay0 d.py && PyData.canLayAll0 (D.pyL ds)) = true
    rw [Rep.lay d v h1 q'.1, RepL.lay ds r h2 q'.2]
    rfl
end
end
/-- a cell that is a list is read as one -/
def vw (h : CH) : D → D
  | .ref n => match h[n]? with
    | some (.lst xs) => .lst xs
    | _ => .ref n
  | d => d
/-- what may be walked, counted, indexed -/
def seq (h : CH) (d : D) : Option (List D) :=
  match vw h d with
  | .tup xs => some xs
  | .lst xs => some xs
  | .scr xs => some xs
  | _ => none
/-- lists that are tracked -/
def lstOf (h : CH) (d : D) : Option (List D) :=
  match vw h d with
  | .lst xs => some xs
  | _ => none
section
variable {K : PySem.W.Frag} {mg : Str → Option Value} {Z m : List Addr} {H : Hp} {h : CH}
/-- a list as it stands in H -/
theorem HeapOk.rlst (x : HeapOk K mg Z m h H) {d : D} {v : V} (r : Rep K mg m (hide (Z ++ m) H) d v) {xs : List D} (e : vw h d = .lst xs) :
    ∃ a vs, v = .ref a ∧ H a = some (.lst vs) ∧ RepL K mg m (hide (Z ++ m) H) xs vs := by
  cases d with
  | ref n =>
    unfold Rep at r
    obtain ⟨a, h1, rfl⟩ := r
    have e : (match h[n]? with | some (.lst xs) => D.lst xs | _ => .ref n) = .lst xs := e
    cases hc : h[n]? with
    | none => rw [hc] at e; cases e
    | some c =>
      rw [hc] at e
      cases c with
      | lst ys =>
        cases e
        obtain ⟨vs, g1, g2⟩ := x.cell n _ a hc h1
        exact ⟨a, vs, rfl, g1, g2⟩
      | _ => cases e
  | lst ys =>
    cases e
    unfold Rep at r
    obtain ⟨a, vs, e1, h1, h2⟩ := r
    exact ⟨a, vs, e1, (hide_some h1).2, h2⟩
  | _ => cases e
theorem HeapOk.rtup {d : D} {v : V} (r : Rep K mg m (hide (Z ++ m) H) d v) {xs : List D} (e : vw h d = .tup xs) :
    ∃ a vs, v = .ref a ∧ SqT K H a vs ∧ RepL K mg m (hide (Z ++ m) H) xs vs := by
  cases d with
  | ref n =>
    have e : (match h[n]? with | some (.lst xs) => D.lst xs | _ => .ref n) = .tup xs := e
    split at e <;> cases e
  | tup ys =>
    cases e
    unfold Rep at r
    obtain ⟨a, vs, e1, h1, h2⟩ := r
    exact ⟨a, vs, e1, hide_sub.sqt h1, h2⟩
  | _ => cases e
theorem HeapOk.rscr {d : D} {v : V} (r : Rep K mg m (hide (Z ++ m) H) d v) {xs : List D} (e : vw h d = .scr xs) :
    ∃ a vs, v = .ref a ∧ SqL K H a vs ∧ RepL K mg m (hide (Z ++ m) H) xs vs := by
  cases d with
  | ref n =>
    have e : (match h[n]? with | some (.lst xs) => D.lst xs | _ => .ref n) = .scr xs := e
    split at e <;> cases e
  | scr ys =>
    cases e
    unfold Rep at r
    obtain ⟨a, vs, e1, h1, h2⟩ := r
    exact ⟨a, vs, e1, hide_sub.sql h1, h2⟩
  | _ => cases e
theorem HeapOk.rseq (x : HeapOk K mg Z m h H) {d : D} {v : V} (r : Rep K mg m (hide (Z ++ m) H) d v) {xs : List D} (e : seq h d = some xs) :
    ∃ a vs, v = .ref a ∧ (SqL K H a vs ∨ SqT K H a vs) ∧ RepL K mg m (hide (Z ++ m) H) xs vs := by
  unfold seq at e
  cases hv : vw h d with
  | tup ys =>
    rw [hv] at e; cases e
    obtain ⟨a, vs, e1, h1, h2⟩ := HeapOk.rtup r hv
    exact ⟨a, vs, e1, .inr h1, h2⟩
  | lst ys =>
    rw [hv] at e; cases e
    obtain ⟨a, vs, e1, h1, h2⟩ := x.rlst r hv
    exact ⟨a, vs, e1, .inl (SqL.of h1), h2⟩
  | scr ys =>
    rw [hv] at e; cases e
    obtain ⟨a, vs, e1, h1, h2⟩ := HeapOk.rscr r hv
    exact ⟨a, vs, e1, .inl h1, h2⟩
  | _ => rw [hv] at e; cases e
theorem HeapOk.rlstOf (x : HeapOk K mg Z m h H) {d : D} {v : V} (r : Rep K mg m (hide (Z ++ m) H) d v) {xs : List D} (e : lstOf h d = some xs) :
    ∃ a vs, v = .ref a ∧ H a = some (.lst vs) ∧ RepL K mg m (hide (Z ++ m) H) xs vs := by
  unfold lstOf at e
  cases hv : vw h d with
  | lst ys => rw [hv] at e; cases e; exact x.rlst r hv
  | _ => rw [hv] at e; cases e
/-- as data, in H -/
theorem HeapOk.dp (x : HeapOk K mg Z m h H) {d : D} {v : V} (r : Rep K mg m (hide (Z ++ m) H) d v) (q : (vw h d).dat = true) : Dp K H v (vw h d).py ∧ (vw h d).py.canLay0 = true := by
  cases hv : vw h d with
  | lst xs =>
    obtain ⟨a, vs, rfl, h1, h2⟩ := x.rlst r hv
    rw [hv] at q
    have q' : D.datL xs = true := by simpa [D.dat] using q
    exact ⟨.lst (SqL.of h1) (RepL.dp hide_sub xs vs h2 q'), RepL.lay xs vs h2 q'⟩
  | ref n => rw [hv] at q; simp [D.dat] at q
  | obj c ns xs => rw [hv] at q; simp [D.dat] at q
  | _ =>
    have e : vw h d = d := by
      cases d with
      | ref n =>
        exfalso
        have hv' : (match h[n]? with | some (.lst xs) => D.lst xs | _ => .ref n) = _ := hv
        split at hv' <;> cases hv'
      | _ => rfl
    obtain rfl := hv.symm.trans e
    exact ⟨Rep.dp hide_sub _ v r q, Rep.lay _ v r q⟩
end

/-! ### operators, by data -/
def dAdd (x y : D) : M D := fun h =>
  match x, y with
  | .int i, .int j => .ok (.int (i + j)) h
  | .str a, .str b => if a.length + b.length ≤ sizeLine then .ok (.str (a ++ b)) h else .bad
  | .tup xs, .tup ys => if xs.length + ys.length ≤ sizeLine then .ok (.tup (xs ++ ys)) h else .bad
  | x, y => match lstOf h x, lstOf h y with
    | some xs, some ys => if xs.length + ys.length ≤ sizeLine then .ok (.lst (xs ++ ys)) h else .bad
    | _, _ => .bad
def dSub (x y : D) : M D := fun h =>
  match x, y with
  | .int i, .int j => .ok (.int (i - j)) h
  | _, _ => .bad
/-- bounds are asked with a classical instance: the kernel then never counts down from a bound -/
noncomputable def dMul (x y : D) : M D := fun h =>
  match x, y with
  | .int i, .int j => @ite _ ((-(2 ^ 64) < i ∧ i < 2 ^ 64) ∨ (-(2 ^ 64) < j ∧ j < 2 ^ 64)) (Classical.propDecidable _) (.ok (.int (i * j)) h) .bad
  | .str a, .int n => @ite _ (n < 2 ^ 31 ∧ -(2 ^ 31) < n ∧ a.length * n.toNat ≤ sizeLine) (Classical.propDecidable _) (.ok (.str (Txt.mul a n)) h) .bad
  | _, _ => .bad
noncomputable def dFdiv (x y : D) : M D := fun h =>
  match x, y with
  | .int i, .int j => @ite _ (0 < j ∧ j < 1073741824) (Classical.propDecidable _) (.ok (.int (i / j)) h) .bad
  | _, _ => .bad
def dMod (x y : D) : M D := fun h =>
  match x, y with
  | .int i, .int j => if 0 < j then .ok (.int (i % j)) h else .bad
  | _, _ => .bad
def dEq (x y : D) : M D := fun h =>
  if (vw h x).dat = true ∧ (vw h y).dat = true ∧ min (vw h x).dep (vw h y).dep ≤ 60 then .ok (.bl ((vw h x).eqb (vw h y))) h else .bad
def dNe (x y : D) : M D := fun h =>
  if (vw h x).dat = true ∧ (vw h y).dat = true ∧ min (vw h x).dep (vw h y).dep ≤ 60 then .ok (.bl (!(vw h x).eqb (vw h y))) h else .bad
/-- tuples of ints -/
def intsD : List D → Option (List Int)
  | [] => some []
  | .int i :: r => (intsD r).map (i :: ·)
  | _ => none
def dLt (x y : D) : M D := fun h =>
  match x, y with
  | .int i, .int j => .ok (.bl (decide (i < j))) h
  | .str a, .str b => .ok (.bl (decide (a.cps.toList < b.cps.toList))) h
  | .tup xs, .tup ys => match intsD xs, intsD ys with
    | some ns, some ms => .ok (.bl (HT.lexLt ns ms)) h
    | _, _ => .bad
  | _, _ => .bad
def dLe (x y : D) : M D := fun h =>
  match x, y with
  | .int i, .int j => .ok (.bl (decide (i ≤ j))) h
  | _, _ => .bad
def dGt (x y : D) : M D := fun h =>
  match x, y with
  | .int i, .int j => .ok (.bl (decide (j < i))) h
  | _, _ => .bad
def dGe (x y : D) : M D := fun h =>
  match x, y with
  | .int i, .int j => .ok (.bl (decide (j ≤ i))) h
  | _, _ => .bad
def D.isNon : D → Bool
  | .non => true
  | _ => false
def dIs (x y : D) : M D := fun h =>
  match y with
  | .non => .ok (.bl x.isNon) h
  | _ => .bad
def dIsnt (x y : D) : M D := fun h =>
  match y with
  | .non => .ok (.bl (!x.isNon)) h
  | _ => .bad
def inb (x : D) (ys : List D) : Bool := ys.any fun y => D.eqb y x
def dIn (x c : D) : M D := fun h =>
  match seq h c with
  | some ys => if (vw h x).dat = true ∧ D.datL ys = true ∧ (vw h x).dep ≤ 60 then .ok (.bl (inb (vw h x) ys)) h else .bad
  | none => .bad
def dNotIn (x c : D) : M D := fun h =>
  match seq h c with
  | some ys => if (vw h x).dat = true ∧ D.datL ys = true ∧ (vw h x).dep ≤ 60 then .ok (.bl (!inb (vw h x) ys)) h else .bad
  | none => .bad
def dIdx (x i : D) : M D := fun h =>
  match i with
  | .int k => match x with
    | .str a => match atI a.cps.toList k with
      | some c => if a.length ≤ sizeLine then .ok (.str ⟨#[c]⟩) h else .bad
      | none => .bad
    | x => match seq h x with
      | some xs => match atI xs k with
        | some d => .ok d h
        | none => .bad
      | none => .bad
  | _ => .bad

/-! ### the canonical readings -/
section
variable (K : PySem.W.Frag) (mg : Str → Option Value) (W : WX)
def rD2 (op : D → D → M D) : R2 := fun vx vy H Q => ∃ Z m h σ x y, HeapOk K mg Z m h H ∧ Rep K mg m (hide (Z ++ m) H) x vx ∧ Rep K mg m (hide (Z ++ m) H) y vy ∧ Post K mg W σ Z m H (op x y h) Q
def rD1 (op : D → M D) : V → Hp → VK → Prop := fun vx H Q => ∃ Z m h σ x, HeapOk K mg Z m h H ∧ Rep K mg m (hide (Z ++ m) H) x vx ∧ Post K mg W σ Z m H (op x h) Q
def rDL (op : List D → M D) : List V → Hp → VK → Prop := fun vs H Q => ∃ Z m h σ ds, HeapOk K mg Z m h H ∧ RepL K mg m (hide (Z ++ m) H) ds vs ∧ Post K mg W σ Z m H (op ds h) Q
def rDM (op : D → List D → M D) : V → List V → Hp → VK → Prop := fun vx vs H Q => ∃ Z m h σ x ds, HeapOk K mg Z m h H ∧ Rep K mg m (hide (Z ++ m) H) x vx ∧ RepL K mg m (hide (Z ++ m) H) ds vs ∧ Post K mg W σ Z m H (op x ds h) Q
end
def e1 (op : D → M D) (f : ED) : ED := fun ρ => M.bind (f ρ) op
def e2 (op : D → D → M D) (f g : ED) : ED := fun ρ => M.bind (f ρ) fun x => M.bind (g ρ) fun y => op x y
def eC (d : D) : ED := fun _ => M.pure d
def eVar (i : Nat) : ED := fun ρ h =>
  match ρ[i]? with
  | some (some d) => .ok d h
  | _ => .bad

section
variable {X : Cx} {W : WX} {e a b : Expr} {f g : ED} {pos : Pos}
/-- a reading is chosen state by state -/
theorem pick {t : TE} (h : ∀ σ H Q, t σ H Q → ∃ t', PE X e t' ∧ t' σ H Q) : PE X e t := ⟨fun pins s σ H Q I q => by
  obtain ⟨t', p, q'⟩ := h σ H Q q
  exact p.run pins s σ H Q I q'⟩
theorem den1 {r : V → Hp → VK → Prop} {op : D → M D} {K : PySem.W.Frag} {mg : Str → Option Value} {σ : L2.St} {H : Hp} {Q : VK} (h : tD K mg W (e1 op f) σ H Q) (hr : ∀ v H Q, rD1 K mg W op v H Q → r v H Q) :
    tD K mg W f σ H (fun x H1 => r x H1 Q) := by
  obtain ⟨Z, m, ρ, c, at', p⟩ := h
  refine ⟨Z, m, ρ, c, at', (PostG.bind p).imp fun v H' ⟨d, m', h', ex, hk, rp, _, q⟩ => hr _ _ _ ⟨Z, m', h', σ, d, hk, rp, q⟩⟩
theorem den2 {r : R2} {op : D → D → M D} {K : PySem.W.Frag} {mg : Str → Option Value} {σ : L2.St} {H : Hp} {Q : VK} (h : tD K mg W (e2 op f g) σ H Q) (hr : ∀ v u H Q, rD2 K mg W op v u H Q → r v u H Q) : tOp r (tD K mg W f) (tD K mg W g) σ H Q := by
  obtain ⟨Z, m, ρ, c, at', p⟩ := h
  refine ⟨Z, m, ρ, c, at', (PostG.bind p).imp fun v H1 ⟨d, m1, h1, ex, hk, rp, _, q⟩ => ?_⟩
  refine ⟨Z, m1, ρ, h1, ⟨hk, ex.env at'.en⟩, (PostG.bind q).imp fun u H2 ⟨d2, m2, h2, ex2, hk2, rp2, _, q2⟩ => ?_⟩
  exact hr _ _ _ _ ⟨Z, m2, h2, σ, d, d2, hk2, ex2.rep rp, rp2, q2⟩
theorem se_op {op : Operator} {o : D → D → M D} (ho : OpR X (binaryOp op) (rD2 X.K X.mg W o)) (ha : PE X a (tD X.K X.mg W f)) (hb : PE X b (tD X.K X.mg W g)) : PE X (.BinOp a op b pos) (tD X.K X.mg W (e2 o f g)) :=
  pick fun σ H Q h => ⟨_, pe_op ho ha hb, den2 h fun _ _ _ _ q => q⟩
theorem se_cmp {op : CmpOp} {o : D → D → M D} (ho : OpR X (compareOp op) (rD2 X.K X.mg W o)) (ha : PE X a (tD X.K X.mg W f)) (hb : PE X b (tD X.K X.mg W g)) (hm : behindInMarks op b = false) : PE X (.Compare a [op] [b] pos) (tD X.K X.mg W (e2 o f g)) :=
  pick fun σ H Q h => ⟨_, pe_cmpR ho ha hb hm, den2 h fun _ _ _ _ q => q⟩
theorem se_idx (ha : PE X a (tD X.K X.mg W f)) (hb : PE X b (tD X.K X.mg W g)) (ho : IxR X (rD2 X.K X.mg W dIdx)) (hs : PlainIx b := by exact fun _ _ => rfl) : PE X (.Subscript a b pos) (tD X.K X.mg W (e2 dIdx f g)) :=
  pick fun σ H Q h => ⟨_, pe_ix ho ha hb hs, den2 h fun _ _ _ _ q => q⟩

/-! ### names and constants -/
theorem se_var {i : Nat} {x : Str} (hN : X.N[i]? = some x) (hv : Vis X.env.scope x) (hd : (x == ("__debug__" : Str)) = false := by decide) (hcd : (x == ("__classdict__" : Str)) = false := by decide) : PE X (.Name x pos) (tD X.K X.mg W (eVar i)) :=
  pick fun σ H Q ⟨Z, m, ρ, c, at', p⟩ => ⟨_, pe_var hN hv hd hcd, by
    unfold eVar at p
    cases e : ρ[i]? with
    | none => rw [e] at p; exact p.elim
    | some o =>
      cases o with
      | none => rw [e] at p; exact p.elim
      | some d =>
        rw [e] at p
        obtain ⟨v, h1, h2⟩ := at'.en.get e
        exact ⟨v, h1, p v m H Ext.refl at'.hk h2⟩⟩
theorem tC_of {K : PySem.W.Frag} {mg : Str → Option Value} {d : D} {v : V} {σ : L2.St} {H : Hp} {Q : VK} (h : tD K mg W (eC d) σ H Q) (hr : ∀ m S, Rep K mg m S d v) : tC v σ H Q := by
  obtain ⟨Z, m, ρ, c, at', p⟩ := h
  exact p v m H Ext.refl at'.hk (hr _ _)
theorem se_int {i j} : PE X (.Constant (.int i) j pos) (tD X.K X.mg W (eC (.int i))) := pick fun σ H Q h => ⟨_, pe_int, tC_of h fun _ _ => by unfold Rep; rfl⟩
theorem se_bl {i j} : PE X (.Constant (.bool i) j pos) (tD X.K X.mg W (eC (.bl i))) := pick fun σ H Q h => ⟨_, pe_bl, tC_of h fun _ _ => by unfold Rep; rfl⟩
theorem se_non {j} : PE X (.Constant .none j pos) (tD X.K X.mg W (eC .non)) := pick fun σ H Q h => ⟨_, pe_non, tC_of h fun _ _ => by unfold Rep; rfl⟩
theorem se_str {x : Str} {j} (hx : PyData.strOk x = true := by decide +kernel) : PE X (.Constant (.str x) j pos) (tD X.K X.mg W (eC (.str x))) := pick fun σ H Q h => ⟨_, pe_str, tC_of h fun _ _ => by unfold Rep; exact ⟨rfl, hx⟩⟩
end
end FK

/-! part: FK3 -/
set_option Elab.async false
set_option linter.all false
set_option maxRecDepth 100000
set_option maxHeartbeats 4000000
/-! FK3: each operator on data is the model's. -/
namespace FK
open PySem PySem.Spec L2

/-! ### texts that stay texts -/
theorem ok_app {a b : Str} (ha : PyData.strOk a = true) (hb : PyData.strOk b = true) : PyData.strOk (a ++ b) = true := by
  unfold PyData.strOk at *
  show (a.cps ++ b.cps).all _ = true
  rw [Array.all_append, ha, hb]
  rfl
theorem ok_iff {a : Str} : PyData.strOk a = true ↔ ∀ c ∈ a.cps.toList, c < 0x110000 := by
  unfold PyData.strOk
  rw [Array.all_eq_true_iff_forall_mem]
  simp
theorem ok_one {a : Str} (ha : PyData.strOk a = true) {c : Nat} (h : c ∈ a.cps.toList) : PyData.strOk ⟨#[c]⟩ = true := by
  rw [ok_iff] at *
  intro x hx
  simp at hx
  subst hx
  exact ha _ h
section
variable {K : PySem.W.Frag} {mg : Str → Option Value} {m : List Addr} {S : Hp}
theorem RepL.eq_nil : ∀ {ds : List D}, RepL K mg m S ds [] → ds = []
  | [], _ => rfl
  | d :: ds, h => by
    obtain ⟨v, r, e, _⟩ := h.of_cons
    cases e
theorem rep_int {i : Int} {v : V} (h : Rep K mg m S (.int i) v) : v = .int i := by unfold Rep at h; exact h
theorem rep_bl {i : Bool} {v : V} (h : Rep K mg m S (.bl i) v) : v = .bl i := by unfold Rep at h; exact h
theorem rep_non {v : V} (h : Rep K mg m S .non v) : v = .non := by unfold Rep at h; exact h
theorem rep_str {x : Str} {v : V} (h : Rep K mg m S (.str x) v) : v = .str x ∧ PyData.strOk x = true := by unfold Rep at h; exact h
theorem rep_tup {xs : List D} {v : V} (h : Rep K mg m S (.tup xs) v) : ∃ a vs, v = .ref a ∧ SqT K S a vs ∧ RepL K mg m S xs vs := by unfold Rep at h; exact h
theorem mk_int (i : Int) : Rep K mg m S (.int i) (.int i) := by unfold Rep; rfl
theorem mk_bl (i : Bool) : Rep K mg m S (.bl i) (.bl i) := by unfold Rep; rfl
theorem mk_non : Rep K mg m S .non .non := by unfold Rep; rfl
theorem mk_str {x : Str} (h : PyData.strOk x = true) : Rep K mg m S (.str x) (.str x) := by unfold Rep; exact ⟨rfl, h⟩
end
section
variable {K : PySem.W.Frag} {mg : Str → Option Value} {Z m : List Addr} {H : Hp} {h : CH} {W : WX} {σ : L2.St} {Q : VK}
/-- a new tuple -/
theorem put_tup (hk : HeapOk K mg Z m h H) {ds : List D} {vs : List V} (r : RepL K mg m (hide (Z ++ m) H) ds vs) (p : Post K mg W σ Z m H (.ok (.tup ds) h) Q) : ∀ l, H l = none → Q (.ref l) (upd H l (.tup vs)) := fun l hl => by
  have ex := Ext.laid (o := .tup vs) hk hl
  refine p _ m _ ex (hk.laid hl) ?_
  unfold Rep
  exact ⟨l, vs, rfl, SqT.of (hk.seen hl), ex.repL r⟩
/-- a new list that stands still -/
theorem put_lst (hk : HeapOk K mg Z m h H) {ds : List D} {vs : List V} (r : RepL K mg m (hide (Z ++ m) H) ds vs) (p : Post K mg W σ Z m H (.ok (.lst ds) h) Q) : ∀ l, H l = none → Q (.ref l) (upd H l (.lst vs)) := fun l hl => by
  have ex := Ext.laid (o := .lst vs) hk hl
  refine p _ m _ ex (hk.laid hl) ?_
  unfold Rep
  exact ⟨l, vs, rfl, hk.seen hl, ex.repL r⟩
theorem put_int (hk : HeapOk K mg Z m h H) {i : Int} (p : Post K mg W σ Z m H (.ok (.int i) h) Q) : Q (.int i) H := p _ m H Ext.refl hk (mk_int i)
theorem put_bl (hk : HeapOk K mg Z m h H) {i : Bool} (p : Post K mg W σ Z m H (.ok (.bl i) h) Q) : Q (.bl i) H := p _ m H Ext.refl hk (mk_bl i)
theorem put_non (hk : HeapOk K mg Z m h H) (p : Post K mg W σ Z m H (.ok .non h) Q) : Q .non H := p _ m H Ext.refl hk mk_non
theorem put_str (hk : HeapOk K mg Z m h H) {x : Str} (hx : PyData.strOk x = true) (p : Post K mg W σ Z m H (.ok (.str x) h) Q) : Q (.str x) H := p _ m H Ext.refl hk (mk_str hx)
theorem put_old (hk : HeapOk K mg Z m h H) {d : D} {v : V} (r : Rep K mg m (hide (Z ++ m) H) d v) (p : Post K mg W σ Z m H (.ok d h) Q) : Q v H := p _ m H Ext.refl hk r
end

/-! ### arithmetic -/
section
variable {X : Cx} {W : WX}
theorem op_dAdd : OpR X (binaryOp .Add) (rD2 X.K X.mg W dAdd) := by
  intro pins s σ H vx vy v u Q I rx ry ⟨Z, m, h, σ', x, y, hk, r1, r2, p⟩
  unfold dAdd at p
  split at p
  · obtain rfl := rep_int r1
    obtain rfl := rep_int r2
    exact op_add pins s σ H _ _ v u Q I rx ry ⟨_, _, rfl, rfl, put_int hk p⟩
  · obtain ⟨rfl, k1⟩ := rep_str r1
    obtain ⟨rfl, k2⟩ := rep_str r2
    split at p
    · rename_i hz
      exact op_add_str pins s σ H _ _ v u Q I rx ry ⟨_, _, rfl, rfl, hz, put_str hk (ok_app k1 k2) p⟩
    · exact p.elim
  · obtain ⟨a, xs, rfl, g1, g2⟩ := rep_tup r1
    obtain ⟨b, ys, rfl, g3, g4⟩ := rep_tup r2
    split at p
    · rename_i hz
      refine op_catA pins s σ H _ _ v u Q I rx ry ⟨a, b, xs, ys, rfl, rfl, hide_sub.sqt g1, hide_sub.sqt g3, by rw [g2.length, g4.length]; exact hz, fun e => ?_, fun e1 e2 => ?_, fun e1 e2 => put_tup hk (g2.append g4) p⟩
      · subst e
        have e' := g2.eq_nil
        subst e'
        exact put_old hk r2 p
      · subst e2
        have e' := g4.eq_nil
        subst e'
        rw [List.append_nil] at p
        exact put_old hk r1 p
    · exact p.elim
  · split at p
    · rename_i h1 h2
      obtain ⟨a, xs, rfl, g1, g2⟩ := hk.rlstOf r1 h1
      obtain ⟨b, ys, rfl, g3, g4⟩ := hk.rlstOf r2 h2
      split at p
      · rename_i hz
        exact op_cat pins s σ H _ _ v u Q I rx ry ⟨a, b, xs, ys, rfl, rfl, g1, g3, by rw [g2.length, g4.length]; exact hz, put_lst hk (g2.append g4) p⟩
      · exact p.elim
    · exact p.elim
theorem op_dSub : OpR X (binaryOp .Sub) (rD2 X.K X.mg W dSub) := by
  intro pins s σ H vx vy v u Q I rx ry ⟨Z, m, h, σ', x, y, hk, r1, r2, p⟩
  unfold dSub at p
  split at p
  · obtain rfl := rep_int r1
    obtain rfl := rep_int r2
    exact op_sub pins s σ H _ _ v u Q I rx ry ⟨_, _, rfl, rfl, put_int hk p⟩
  · exact p.elim
theorem op_dFdiv : OpR X (binaryOp .FloorDiv) (rD2 X.K X.mg W dFdiv) := by
  intro pins s σ H vx vy v u Q I rx ry ⟨Z, m, h, σ', x, y, hk, r1, r2, p⟩
  unfold dFdiv at p
  split at p
  · obtain rfl := rep_int r1
    obtain rfl := rep_int r2
    split at p
    · rename_i hz
      exact op_fdiv pins s σ H _ _ v u Q I rx ry ⟨_, _, rfl, rfl, hz, put_int hk p⟩
    · exact p.elim
  · exact p.elim
theorem op_dMod : OpR X (binaryOp .Mod) (rD2 X.K X.mg W dMod) := by
  intro pins s σ H vx vy v u Q I rx ry ⟨Z, m, h, σ', x, y, hk, r1, r2, p⟩
  unfold dMod at p
  split at p
  · obtain rfl := rep_int r1
    obtain rfl := rep_int r2
    split at p
    · rename_i hz
      exact op_mod pins s σ H _ _ v u Q I rx ry ⟨_, _, rfl, rfl, hz, put_int hk p⟩
    · exact p.elim
  · exact p.elim
theorem foldl_cps (x : Array Nat) : ∀ (k : Nat) (acc : Array Nat), ((List.replicate k x).foldl (· ++ ·) acc).toList = acc.toList ++ (List.replicate k x.toList).flatten
  | 0, acc => by simp
  | k + 1, acc => by
    rw [List.replicate_succ, List.foldl_cons, foldl_cps x k (acc ++ x)]
    simp [List.replicate_succ]
/-- a text k times -/
theorem mul_list (x : Str) (n : Int) : (Txt.mul x n).cps.toList = (List.replicate n.toNat x.cps.toList).flatten := by
  unfold Txt.mul
  by_cases h1 : n < 1
  · rw [if_pos h1]
    have e : n.toNat = 0 := by omega
    rw [e]
    rfl
  · rw [if_neg h1]
    by_cases h2 : (n == 1 || x.length == 0) = true
    · rw [if_pos h2]
      simp only [Bool.or_eq_true, beq_iff_eq] at h2
      rcases h2 with h2 | h2
      · subst h2; simp
      · have e : x.cps.toList = [] := by
          have h3 : x.cps.size = 0 := h2
          have := Array.eq_empty_of_size_eq_zero h3
          rw [this]
        rw [e]
        simp
    · rw [if_neg h2]
      show ((List.replicate n.toNat x.cps).foldl (· ++ ·) #[]).toList = _
      rw [foldl_cps]
      rfl
theorem ok_mul {x : Str} (hx : PyData.strOk x = true) (n : Int) : PyData.strOk (Txt.mul x n) = true := by
  rw [ok_iff] at *
  rw [mul_list]
  intro c hc
  rw [List.mem_flatten] at hc
  obtain ⟨l, h1, h2⟩ := hc
  have e := List.eq_of_mem_replicate h1
  subst e
  exact hx c h2
theorem mul_room {x : Str} {n : Int} (h1 : n < 2 ^ 31) (h2 : -(2 ^ 31) < n) (h3 : x.length * n.toNat ≤ sizeLine) : MulOk x n := by
  have hs : sizeLine = 16777216 := sizeLine_eq
  refine ⟨?_, fun h4 h5 => ?_, fun h4 h5 => ?_⟩
  · rw [Bool.or_eq_false_iff]
    exact ⟨decide_eq_false (by omega), decide_eq_false (by omega)⟩
  · intro h6
    have hn : 0 < n := by omega
    have h7 : (2 ^ 63 - 1) / n ≥ 16777216 := by
      have : (16777216 : Int) * n ≤ 2 ^ 63 - 1 := by omega
      exact (Int.le_ediv_iff_mul_le hn).mpr this
    have h8 : x.length ≤ x.length * n.toNat := Nat.le_mul_of_pos_right _ (by omega)
    omega
  · unfold Builtin.Str.tooLong
    have : x.length * n.toNat ≤ 16777216 := by omega
    first
      | exact decide_eq_false (by omega)
      | (simp; omega)
theorem op_dMul : OpR X (binaryOp .Mult) (rD2 X.K X.mg W dMul) := by
  intro pins s σ H vx vy v u Q I rx ry ⟨Z, m, h, σ', x, y, hk, r1, r2, p⟩
  unfold dMul at p
  split at p
  · obtain rfl := rep_int r1
    obtain rfl := rep_int r2
    split at p
    · rename_i hz
      exact op_mul pins s σ H _ _ v u Q I rx ry ⟨_, _, rfl, rfl, hz, put_int hk p⟩
    · exact p.elim
  · obtain ⟨rfl, k1⟩ := rep_str r1
    obtain rfl := rep_int r2
    split at p
    · rename_i hz
      obtain ⟨t, rfl⟩ := rx
      obtain ⟨t', rfl⟩ := ry
      exact SB.mul (mul_room hz.1 hz.2.1 hz.2.2) fun t' k => ⟨.str _, H, I.tok _, ⟨_, rfl⟩, put_str hk (ok_mul k1 _) p⟩
    · exact p.elim
  · exact p.elim

/-! ### comparisons -/
theorem op_dEq (hu : X.A.units + 60 < cLine) : OpR X (compareOp .Eq) (rD2 X.K X.mg W dEq) := by
  intro pins s σ H vx vy v u Q I rx ry ⟨Z, m, h, σ', x, y, hk, r1, r2, p⟩
  unfold dEq at p
  split at p
  · rename_i hz
    obtain ⟨d1, d2, d3⟩ := hz
    obtain ⟨p1, l1⟩ := hk.dp r1 d1
    obtain ⟨p2, l2⟩ := hk.dp r2 d2
    obtain ⟨as, q1⟩ := Dp.reads I _ _ v p1 rx
    obtain ⟨bs, q2⟩ := Dp.reads I _ _ u p2 ry
    exact SeqAt.compareEq_reads q1 q2 l1 l2 (by rw [D.dep_py _ d1, D.dep_py _ d2]; omega) ⟨.bl _, H, I, rfl, put_bl hk p⟩
  · exact p.elim
theorem op_dNe (hu : X.A.units + 60 < cLine) : OpR X (compareOp .NotEq) (rD2 X.K X.mg W dNe) := by
  intro pins s σ H vx vy v u Q I rx ry ⟨Z, m, h, σ', x, y, hk, r1, r2, p⟩
  unfold dNe at p
  split at p
  · rename_i hz
    obtain ⟨d1, d2, d3⟩ := hz
    obtain ⟨p1, l1⟩ := hk.dp r1 d1
    obtain ⟨p2, l2⟩ := hk.dp r2 d2
    obtain ⟨as, q1⟩ := Dp.reads I _ _ v p1 rx
    obtain ⟨bs, q2⟩ := Dp.reads I _ _ u p2 ry
    exact SeqAt.compareNe_reads q1 q2 l1 l2 (by rw [D.dep_py _ d1, D.dep_py _ d2]; omega) ⟨.bl _, H, I, rfl, put_bl hk p⟩
  · exact p.elim
theorem repL_ints {K : PySem.W.Frag} {mg : Str → Option Value} {m : List Addr} {S : Hp} : ∀ {ds : List D} {vs : List V} {ns : List Int}, RepL K mg m S ds vs → intsD ds = some ns → vs = ns.map V.int
  | [], vs, ns, r, e => by
    rw [r.of_nil]
    have e : some [] = some ns := e
    cases e
    rfl
  | d :: ds, vs, ns, r, e => by
    obtain ⟨v, t, rfl, a, b⟩ := r.of_cons
    cases d with
    | int i =>
      have e : (intsD ds).map (i :: ·) = some ns := e
      cases q : intsD ds with
      | none => rw [q] at e; cases e
      | some ks =>
        rw [q] at e
        cases e
        rw [rep_int a, repL_ints b q]
        rfl
    | _ => cases e
theorem op_dLt (hu : X.A.units < cLine) : OpR X (compareOp .Lt) (rD2 X.K X.mg W dLt) := by
  intro pins s σ H vx vy v u Q I rx ry ⟨Z, m, h, σ', x, y, hk, r1, r2, p⟩
  unfold dLt at p
  split at p
  · obtain rfl := rep_int r1
    obtain rfl := rep_int r2
    exact op_lt pins s σ H _ _ v u Q I rx ry ⟨_, _, rfl, rfl, put_bl hk p⟩
  · obtain ⟨rfl, k1⟩ := rep_str r1
    obtain ⟨rfl, k2⟩ := rep_str r2
    exact op_lt_str pins s σ H _ _ v u Q I rx ry ⟨_, _, rfl, rfl, put_bl hk p⟩
  · obtain ⟨a, xs, rfl, g1, g2⟩ := rep_tup r1
    obtain ⟨b, ys, rfl, g3, g4⟩ := rep_tup r2
    split at p
    · rename_i h1 h2
      have e1 := repL_ints g2 h1
      have e2 := repL_ints g4 h2
      subst e1 e2
      exact op_ltT hu pins s σ H _ _ v u Q I rx ry ⟨a, b, _, _, rfl, rfl, hide_sub.sqt g1, hide_sub.sqt g3, put_bl hk p⟩
    · exact p.elim
  · exact p.elim
theorem op_dLe : OpR X (compareOp .LtE) (rD2 X.K X.mg W dLe) := by
  intro pins s σ H vx vy v u Q I rx ry ⟨Z, m, h, σ', x, y, hk, r1, r2, p⟩
  unfold dLe at p
  split at p
  · obtain rfl := rep_int r1
    obtain rfl := rep_int r2
    exact op_le pins s σ H _ _ v u Q I rx ry ⟨_, _, rfl, rfl, put_bl hk p⟩
  · exact p.elim
theorem op_dGt : OpR X (compareOp .Gt) (rD2 X.K X.mg W dGt) := by
  intro pins s σ H vx vy v u Q I rx ry ⟨Z, m, h, σ', x, y, hk, r1, r2, p⟩
  unfold dGt at p
  split at p
  · obtain rfl := rep_int r1
    obtain rfl := rep_int r2
    exact op_gt pins s σ H _ _ v u Q I rx ry ⟨_, _, rfl, rfl, put_bl hk p⟩
  · exact p.elim
theorem op_dGe : OpR X (compareOp .GtE) (rD2 X.K X.mg W dGe) := by
  intro pins s σ H vx vy v u Q I rx ry ⟨Z, m, h, σ', x, y, hk, r1, r2, p⟩
  unfold dGe at p
  split at p
  · obtain rfl := rep_int r1
    obtain rfl := rep_int r2
    exact op_ge pins s σ H _ _ v u Q I rx ry ⟨_, _, rfl, rfl, put_bl hk p⟩
  · exact p.elim
theorem rep_isNon {K : PySem.W.Frag} {mg : Str → Option Value} {m : List Addr} {S : Hp} {d : D} {v : V} (r : Rep K mg m S d v) : decide (v = .non) = d.isNon := by
  cases d with
  | non => rw [rep_non r]; rfl
  | bl b => rw [rep_bl r]; rfl
  | int b => rw [rep_int r]; rfl
  | str b => rw [(rep_str r).1]; rfl
  | tup xs => unfold Rep at r; obtain ⟨a, _, rfl, _⟩ := r; rfl
  | lst xs => unfold Rep at r; obtain ⟨a, _, rfl, _⟩ := r; rfl
  | scr xs => unfold Rep at r; obtain ⟨a, _, rfl, _⟩ := r; rfl
  | obj c ns xs => unfold Rep at r; obtain ⟨a, _, _, _, rfl, _⟩ := r; rfl
  | ref n => unfold Rep at r; obtain ⟨a, _, rfl⟩ := r; rfl
theorem op_dIs : OpR X (compareOp .Is) (rD2 X.K X.mg W dIs) := by
  intro pins s σ H vx vy v u Q I rx ry ⟨Z, m, h, σ', x, y, hk, r1, r2, p⟩
  unfold dIs at p
  split at p
  · obtain rfl := rep_non r2
    exact op_isN pins s σ H _ _ v u Q I rx ry ⟨rfl, by rw [rep_isNon r1]; exact put_bl hk p⟩
  · exact p.elim
theorem op_dIsnt : OpR X (compareOp .IsNot) (rD2 X.K X.mg W dIsnt) := by
  intro pins s σ H vx vy v u Q I rx ry ⟨Z, m, h, σ', x, y, hk, r1, r2, p⟩
  unfold dIsnt at p
  split at p
  · obtain rfl := rep_non r2
    exact op_notN pins s σ H _ _ v u Q I rx ry ⟨rfl, by rw [rep_isNon r1]; exact put_bl hk p⟩
  · exact p.elim
theorem inb_py (x : D) : ∀ ys : List D, ((D.pyL ys).any fun z => PyData.eqv z x.py) = inb x ys
  | [] => rfl
  | y :: ys => by
    show (PyData.eqv y.py x.py || (D.pyL ys).any fun z => PyData.eqv z x.py) = (D.eqb y x || inb x ys)
    rw [inb_py x ys]
    rfl
/-- what a sequence is, as data -/
theorem seq_dp {K : PySem.W.Frag} {mg : Str → Option Value} {Z m : List Addr} {H : Hp} {h : CH} (hk : HeapOk K mg Z m h H) {d : D} {v : V} (r : Rep K mg m (hide (Z ++ m) H) d v) {ys : List D} (e : seq h d = some ys) (q : D.datL ys = true) :
    PyData.canLayAll0 (D.pyL ys) = true ∧ (Dp K H v (.list (D.pyL ys)) ∨ Dp K H v (.tuple (D.pyL ys))) := by
  obtain ⟨a, vs, rfl, h1, h2⟩ := hk.rseq r e
  refine ⟨RepL.lay ys vs h2 q, ?_⟩
  have h3 := RepL.dp hide_sub ys vs h2 q
  rcases h1 with h1 | h1
  · exact .inl (.lst h1 h3)
  · exact .inr (.tup h1 h3)
theorem op_dIn (hu : X.A.units + 61 < cLine) : OpR X (compareOp .In) (rD2 X.K X.mg W dIn) := by
  intro pins s σ H vx vy v u Q I rx ry ⟨Z, m, h, σ', x, y, hk, r1, r2, p⟩
  unfold dIn at p
  split at p
  · rename_i ys hs
    split at p
    · rename_i hz
      obtain ⟨d1, d2, d3⟩ := hz
      obtain ⟨p1, l1⟩ := hk.dp r1 d1
      obtain ⟨as, q1⟩ := Dp.reads I _ _ v p1 rx
      obtain ⟨l2, p2⟩ := seq_dp hk r2 hs d2
      have hr : X.A.units + 1 + min (PyData.depthAll (D.pyL ys)) (vw h x).py.depth < cLine := by
        have := D.dep_py _ d1
        omega
      have fin : EP X pins σ Q (.bool ((D.pyL ys).any fun z => PyData.eqv z (vw h x).py)) s := ⟨.bl _, H, I, rfl, by rw [inb_py]; exact put_bl hk p⟩
      rcases p2 with p2 | p2
      · obtain ⟨bs, q2⟩ := Dp.reads I _ _ u p2 ry
        exact SeqAt.in_list_reads q2 q1 l2 l1 hr fin
      · obtain ⟨bs, q2⟩ := Dp.reads I _ _ u p2 ry
        exact SeqAt.in_tuple_reads q2 q1 l2 l1 hr fin
    · exact p.elim
  · exact p.elim
theorem op_dNotIn (hu : X.A.units + 61 < cLine) : OpR X (compareOp .NotIn) (rD2 X.K X.mg W dNotIn) := by
  intro pins s σ H vx vy v u Q I rx ry ⟨Z, m, h, σ', x, y, hk, r1, r2, p⟩
  unfold dNotIn at p
  split at p
  · rename_i ys hs
    split at p
    · rename_i hz
      obtain ⟨d1, d2, d3⟩ := hz
      obtain ⟨p1, l1⟩ := hk.dp r1 d1
      obtain ⟨as, q1⟩ := Dp.reads I _ _ v p1 rx
      obtain ⟨l2, p2⟩ := seq_dp hk r2 hs d2
      have hr : X.A.units + 1 + min (PyData.depthAll (D.pyL ys)) (vw h x).py.depth < cLine := by
        have := D.dep_py _ d1
        omega
      have fin : EP X pins σ Q (.bool (!(D.pyL ys).any fun z => PyData.eqv z (vw h x).py)) s := ⟨.bl _, H, I, rfl, by rw [inb_py]; exact put_bl hk p⟩
      rcases p2 with p2 | p2
      · obtain ⟨bs, q2⟩ := Dp.reads I _ _ u p2 ry
        exact SeqAt.notIn_list_reads q2 q1 l2 l1 hr fin
      · obtain ⟨bs, q2⟩ := Dp.reads I _ _ u p2 ry
        exact SeqAt.notIn_tuple_reads q2 q1 l2 l1 hr fin
    · exact p.elim
  · exact p.elim

/-! ### subscripts -/
theorem repL_atI {K : PySem.W.Frag} {mg : Str → Option Value} {m : List Addr} {S : Hp} {ds : List D} {vs : List V} {k : Int} {d : D} (r : RepL K mg m S ds vs) (e : atI ds k = some d) : ∃ v, atI vs k = some v ∧ Rep K mg m S d v := by
  unfold atI at *
  rw [r.length]
  cases q : ixN ds.length k with
  | none => rw [q] at e; cases e
  | some j =>
    rw [q] at e
    exact r.get e
theorem ix_dIdx : IxR X (rD2 X.K X.mg W dIdx) := by
  intro value slice pins s σ H vx vy v u Q I rx ry ⟨Z, m, h, σ', x, y, hk, r1, r2, p⟩ hs
  unfold dIdx at p
  split at p
  · obtain rfl := rep_int r2
    split at p
    · obtain ⟨rfl, k1⟩ := rep_str r1
      split at p
      · rename_i c hc
        split at p
        · rename_i hz
          obtain ⟨j, g1, g2, g3, g4, g5⟩ := atI_get hc
          exact ix_str value slice pins s σ H _ _ v u Q I rx ry ⟨_, _, c, rfl, rfl, hz, hc, put_str hk (ok_one k1 (List.mem_of_getElem? g2)) p⟩ hs
        · exact p.elim
      · exact p.elim
    · split at p
      · rename_i xs hq
        split at p
        · rename_i d hd
          obtain ⟨a, vs, rfl, g1, g2⟩ := hk.rseq r1 hq
          obtain ⟨w, g3, g4⟩ := repL_atI g2 hd
          rcases g1 with g1 | g1
          · exact ix_list value slice pins s σ H _ _ v u Q I rx ry ⟨a, vs, _, w, rfl, rfl, g1, g3, put_old hk g4 p⟩ hs
          · exact ix_tup value slice pins s σ H _ _ v u Q I rx ry ⟨a, vs, _, w, rfl, rfl, g1, g3, put_old hk g4 p⟩ hs
        · exact p.elim
      · exact p.elim
  · exact p.elim
end
end FK

/-! part: FK4 -/
set_option Elab.async false
set_option linter.all false
set_option maxRecDepth 100000
set_option maxHeartbeats 4000000
/-! FK4: argument lists, displays, slices, truth, and or not, chains, attributes, calls of what is built in. -/
namespace FK
open PySem PySem.Spec L2

theorem pickA {X : Cx} {es : List Expr} {t : TA} (h : ∀ σ H Q, t σ H Q → ∃ t', PA X es t' ∧ t' σ H Q) : PA X es t := ⟨fun pos pins s σ H Q I q => by
  obtain ⟨t', p, q'⟩ := h σ H Q q
  exact p.run pos pins s σ H Q I q'⟩
theorem pickT {X : Cx} {e : Expr} {t : TT} (h : ∀ σ H Q, t σ H Q → ∃ t', PT X e t' ∧ t' σ H Q) : PT X e t := ⟨fun pins s σ H Q I q => by
  obtain ⟨t', p, q'⟩ := h σ H Q q
  exact p.run pins s σ H Q I q'⟩
theorem pickW {X : Cx} {e : Expr} {t : TT} (h : ∀ σ H Q, t σ H Q → ∃ t', PW X e t' ∧ t' σ H Q) : PW X e t := ⟨fun wh pins s σ H Q I q => by
  obtain ⟨t', p, q'⟩ := h σ H Q q
  exact p.run wh pins s σ H Q I q'⟩
theorem pickO {X : Cx} {e : Option Expr} {t : TO} (h : ∀ σ H Q, t σ H Q → ∃ t', PO X e t' ∧ t' σ H Q) : PO X e t := ⟨fun pins s σ H Q I q => by
  obtain ⟨t', p, q'⟩ := h σ H Q q
  exact p.run pins s σ H Q I q'⟩

/-! ### argument lists -/
def aNil : AD := fun _ => M.pure []
def aCons (f : ED) (fs : AD) : AD := fun ρ => M.bind (f ρ) fun d => M.bind (fs ρ) fun ds => M.pure (d :: ds)
section
variable {X : Cx} {W : WX} {e : Expr} {es : List Expr} {f g : ED} {fs : AD} {pos : Pos}
theorem sa_nil : PA X [] (tDL X.K X.mg W aNil) := pickA fun σ H Q ⟨Z, m, ρ, c, at', p⟩ => ⟨_, pa_nil, p [] m H Ext.refl at'.hk RepL.nil⟩
theorem sa_cons (ha : PE X e (tD X.K X.mg W f)) (hr : PA X es (tDL X.K X.mg W fs)) (hs : starEach (e :: es) X.env = (false, eval e X.env) :: starEach es X.env := by rfl) : PA X (e :: es) (tDL X.K X.mg W (aCons f fs)) :=
  pickA fun σ H Q ⟨Z, m, ρ, c, at', p⟩ => ⟨_, pa_cons ha hr hs, by
    refine ⟨Z, m, ρ, c, at', (PostG.bind p).imp fun v H1 ⟨d, m1, h1, ex, hk, rp, _, q⟩ => ?_⟩
    refine ⟨Z, m1, ρ, h1, ⟨hk, ex.env at'.en⟩, (PostG.bind q).imp fun u H2 ⟨ds, m2, h2, ex2, hk2, rp2, _, q2⟩ => ?_⟩
    exact q2 _ m2 H2 Ext.refl hk2 (RepL.cons (ex2.rep rp) rp2)⟩
/-- what is asked of the arguments' values -/
theorem denL {r : List V → Hp → VK → Prop} {op : List D → M D} {K : PySem.W.Frag} {mg : Str → Option Value} {σ : L2.St} {H : Hp} {Q : VK} (h : tD K mg W (fun ρ => M.bind (fs ρ) op) σ H Q) (hr : ∀ vs H Q, rDL K mg W op vs H Q → r vs H Q) :
    tDL K mg W fs σ H (fun vs H1 => r vs H1 Q) := by
  obtain ⟨Z, m, ρ, c, at', p⟩ := h
  exact ⟨Z, m, ρ, c, at', (PostG.bind p).imp fun v H' ⟨d, m', h', ex, hk, rp, _, q⟩ => hr _ _ _ ⟨Z, m', h', σ, d, hk, rp, q⟩⟩
end

/-! ### displays -/
def eTup (fs : AD) : ED := fun ρ => M.bind (fs ρ) fun ds h => if ds.length ≤ sizeLine then .ok (.tup ds) h else .bad
def eLst (fs : AD) : ED := fun ρ => M.bind (fs ρ) fun ds h => if ds.length ≤ sizeLine then .ok (.lst ds) h else .bad
/-- a list that will be changed: a new cell -/
def eNew (fs : AD) : ED := fun ρ => M.bind (fs ρ) fun ds h => if ds.length ≤ sizeLine then .ok (.ref h.length) (h ++ [.lst ds]) else .bad
section
variable {K : PySem.W.Frag} {mg : Str → Option Value} {Z m : List Addr} {H : Hp} {h : CH}
theorem mem_not_new (hk : HeapOk K mg Z m h H) {l : Addr} (hl : H l = none) : l ∉ m := fun z => hk.out hl (List.mem_append_right _ z)
/-- a new cell at l -/
theorem Ext.cell (hk : HeapOk K mg Z m h H) {l : Addr} {o : HO} (hl : H l = none) : Ext Z m H (m ++ [l]) (upd H l o) := by
  refine ⟨fun n a e => ?_, fun a u e => ?_, fun a ha => upd_ne fun z => ?_, fun a o u e => by rw [upd_ne (ne_of_none e hl)]; exact e⟩
  · rw [List.getElem?_append_left (List.getElem?_eq_some_iff.mp e).1]; exact e
  · obtain ⟨h1, h2⟩ := hide_some e
    have ne := ne_of_none h2 hl
    refine hide_of (fun z => ?_) (by rw [upd_ne ne]; exact h2)
    rcases List.mem_append.mp z with z | z
    · exact h1 (List.mem_append_left _ z)
    · rcases List.mem_append.mp z with z | z
      · exact h1 (List.mem_append_right _ z)
      · exact ne (by simpa using z)
  · subst z
    exact hk.out hl (List.mem_append_left _ ha)
theorem HeapOk.new (hk : HeapOk K mg Z m h H) {l : Addr} {o : HO} (hl : H l = none) {c : Cell} (hc : CellR K mg (m ++ [l]) (hide (Z ++ (m ++ [l])) (upd H l o)) (upd H l o) l c) : HeapOk K mg Z (m ++ [l]) (h ++ [c]) (upd H l o) := by
  have ex := Ext.cell (o := o) hk hl
  have nm := mem_not_new hk hl
  refine ⟨by rw [List.length_append, List.length_append, hk.len]; rfl, ?_, fun a ha => ?_, fun a ha => ?_, fun n c' a h1 h2 => ?_⟩
  · rw [List.nodup_append]
    exact ⟨hk.nd, by simp, fun a ha b hb e => nm (by simp at hb; rw [← hb, ← e]; exact ha)⟩
  · rcases List.mem_append.mp ha with z | z
    · exact hk.dj a z
    · have e : a = l := by simpa using z
      subst e
      exact fun z' => hk.out hl (List.mem_append_left _ z')
  · rw [ex.zs a ha]; exact hk.ex a ha
  · by_cases hn : n < m.length
    · rw [List.getElem?_append_left hn] at h2
      rw [List.getElem?_append_left (by rw [← hk.len]; exact hn)] at h1
      have ne : a ≠ l := fun z => nm (by rw [← z]; exact List.mem_of_getElem? h2)
      exact CellR.mono ex.pre ex.st (upd_ne ne) (hk.cell n c' a h1 h2)
    · have e : n = m.length := by
        have := (List.getElem?_eq_some_iff.mp h2).1
        simp at this
        omega
      subst e
      simp at h2
      rw [hk.len] at h1
      simp at h1
      subst h1 h2
      exact hc
end
section
variable {X : Cx} {W : WX} {es : List Expr} {fs : AD} {pos : Pos}
theorem se_tup {k} (ha : PA X es (tDL X.K X.mg W fs)) : PE X (.Tuple es k pos) (tD X.K X.mg W (eTup fs)) :=
  pick fun σ H Q h => ⟨_, pe_tup ha, denL (r := fun vs H1 Q => vs.length ≤ sizeLine ∧ ∀ p, H1 p = none → Q (.ref p) (upd H1 p (.tup vs))) h fun vs H Q ⟨Z, m, c, σ, ds, hk, r, p⟩ => by
    dsimp only at p
    split at p
    · rename_i hz
      exact ⟨by rw [r.length]; exact hz, put_tup hk r p⟩
    · exact p.elim⟩
theorem se_lst (ha : PA X es (tDL X.K X.mg W fs)) : PE X (.List es pos) (tD X.K X.mg W (eLst fs)) :=
  pick fun σ H Q h => ⟨_, pe_lst ha, denL (r := fun vs H1 Q => vs.length ≤ sizeLine ∧ ∀ p, H1 p = none → Q (.ref p) (upd H1 p (.lst vs))) h fun vs H Q ⟨Z, m, c, σ, ds, hk, r, p⟩ => by
    dsimp only at p
    split at p
    · rename_i hz
      exact ⟨by rw [r.length]; exact hz, put_lst hk r p⟩
    · exact p.elim⟩
theorem put_cell {K : PySem.W.Frag} {mg : Str → Option Value} {Z m : List Addr} {H : Hp} {h : CH} {σ : L2.St} {Q : VK} (hk : HeapOk K mg Z m h H) {ds : List D} {vs : List V} (r : RepL K mg m (hide (Z ++ m) H) ds vs)
    (p : Post K mg W σ Z m H (.ok (.ref h.length) (h ++ [.lst ds])) Q) : ∀ l, H l = none → Q (.ref l) (upd H l (.lst vs)) := fun l hl => by
  have ex := Ext.cell (o := .lst vs) hk hl
  refine p _ (m ++ [l]) _ ex (hk.new hl ⟨vs, upd_same, ex.repL r⟩) ?_
  unfold Rep
  exact ⟨l, by rw [← hk.len]; simp, rfl⟩
theorem se_new (ha : PA X es (tDL X.K X.mg W fs)) : PE X (.List es pos) (tD X.K X.mg W (eNew fs)) :=
  pick fun σ H Q h => ⟨_, pe_lst ha, denL (r := fun vs H1 Q => vs.length ≤ sizeLine ∧ ∀ p, H1 p = none → Q (.ref p) (upd H1 p (.lst vs))) h fun vs H Q ⟨Z, m, c, σ, ds, hk, r, p⟩ => by
    dsimp only at p
    split at p
    · rename_i hz
      exact ⟨by rw [r.length]; exact hz, put_cell hk r p⟩
    · exact p.elim⟩
end

/-! ### slices -/
abbrev OD := Env → M (Option Int)
def oNone : OD := fun _ => M.pure none
def oSome (f : ED) : OD := fun ρ => M.bind (f ρ) fun d h => match d with
  | .int i => .ok (some i) h
  | _ => .bad
def tDO (K : PySem.W.Frag) (mg : Str → Option Value) (W : WX) (f : OD) : TO := fun σ H Q => ∃ Z m ρ h, At K mg Z m ρ h σ H ∧ PostG K mg (fun _ _ (a b : Option Int) => b = a) W σ Z m H (f ρ h) Q
def cut {α : Type} (xs : List α) (lo hi : Option Int) : List α := (xs.drop (HT.sIx xs.length 0 lo)).take (HT.sIx xs.length xs.length hi - HT.sIx xs.length 0 lo)
def dSl (x : D) (lo hi : Option Int) : M D := fun h =>
  match x with
  | .str a => if a.length ≤ sizeLine then .ok (.str (cutS a lo hi)) h else .bad
  | .tup xs => .ok (.tup (cut xs lo hi)) h
  | x => match vw h x with
    | .lst xs => .ok (.lst (cut xs lo hi)) h
    | .scr xs => .ok (.lst (cut xs lo hi)) h
    | _ => .bad
def eSl (f : ED) (lo hi : OD) : ED := fun ρ => M.bind (f ρ) fun x => M.bind (lo ρ) fun l => M.bind (hi ρ) fun u => dSl x l u
theorem RepL.cut {K : PySem.W.Frag} {mg : Str → Option Value} {m : List Addr} {S : Hp} {ds : List D} {vs : List V} (r : RepL K mg m S ds vs) (lo hi : Option Int) : RepL K mg m S (FK.cut ds lo hi) (cutV vs lo hi) := by
  unfold FK.cut cutV
  rw [r.length]
  exact (r.drop _).take _
theorem ok_cut {a : Str} (ha : PyData.strOk a = true) (lo hi : Option Int) : PyData.strOk (cutS a lo hi) = true := by
  rw [ok_iff] at *
  intro c hc
  unfold cutS at hc
  exact ha c (List.mem_of_mem_drop (List.mem_of_mem_take (by simpa using hc)))
section
variable {X : Cx} {W : WX} {e : Expr} {f : ED} {lo hi : Option Expr} {l u : OD} {pos p2 : Pos}
theorem so_none : PO X none (tDO X.K X.mg W oNone) := pickO fun σ H Q ⟨Z, m, ρ, c, at', p⟩ => ⟨_, po_none, p none m H Ext.refl at'.hk rfl⟩
theorem so_some (he : PE X e (tD X.K X.mg W f)) : PO X (some e) (tDO X.K X.mg W (oSome f)) := pickO fun σ H Q ⟨Z, m, ρ, c, at', p⟩ => ⟨_, po_some he, by
  refine ⟨Z, m, ρ, c, at', (PostG.bind p).imp fun v H' ⟨d, m', h', ex, hk, rp, _, q⟩ => ?_⟩
  cases d with
  | int i => exact ⟨i, rep_int rp, q _ m' H' Ext.refl hk rfl⟩
  | _ => exact q.elim⟩
theorem se_sl (he : PE X e (tD X.K X.mg W f)) (hl : PO X lo (tDO X.K X.mg W l)) (hu : PO X hi (tDO X.K X.mg W u)) : PE X (.Subscript e (.Slice lo hi none p2) pos) (tD X.K X.mg W (eSl f l u)) :=
  pick fun σ H Q h => ⟨_, pe_slice ((sl_list (X := X)).or ((sl_tupA (X := X)).or (sl_str (X := X)))) he hl hu, by
    obtain ⟨Z, m, ρ, c, at', p⟩ := h
    refine ⟨Z, m, ρ, c, at', (PostG.bind p).imp fun v H1 ⟨x, m1, h1, ex1, hk1, r1, _, q1⟩ => ?_⟩
    refine ⟨Z, m1, ρ, h1, ⟨hk1, ex1.env at'.en⟩, (PostG.bind q1).imp fun lv H2 ⟨lo', m2, h2, ex2, hk2, r2, _, q2⟩ => ?_⟩
    refine ⟨Z, m2, ρ, h2, ⟨hk2, ex2.env (ex1.env at'.en)⟩, (PostG.bind q2).imp fun uv H3 ⟨hi', m3, h3, ex3, hk3, r3, _, q3⟩ => ?_⟩
    subst r2 r3
    have rx := ex3.rep (ex2.rep r1)
    unfold dSl at q3
    split at q3
    · obtain ⟨rfl, k⟩ := rep_str rx
      split at q3
      · rename_i hz
        exact .inr (.inr ⟨_, rfl, hz, put_str hk3 (ok_cut k _ _) q3⟩)
      · exact q3.elim
    · obtain ⟨a, vs, rfl, g1, g2⟩ := rep_tup rx
      refine .inr (.inl ⟨a, vs, rfl, hide_sub.sqt g1, fun hw => ?_, fun _ => put_tup hk3 (g2.cut lv uv) q3⟩)
      have e : ∀ {xs : List D}, RepL X.K X.mg m3 (hide (Z ++ m3) H3) xs vs → cut xs lv uv = xs := fun {xs} g => by
        unfold cut
        rw [← g.length, hw.1, hw.2, g.length]
        simp
      rw [e g2] at q3
      exact put_old hk3 rx q3
    · split at q3
      · rename_i hv
        obtain ⟨a, vs, rfl, g1, g2⟩ := hk3.rlst rx hv
        exact .inl ⟨a, vs, rfl, SqL.of g1, put_lst hk3 (g2.cut lv uv) q3⟩
      · rename_i hv
        obtain ⟨a, vs, rfl, g1, g2⟩ := HeapOk.rscr rx hv
        exact .inl ⟨a, vs, rfl, g1, put_lst hk3 (g2.cut lv uv) q3⟩
      · exact q3.elim⟩
end

/-! ### truth -/
def truth (d : D) (h : CH) : R Bool :=
  match d with
  | .non => .ok false h
  | .bl b => .ok b h
  | .int i => .ok (i != 0) h
  | .str x => if x.length ≤ sizeLine then .ok ((x.length : Int) != 0) h else .bad
  | d => match seq h d with
    | some xs => .ok (!xs.isEmpty) h
    | none => .bad
theorem truth_heap {d : D} {h h' : CH} {b : Bool} (e : truth d h = .ok b h') : h' = h := by
  unfold truth at e
  split at e
  · cases e; rfl
  · cases e; rfl
  · cases e; rfl
  · split at e <;> cases e; rfl
  · split at e <;> cases e; rfl
theorem truth_exc {d : D} {h h' : CH} {c : Str} : truth d h ≠ .exc c h' := fun e => by
  unfold truth at e
  split at e
  · cases e
  · cases e
  · cases e
  · split at e <;> cases e
  · split at e <;> cases e
theorem isEmpty_repL {K : PySem.W.Frag} {mg : Str → Option Value} {m : List Addr} {S : Hp} {ds : List D} {vs : List V} (r : RepL K mg m S ds vs) : (!vs.isEmpty) = !ds.isEmpty := by
  cases ds with
  | nil => rw [r.of_nil]; rfl
  | cons d ds => obtain ⟨v, t, rfl, _⟩ := r.of_cons; rfl
theorem truth_v {K : PySem.W.Frag} {mg : Str → Option Value} {Z m : List Addr} {H : Hp} {h h' : CH} (hk : HeapOk K mg Z m h H) {d : D} {v : V} (r : Rep K mg m (hide (Z ++ m) H) d v) {b : Bool} (e : truth d h = .ok b h') : TruV K v H b := by
  unfold truth at e
  split at e
  · cases e; rw [rep_non r]; rfl
  · cases e; rw [rep_bl r]; rfl
  · cases e; rw [rep_int r]; rfl
  · split at e
    · rename_i hz
      cases e; rw [(rep_str r).1]; exact ⟨hz, rfl⟩
    · cases e
  · split at e
    · rename_i xs hs
      cases e
      obtain ⟨a, vs, rfl, g1, g2⟩ := hk.rseq r hs
      rw [← isEmpty_repL g2]
      rcases g1 with g1 | g1
      · exact .inl ⟨vs, g1, rfl⟩
      · exact .inr (.inl ⟨vs, g1, rfl⟩)
    · cases e
def bT (f : ED) : BD := fun ρ => M.bind (f ρ) truth
def bNot (b : BD) : BD := fun ρ => M.bind (b ρ) fun k => M.pure (!k)
def bAnd (a b : BD) : BD := fun ρ => M.bind (a ρ) fun k => if k = true then b ρ else M.pure false
def bOr (a b : BD) : BD := fun ρ => M.bind (a ρ) fun k => if k = true then M.pure true else b ρ
def eAnd (f g : ED) : ED := fun ρ => M.bind (f ρ) fun d => M.bind (truth d) fun k => if k = true then g ρ else M.pure d
def eOr (f g : ED) : ED := fun ρ => M.bind (f ρ) fun d => M.bind (truth d) fun k => if k = true then M.pure d else g ρ
def eNot (f : ED) : ED := fun ρ => M.bind (f ρ) fun d => M.bind (truth d) fun k => M.pure (.bl (!k))
def eIf (b : BD) (f g : ED) : ED := fun ρ => M.bind (b ρ) fun k => if k = true then f ρ else g ρ
section
variable {X : Cx} {W : WX} {e a b c : Expr} {f g k : ED} {ba bb : BD} {pos : Pos} {rest : List Expr}
theorem truth_post {K : PySem.W.Frag} {mg : Str → Option Value} {Z m : List Addr} {H : Hp} {h : CH} {σ : L2.St} {Q : VK} {F : Bool → M D} (hk : HeapOk K mg Z m h H) {d : D} {v : V} (r : Rep K mg m (hide (Z ++ m) H) d v) (p : Post K mg W σ Z m H (M.bind (truth d) F h) Q) :
    ∃ b, TruV K v H b ∧ Post K mg W σ Z m H (F b h) Q := by
  unfold M.bind at p
  cases e : truth d h with
  | ok b h' =>
    rw [e] at p
    have e' := truth_heap e
    subst e'
    exact ⟨b, truth_v hk r e, p⟩
  | exc c h' => exact absurd e truth_exc
  | bad => rw [e] at p; exact p.elim
theorem st_truth (he : PE X e (tD X.K X.mg W f)) (hp : ∀ whole, isTrue e X.env whole = (do let v ← whole; standAt e.pos; holding [v] (truthy v)) := by exact fun _ => rfl) : PT X e (tDB X.K X.mg W (bT f)) :=
  pickT fun σ H Q ⟨Z, m, ρ, c, at', p⟩ => ⟨_, pt_truth he hp, by
    refine ⟨Z, m, ρ, c, at', (PostG.bind p).imp fun v H' ⟨d, m', h', ex, hk, rp, _, q⟩ => ?_⟩
    cases e2 : truth d h' with
    | ok b h2 =>
      rw [e2] at q
      have e3 := truth_heap e2
      subst e3
      exact ⟨b, truth_v hk rp e2, q _ m' H' Ext.refl hk rfl⟩
    | exc c h2 => exact absurd e2 truth_exc
    | bad => rw [e2] at q; exact q.elim⟩
/-- an operator that gives a bool -/
def Boolish (o : D → D → M D) : Prop := ∀ x y h d h', o x y h = .ok d h' → ∃ k, d = .bl k ∧ h' = h
theorem st_cmp {op : CmpOp} {o : D → D → M D} (hB : Boolish o) (ho : OpR X (compareOp op) (rD2 X.K X.mg W o)) (ha : PE X a (tD X.K X.mg W f)) (hb : PE X b (tD X.K X.mg W g)) (hm : behindInMarks op b = false) : PT X (.Compare a [op] [b] pos) (tDB X.K X.mg W (bT (e2 o f g))) :=
  pickT fun σ H Q ⟨Z, m, ρ, c, at', p⟩ => ⟨_, pt_cmpR ho ha hb hm, by
    have p' : PostB X.K X.mg W σ Z m H (M.bind (f ρ) (fun x => M.bind (g ρ) fun y => M.bind (o x y) truth) c) Q := by
      have e : M.bind (f ρ) (fun x => M.bind (g ρ) fun y => M.bind (o x y) truth) c = bT (e2 o f g) ρ c := by
        unfold bT e2 M.bind
        cases f ρ c with
        | ok x h1 => dsimp only; cases g ρ h1 <;> rfl
        | exc _ _ => rfl
        | bad => rfl
      rw [e]; exact p
    refine ⟨Z, m, ρ, c, at', (PostG.bind p').imp fun v H1 ⟨x, m1, h1, ex1, hk1, r1, _, q1⟩ => ?_⟩
    refine ⟨Z, m1, ρ, h1, ⟨hk1, ex1.env at'.en⟩, (PostG.bind q1).imp fun u H2 ⟨y, m2, h2, ex2, hk2, r2, _, q2⟩ => ?_⟩
    refine ⟨Z, m2, h2, σ, x, y, hk2, ex2.rep r1, r2, ?_⟩
    unfold M.bind at q2
    cases e : o x y h2 with
    | ok d h3 =>
      obtain ⟨kk, rfl, rfl⟩ := hB x y h2 d h3 e
      rw [e] at q2
      exact fun v' m' H' ex hk r => ⟨kk, rep_bl r, q2 kk m' H' ex hk rfl⟩
    | exc cc h3 => rw [e] at q2; exact q2
    | bad => rw [e] at q2; exact q2⟩
theorem st_not (ha : PT X a (tDB X.K X.mg W ba)) : PT X (.UnaryOp .Not a pos) (tDB X.K X.mg W (bNot ba)) :=
  pickT fun σ H Q ⟨Z, m, ρ, c, at', p⟩ => ⟨_, pt_not ha, ⟨Z, m, ρ, c, at', (PostG.bind p).imp fun v H' ⟨d, m', h', ex, hk, rp, _, q⟩ => by
    subst rp
    exact q _ m' H' Ext.refl hk rfl⟩⟩
theorem sw_and1 (ha : PT X a (tDB X.K X.mg W ba)) : PW X (.BoolOp .And [a] pos) (tDB X.K X.mg W ba) := pw_and1 ha
theorem sw_or1 (ha : PT X a (tDB X.K X.mg W ba)) : PW X (.BoolOp .Or [a] pos) (tDB X.K X.mg W ba) := pw_or1 ha
theorem sw_and (ha : PT X a (tDB X.K X.mg W ba)) (hb : PW X (.BoolOp .And (b :: rest) pos) (tDB X.K X.mg W bb)) : PW X (.BoolOp .And (a :: b :: rest) pos) (tDB X.K X.mg W (bAnd ba bb)) :=
  pickW fun σ H Q ⟨Z, m, ρ, c, at', p⟩ => ⟨_, pw_and ha hb, ⟨Z, m, ρ, c, at', (PostG.bind p).imp fun v H' ⟨d, m', h', ex, hk, rp, _, q⟩ => by
    subst rp
    cases v with
    | true => exact ⟨Z, m', ρ, h', ⟨hk, ex.env at'.en⟩, q⟩
    | false => exact q _ m' H' Ext.refl hk rfl⟩⟩
theorem sw_or (ha : PT X a (tDB X.K X.mg W ba)) (hb : PW X (.BoolOp .Or (b :: rest) pos) (tDB X.K X.mg W bb)) : PW X (.BoolOp .Or (a :: b :: rest) pos) (tDB X.K X.mg W (bOr ba bb)) :=
  pickW fun σ H Q ⟨Z, m, ρ, c, at', p⟩ => ⟨_, pw_or ha hb, ⟨Z, m, ρ, c, at', (PostG.bind p).imp fun v H' ⟨d, m', h', ex, hk, rp, _, q⟩ => by
    subst rp
    cases v with
    | false => exact ⟨Z, m', ρ, h', ⟨hk, ex.env at'.en⟩, q⟩
    | true => exact q _ m' H' Ext.refl hk rfl⟩⟩
theorem se_one {op} (h : PE X a (tD X.K X.mg W f)) : PE X (.BoolOp op [a] pos) (tD X.K X.mg W f) := pe_one h
theorem se_and (ha : PE X a (tD X.K X.mg W f)) (hb : PE X (.BoolOp .And (b :: rest) pos) (tD X.K X.mg W g)) : PE X (.BoolOp .And (a :: b :: rest) pos) (tD X.K X.mg W (eAnd f g)) :=
  pick fun σ H Q ⟨Z, m, ρ, c, at', p⟩ => ⟨_, pe_andT ha hb, ⟨Z, m, ρ, c, at', (PostG.bind p).imp fun v H' ⟨d, m', h', ex, hk, rp, _, q⟩ => by
    obtain ⟨kk, t, q'⟩ := truth_post hk rp q
    refine ⟨kk, t, ?_⟩
    cases kk with
    | true => exact ⟨Z, m', ρ, h', ⟨hk, ex.env at'.en⟩, q'⟩
    | false => exact put_old hk rp q'⟩⟩
theorem se_or (ha : PE X a (tD X.K X.mg W f)) (hb : PE X (.BoolOp .Or (b :: rest) pos) (tD X.K X.mg W g)) : PE X (.BoolOp .Or (a :: b :: rest) pos) (tD X.K X.mg W (eOr f g)) :=
  pick fun σ H Q ⟨Z, m, ρ, c, at', p⟩ => ⟨_, pe_orT ha hb, ⟨Z, m, ρ, c, at', (PostG.bind p).imp fun v H' ⟨d, m', h', ex, hk, rp, _, q⟩ => by
    obtain ⟨kk, t, q'⟩ := truth_post hk rp q
    refine ⟨kk, t, ?_⟩
    cases kk with
    | true => exact put_old hk rp q'
    | false => exact ⟨Z, m', ρ, h', ⟨hk, ex.env at'.en⟩, q'⟩⟩⟩
theorem se_not (ha : PE X a (tD X.K X.mg W f)) : PE X (.UnaryOp .Not a pos) (tD X.K X.mg W (eNot f)) :=
  pick fun σ H Q ⟨Z, m, ρ, c, at', p⟩ => ⟨_, pe_notT ha, ⟨Z, m, ρ, c, at', (PostG.bind p).imp fun v H' ⟨d, m', h', ex, hk, rp, _, q⟩ => by
    obtain ⟨kk, t, q'⟩ := truth_post hk rp q
    exact ⟨kk, t, put_bl hk q'⟩⟩⟩
theorem se_if (hc : PT X c (tDB X.K X.mg W ba)) (ha : PE X a (tD X.K X.mg W f)) (hb : PE X b (tD X.K X.mg W g)) : PE X (.IfExp c a b pos) (tD X.K X.mg W (eIf ba f g)) :=
  pick fun σ H Q ⟨Z, m, ρ, c, at', p⟩ => ⟨_, pe_ifExp hc ha hb, ⟨Z, m, ρ, c, at', (PostG.bind p).imp fun v H' ⟨d, m', h', ex, hk, rp, _, q⟩ => by
    subst rp
    cases v with
    | true => exact ⟨Z, m', ρ, h', ⟨hk, ex.env at'.en⟩, q⟩
    | false => exact ⟨Z, m', ρ, h', ⟨hk, ex.env at'.en⟩, q⟩⟩⟩
/-- a op b op' c -/
def eCh (o o' : D → D → M D) (f g k : ED) : ED := fun ρ => M.bind (f ρ) fun x => M.bind (g ρ) fun y => M.bind (o x y) fun z h => match z with
  | .bl true => M.bind (k ρ) (fun w => o' y w) h
  | .bl false => .ok (.bl false) h
  | _ => .bad
theorem chain_den {r r' : R2} {o o' : D → D → M D} {K : PySem.W.Frag} {mg : Str → Option Value} {σ : L2.St} {H : Hp} {Q : VK} (h : tD K mg W (eCh o o' f g k) σ H Q) : tChain (rD2 K mg W o) (rD2 K mg W o') (tD K mg W f) (tD K mg W g) (tD K mg W k) σ H Q := by
  obtain ⟨Z, m, ρ, c, at', p⟩ := h
  refine ⟨Z, m, ρ, c, at', (PostG.bind p).imp fun v H1 ⟨x, m1, h1, ex1, hk1, r1, _, q1⟩ => ?_⟩
  refine ⟨Z, m1, ρ, h1, ⟨hk1, ex1.env at'.en⟩, (PostG.bind q1).imp fun u H2 ⟨y, m2, h2, ex2, hk2, r2, _, q2⟩ => ?_⟩
  refine ⟨Z, m2, h2, σ, x, y, hk2, ex2.rep r1, r2, (PostG.bind q2).imp fun w H3 ⟨z, m3, h3, ex3, hk3, r3, _, q3⟩ => ?_⟩
  split at q3
  · refine ⟨true, rep_bl r3, ?_⟩
    rw [if_pos rfl]
    refine ⟨Z, m3, ρ, h3, ⟨hk3, ex3.env (ex2.env (ex1.env at'.en))⟩, (PostG.bind q3).imp fun w4 H4 ⟨d4, m4, h4, ex4, hk4, r4, _, q4⟩ => ?_⟩
    exact ⟨Z, m4, h4, σ, y, d4, hk4, ex4.rep (ex3.rep r2), r4, q4⟩
  · refine ⟨false, rep_bl r3, ?_⟩
    rw [if_neg Bool.false_ne_true]
    exact put_bl hk3 q3
  · exact q3.elim
theorem se_chain {op op' : CmpOp} {o o' : D → D → M D} (ho : OpR X (compareOp op) (rD2 X.K X.mg W o)) (ho' : OpR X (compareOp op') (rD2 X.K X.mg W o')) (ha : PE X a (tD X.K X.mg W f)) (hb : PE X b (tD X.K X.mg W g)) (hc : PE X c (tD X.K X.mg W k))
    (hm : lastMarks [op, op'] [b, c] = false := by with_unfolding_all rfl) : PE X (.Compare a [op, op'] [b, c] pos) (tD X.K X.mg W (eCh o o' f g k)) :=
  pick fun σ H Q h => ⟨_, pe_chain ho ho' ha hb hc hm, chain_den (r := rD2 X.K X.mg W o) (r' := rD2 X.K X.mg W o') h⟩
theorem st_chain {op op' : CmpOp} {o o' : D → D → M D} (hB' : Boolish o') (ho : OpR X (compareOp op) (rD2 X.K X.mg W o)) (ho' : OpR X (compareOp op') (rD2 X.K X.mg W o')) (ha : PE X a (tD X.K X.mg W f)) (hb : PE X b (tD X.K X.mg W g)) (hc : PE X c (tD X.K X.mg W k))
    (hm : lastMarks [op, op'] [b, c] = false := by with_unfolding_all rfl) : PT X (.Compare a [op, op'] [b, c] pos) (tDB X.K X.mg W (bT (eCh o o' f g k))) :=
  pickT fun σ H Q ⟨Z, m, ρ, c, at', p⟩ => ⟨_, pt_chain ho ho' ha hb hc hm, by
    refine chain_den (r := rD2 X.K X.mg W o) (r' := rD2 X.K X.mg W o') ⟨Z, m, ρ, c, at', ?_⟩
    have fin : ∀ d h', eCh o o' f g k ρ c = .ok d h' → ∃ kk, d = .bl kk := by
      intro d h' e
      unfold eCh M.bind at e
      cases e1 : f ρ c with
      | exc _ _ => rw [e1] at e; cases e
      | bad => rw [e1] at e; cases e
      | ok x h1 =>
        rw [e1] at e
        dsimp only at e
        cases e2 : g ρ h1 with
        | exc _ _ => rw [e2] at e; cases e
        | bad => rw [e2] at e; cases e
        | ok y h2 =>
          rw [e2] at e
          dsimp only at e
          cases e3 : o x y h2 with
          | exc _ _ => rw [e3] at e; cases e
          | bad => rw [e3] at e; cases e
          | ok z h3 =>
            rw [e3] at e
            dsimp only at e
            split at e
            · cases e4 : k ρ h3 with
              | exc _ _ => rw [e4] at e; cases e
              | bad => rw [e4] at e; cases e
              | ok w h4 =>
                rw [e4] at e
                obtain ⟨kk, q, _⟩ := hB' y w h4 d h' e
                exact ⟨kk, q⟩
            · cases e; exact ⟨_, rfl⟩
            · cases e
    have p' : PostB X.K X.mg W σ Z m H (M.bind (fun h => eCh o o' f g k ρ h) truth c) Q := p
    unfold M.bind at p'
    dsimp only at p'
    cases e : eCh o o' f g k ρ c with
    | ok d h' =>
      obtain ⟨kk, rfl⟩ := fin d h' e
      rw [e] at p'
      exact fun v' m' H' ex hk r => ⟨kk, rep_bl r, p' kk m' H' ex hk rfl⟩
    | exc _ _ => rw [e] at p'; exact p'
    | bad => rw [e] at p'; exact p'⟩
end
theorem bo_eq : Boolish dEq := fun x y h d h' e => by unfold dEq at e; split at e <;> cases e; exact ⟨_, rfl, rfl⟩
theorem bo_ne : Boolish dNe := fun x y h d h' e => by unfold dNe at e; split at e <;> cases e; exact ⟨_, rfl, rfl⟩
theorem bo_is : Boolish dIs := fun x y h d h' e => by unfold dIs at e; split at e <;> cases e; exact ⟨_, rfl, rfl⟩
theorem bo_isnt : Boolish dIsnt := fun x y h d h' e => by unfold dIsnt at e; split at e <;> cases e; exact ⟨_, rfl, rfl⟩
theorem bo_le : Boolish dLe := fun x y h d h' e => by unfold dLe at e; split at e <;> cases e; exact ⟨_, rfl, rfl⟩
theorem bo_gt : Boolish dGt := fun x y h d h' e => by unfold dGt at e; split at e <;> cases e; exact ⟨_, rfl, rfl⟩
theorem bo_ge : Boolish dGe := fun x y h d h' e => by unfold dGe at e; split at e <;> cases e; exact ⟨_, rfl, rfl⟩
theorem bo_lt : Boolish dLt := fun x y h d h' e => by
  unfold dLt at e
  split at e
  · cases e; exact ⟨_, rfl, rfl⟩
  · cases e; exact ⟨_, rfl, rfl⟩
  · split at e <;> cases e; exact ⟨_, rfl, rfl⟩
  · cases e
theorem bo_in : Boolish dIn := fun x y h d h' e => by
  unfold dIn at e
  split at e
  · split at e <;> cases e; exact ⟨_, rfl, rfl⟩
  · cases e
theorem bo_notIn : Boolish dNotIn := fun x y h d h' e => by
  unfold dNotIn at e
  split at e
  · split at e <;> cases e; exact ⟨_, rfl, rfl⟩
  · cases e

/-! ### calls of what is built in -/
def eCall (op : List D → M D) (fs : AD) : ED := fun ρ => M.bind (fs ρ) op
def eMeth (op : D → List D → M D) (f : ED) (fs : AD) : ED := fun ρ => M.bind (f ρ) fun x => M.bind (fs ρ) fun ds => op x ds
section
variable {X : Cx} {W : WX} {x : Str} {p pos apos : Pos} {e o : Expr} {es : List Expr} {f : ED} {fs : AD} {id T : String} {op : List D → M D}
theorem se_callB (hc : CallR X (.builtin id) (rDL X.K X.mg W op)) (hg : Gl X x) (hm : X.mg x = none) (hv : bootBuiltins x = some (.builtin id)) (ha : PA X (e :: es) (tDL X.K X.mg W fs)) (hn : x ≠ "__name__" := by decide) (hdb : (x == ("__debug__" : Str)) = false := by decide)
    (he : starEach (e :: es) X.env = (false, eval e X.env) :: starEach es X.env := by rfl) (hpl : (backTo pos (starEach es X.env)).any (·.1) = false := by rfl) : PE X (.Call (.Name x p) (e :: es) [] pos) (tD X.K X.mg W (eCall op fs)) :=
  pick fun σ H Q h => ⟨_, pe_callB hc hg hm hv ha hn hdb he hpl, denL h fun _ _ _ q => q⟩
theorem se_callTy (hc : CallR X (.type T) (rDL X.K X.mg W op)) (hg : Gl X x) (hm : X.mg x = none) (hv : bootBuiltins x = some (.type T)) (ha : PA X (e :: es) (tDL X.K X.mg W fs)) (hn : x ≠ "__name__" := by decide) (hdb : (x == ("__debug__" : Str)) = false := by decide)
    (he : starEach (e :: es) X.env = (false, eval e X.env) :: starEach es X.env := by rfl) (hpl : (backTo pos (starEach es X.env)).any (·.1) = false := by rfl) : PE X (.Call (.Name x p) (e :: es) [] pos) (tD X.K X.mg W (eCall op fs)) :=
  pick fun σ H Q h => ⟨_, pe_callTy hc hg hm hv ha hn hdb he hpl, denL h fun _ _ _ q => q⟩
end
def dLen (ds : List D) : M D := fun h =>
  match ds with
  | [.str x] => if x.length ≤ sizeLine then .ok (.int x.length) h else .bad
  | [d] => match seq h d with
    | some xs => .ok (.int xs.length) h
    | none => .bad
  | _ => .bad
def dInt (ds : List D) : M D := fun h =>
  match ds with
  | [.int i] => .ok (.int i) h
  | [.bl b] => .ok (.int (if b then 1 else 0)) h
  | _ => .bad
def dStr (ds : List D) : M D := fun h =>
  match ds with
  | [.int i] => if i.natAbs.log2 < 1920 then .ok (.str (toString i)) h else .bad
  | _ => .bad
def dOrd (ds : List D) : M D := fun h =>
  match ds with
  | [.str x] => if x.length = 1 then .ok (.int (x.cps.getD 0 0 : Nat)) h else .bad
  | _ => .bad
def dMax2 (ds : List D) : M D := fun h =>
  match ds with
  | [.int i, .int j] => .ok (.int (if j > i then j else i)) h
  | _ => .bad
def dMin2 (ds : List D) : M D := fun h =>
  match ds with
  | [.int i, .int j] => .ok (.int (if j < i then j else i)) h
  | _ => .bad
def dTuple (ds : List D) : M D := fun h =>
  match ds with
  | [d] => match seq h d with
    | some xs => .ok (.tup xs) h
    | none => .bad
  | _ => .bad
/-- list(..): a list that stands still -/
def dList (ds : List D) : M D := fun h =>
  match ds with
  | [d] => match seq h d with
    | some xs => .ok (.lst xs) h
    | none => .bad
  | _ => .bad
/-- list(..): a cell -/
def dListC (ds : List D) : M D := fun h =>
  match ds with
  | [d] => match seq h d with
    | some xs => .ok (.ref h.length) (h ++ [.lst xs])
    | none => .bad
  | _ => .bad
theorem ok_small {x : Str} (h : ∀ c ∈ x.cps.toList, c < 128) : PyData.strOk x = true := by
  rw [ok_iff]
  intro c hc
  have := h c hc
  omega
section
variable {X : Cx} {W : WX}
theorem repL_one {K : PySem.W.Frag} {mg : Str → Option Value} {m : List Addr} {S : Hp} {d : D} {vs : List V} (r : RepL K mg m S [d] vs) : ∃ v, vs = [v] ∧ Rep K mg m S d v := by
  obtain ⟨v, t, rfl, a, b⟩ := r.of_cons
  rw [b.of_nil]
  exact ⟨v, rfl, a⟩
theorem repL_two {K : PySem.W.Frag} {mg : Str → Option Value} {m : List Addr} {S : Hp} {d e : D} {vs : List V} (r : RepL K mg m S [d, e] vs) : ∃ v u, vs = [v, u] ∧ Rep K mg m S d v ∧ Rep K mg m S e u := by
  obtain ⟨v, t, rfl, a, b⟩ := r.of_cons
  obtain ⟨u, rfl, c⟩ := repL_one b
  exact ⟨v, u, rfl, a, c⟩
theorem call_dLen : CallR X (.builtin "len") (rDL X.K X.mg W dLen) := by
  intro pins s σ H vs us Q I r ⟨Z, m, h, σ', ds, hk, rp, p⟩
  unfold dLen at p
  split at p
  · obtain ⟨v, rfl, g⟩ := repL_one rp
    obtain ⟨rfl, _⟩ := rep_str g
    split at p
    · rename_i hz
      exact call_len pins s σ H _ us Q I r ⟨_, _, rfl, ⟨hz, rfl⟩, put_int hk p⟩
    · exact p.elim
  · obtain ⟨v, rfl, g⟩ := repL_one rp
    split at p
    · rename_i xs hs
      obtain ⟨a, vs, rfl, g1, g2⟩ := hk.rseq g hs
      rw [← g2.length] at p
      refine call_len pins s σ H _ us Q I r ⟨_, _, rfl, ?_, put_int hk p⟩
      rcases g1 with g1 | g1
      · exact .inl ⟨vs, g1, rfl⟩
      · exact .inr ⟨vs, g1, rfl⟩
    · exact p.elim
  · exact p.elim
theorem call_dInt : CallR X (.type "int") (rDL X.K X.mg W dInt) := by
  intro pins s σ H vs us Q I r ⟨Z, m, h, σ', ds, hk, rp, p⟩
  unfold dInt at p
  split at p
  · obtain ⟨v, rfl, g⟩ := repL_one rp
    obtain rfl := rep_int g
    exact call_int1 pins s σ H _ us Q I r (.inl ⟨_, rfl, put_int hk p⟩)
  · obtain ⟨v, rfl, g⟩ := repL_one rp
    obtain rfl := rep_bl g
    exact call_int1 pins s σ H _ us Q I r (.inr ⟨_, rfl, put_int hk p⟩)
  · exact p.elim
theorem call_dOrd : CallR X (.builtin "ord") (rDL X.K X.mg W dOrd) := by
  intro pins s σ H vs us Q I r ⟨Z, m, h, σ', ds, hk, rp, p⟩
  unfold dOrd at p
  split at p
  · obtain ⟨v, rfl, g⟩ := repL_one rp
    obtain ⟨rfl, _⟩ := rep_str g
    split at p
    · rename_i hz
      exact call_ord pins s σ H _ us Q I r ⟨_, rfl, hz, put_int hk p⟩
    · exact p.elim
  · exact p.elim
theorem call_dMax2 (hc : X.calm = true) : CallR X (.builtin "max") (rDL X.K X.mg W dMax2) := by
  intro pins s σ H vs us Q I r ⟨Z, m, h, σ', ds, hk, rp, p⟩
  unfold dMax2 at p
  split at p
  · obtain ⟨v, u, rfl, g1, g2⟩ := repL_two rp
    obtain rfl := rep_int g1
    obtain rfl := rep_int g2
    exact call_max2 hc pins s σ H _ us Q I r ⟨_, _, rfl, put_int hk p⟩
  · exact p.elim
theorem call_dMin2 (hc : X.calm = true) : CallR X (.builtin "min") (rDL X.K X.mg W dMin2) := by
  intro pins s σ H vs us Q I r ⟨Z, m, h, σ', ds, hk, rp, p⟩
  unfold dMin2 at p
  split at p
  · obtain ⟨v, u, rfl, g1, g2⟩ := repL_two rp
    obtain rfl := rep_int g1
    obtain rfl := rep_int g2
    exact call_min2 hc pins s σ H _ us Q I r ⟨_, _, rfl, put_int hk p⟩
  · exact p.elim
theorem call_dTuple : CallR X (.type "tuple") (rDL X.K X.mg W dTuple) := by
  intro pins s σ H vs us Q I r ⟨Z, m, h, σ', ds, hk, rp, p⟩
  match ds, rp, p with
  | [], _, p => exact p.elim
  | _ :: _ :: _, _, p => exact p.elim
  | [d], rp, p =>
    obtain ⟨v, rfl, g⟩ := repL_one rp
    unfold dTuple at p
    dsimp only at p
    split at p
    · rename_i xs hs
      cases hv : vw h d with
      | tup ys =>
        have hs' := hs
        unfold seq at hs'
        rw [hv] at hs'
        cases hs'
        obtain ⟨a, vs, rfl, g1, g2⟩ := HeapOk.rtup g hv
        refine call_tuple_of pins s σ H _ us Q I r ⟨a, vs, rfl, .inr ⟨g1, ?_⟩⟩
        have e : d = .tup xs := by
          cases d with
          | ref n =>
            have hv' : (match h[n]? with | some (.lst xs) => D.lst xs | _ => .ref n) = .tup xs := hv
            split at hv' <;> cases hv'
          | tup zs => cases hv; rfl
          | _ => cases hv
        subst e
        exact put_old hk g p
      | lst ys =>
        have hs' := hs
        unfold seq at hs'
        rw [hv] at hs'
        cases hs'
        obtain ⟨a, vs, rfl, g1, g2⟩ := hk.rlst g hv
        exact call_tuple_of pins s σ H _ us Q I r ⟨a, vs, rfl, .inl ⟨SqL.of g1, put_tup hk g2 p⟩⟩
      | scr ys =>
        have hs' := hs
        unfold seq at hs'
        rw [hv] at hs'
        cases hs'
        obtain ⟨a, vs, rfl, g1, g2⟩ := HeapOk.rscr g hv
        exact call_tuple_of pins s σ H _ us Q I r ⟨a, vs, rfl, .inl ⟨g1, put_tup hk g2 p⟩⟩
      | _ => unfold seq at hs; rw [hv] at hs; cases hs
    · exact p.elim
theorem call_dList : CallR X (.type "list") (rDL X.K X.mg W dList) := by
  intro pins s σ H vs us Q I r ⟨Z, m, h, σ', ds, hk, rp, p⟩
  unfold dList at p
  split at p
  · obtain ⟨v, rfl, g⟩ := repL_one rp
    split at p
    · rename_i d xs hs
      obtain ⟨a, vs, rfl, g1, g2⟩ := hk.rseq g hs
      exact call_list_of pins s σ H _ us Q I r ⟨a, vs, rfl, g1, put_lst hk g2 p⟩
    · exact p.elim
  · exact p.elim
theorem call_dListC : CallR X (.type "list") (rDL X.K X.mg W dListC) := by
  intro pins s σ H vs us Q I r ⟨Z, m, h, σ', ds, hk, rp, p⟩
  unfold dListC at p
  split at p
  · obtain ⟨v, rfl, g⟩ := repL_one rp
    split at p
    · rename_i d xs hs
      obtain ⟨a, vs, rfl, g1, g2⟩ := hk.rseq g hs
      exact call_list_of pins s σ H _ us Q I r ⟨a, vs, rfl, g1, put_cell hk g2 p⟩
    · exact p.elim
  · exact p.elim
end
end FK

/-! part: FK5 -/
set_option Elab.async false
set_option linter.all false
set_option maxRecDepth 100000
set_option maxHeartbeats 4000000
/-! FK5: targets, statements, for, while, comprehensions. -/
namespace FK
open PySem PySem.Spec L2

/-! ### targets -/
abbrev GD := D → Env → Option Env
abbrev GsD := List D → Env → Option Env
def gN (i : Nat) : GD := fun d ρ => some (ρ.set i (some d))
def gT (ts : GsD) : GD := fun d ρ => match d with
  | .tup xs => ts xs ρ
  | _ => none
def gsN : GsD := fun xs ρ => match xs with
  | [] => some ρ
  | _ => none
def gsC (t : GD) (ts : GsD) : GsD := fun xs ρ => match xs with
  | [] => none
  | x :: r => match t x ρ with
    | some ρ' => ts r ρ'
    | none => none
/-- what a target leaves alone -/
def Kept (is : List Nat) (σ σ' : L2.St) : Prop := ∀ vs : List Nat, (∀ i ∈ is, i ∈ vs) → wipe σ' vs = wipe σ vs
section
variable (K : PySem.W.Frag) (mg : Str → Option Value)
def tDG (is : List Nat) (g : GD) : TG := fun v σ H Q => ∃ Z m ρ h d ρ', At K mg Z m ρ h σ H ∧ Rep K mg m (hide (Z ++ m) H) d v ∧ g d ρ = some ρ' ∧ ∀ σ', REnv K mg m (hide (Z ++ m) H) ρ' σ' → Kept is σ σ' → Q σ' H
def tDGs (is : List Nat) (g : GsD) : TGs := fun vs σ H Q => ∃ Z m ρ h ds ρ', At K mg Z m ρ h σ H ∧ RepL K mg m (hide (Z ++ m) H) ds vs ∧ g ds ρ = some ρ' ∧ ∀ σ', REnv K mg m (hide (Z ++ m) H) ρ' σ' → Kept is σ σ' → Q σ' H
end
theorem pickG {X : Cx} {e : Expr} {t : TG} (h : ∀ v σ H Q, t v σ H Q → ∃ t', PG X e t' ∧ t' v σ H Q) : PG X e t := ⟨fun pins s σ H v u Q I r q => by
  obtain ⟨t', p, q'⟩ := h v σ H Q q
  exact p.run pins s σ H v u Q I r q'⟩
theorem pickGs {X : Cx} {e : List Expr} {t : TGs} (h : ∀ v σ H Q, t v σ H Q → ∃ t', PGs X e t' ∧ t' v σ H Q) : PGs X e t := ⟨fun pins s σ H v u Q I r q => by
  obtain ⟨t', p, q'⟩ := h v σ H Q q
  exact p.run pins s σ H v u Q I r q'⟩
theorem wipe_set {σ : L2.St} {i : Nat} {x : Option V} : ∀ {vs : List Nat}, i ∈ vs → wipe (σ.set i x) vs = wipe σ vs
  | v :: vs, h => by
    unfold wipe
    by_cases e : i ∈ vs
    · rw [wipe_set e]
    · have e2 : i = v := by
        rcases List.mem_cons.mp h with z | z
        · exact z
        · exact absurd z e
      subst e2
      have push : ∀ vs : List Nat, i ∉ vs → wipe (σ.set i x) vs = (wipe σ vs).set i x := by
        intro vs
        induction vs with
        | nil => intro _; rfl
        | cons v vs ih =>
          intro hn
          simp only [List.mem_cons, not_or] at hn
          unfold wipe
          rw [ih hn.2, List.set_comm _ _ hn.1]
      rw [push vs e, List.set_set]
section
variable {X : Cx} {e : Expr} {es : List Expr} {pos : Pos} {is js : List Nat} {g : GD} {gs : GsD}
theorem sg_name {i : Nat} {x : Str} (hN : X.N.Nodup) (hi : X.N[i]? = some x) (hx : Loc X.env.scope x) (hf : X.fn x = true ∨ X.env.scope.names.lookup x = some .local := by first | exact .inl rfl | exact .inr rfl | assumption) : PG X (.Name x pos) (tDG X.K X.mg [i] (gN i)) :=
  pickG fun v σ H Q ⟨Z, m, ρ, h, d, ρ', at', r, e, q⟩ => ⟨_, pg_name hN hi hx hf, by
    cases e
    exact q _ (REnv.set r i at'.en) fun vs hv => wipe_set (hv i (by simp))⟩
theorem sg_nil : PGs X [] (tDGs X.K X.mg [] gsN) :=
  pickGs fun v σ H Q ⟨Z, m, ρ, h, ds, ρ', at', r, e, q⟩ => ⟨_, pgs_nil, by
    cases ds with
    | nil => cases e; exact ⟨r.of_nil, q _ at'.en fun _ _ => rfl⟩
    | cons _ _ => cases e⟩
theorem sg_cons (h1 : PG X e (tDG X.K X.mg is g)) (h2 : PGs X es (tDGs X.K X.mg js gs)) (hs : (assignEach (e :: es) X.env).map (·.2) = assign e X.env :: (assignEach es X.env).map (·.2) := by rfl) : PGs X (e :: es) (tDGs X.K X.mg (is ++ js) (gsC g gs)) :=
  pickGs fun v σ H Q ⟨Z, m, ρ, h, ds, ρ', at', r, e, q⟩ => ⟨_, pgs_cons h1 h2 hs, by
    cases ds with
    | nil => cases e
    | cons d ds =>
      obtain ⟨u, t, rfl, ra, rb⟩ := r.of_cons
      have e : (match g d ρ with | some ρ' => gs ds ρ' | none => none) = some ρ' := e
      cases e1 : g d ρ with
      | none => rw [e1] at e; cases e
      | some ρ1 =>
        rw [e1] at e
        refine ⟨u, t, rfl, Z, m, ρ, h, d, ρ1, at', ra, e1, fun σ1 en1 k1 => ?_⟩
        exact ⟨Z, m, ρ1, h, ds, ρ', ⟨at'.hk, en1⟩, rb, e, fun σ2 en2 k2 => q σ2 en2 fun vs hv => (k2 vs fun i hi => hv i (List.mem_append_right _ hi)).trans (k1 vs fun i hi => hv i (List.mem_append_left _ hi))⟩⟩
theorem sg_tup {k : Nat} {n : Nat} (hc : X.calm = true) (h : PGs X es (tDGs X.K X.mg is gs)) (hl : ∀ xs ρ ρ', gs xs ρ = some ρ' → xs.length = n) (hn : (assignEach es X.env).length = n := by rfl) (hst : (assignEach es X.env).findIdx? (·.1) = none := by rfl) :
    PG X (.Tuple es k pos) (tDG X.K X.mg is (gT gs)) :=
  pickG fun v σ H Q ⟨Z, m, ρ, c, d, ρ', at', r, e, q⟩ => ⟨_, pg_tup hc h hn hst, by
    cases d with
    | tup xs =>
      obtain ⟨a, vs, rfl, g1, g2⟩ := rep_tup r
      exact ⟨a, vs, rfl, hide_sub.sqt g1, by rw [g2.length]; exact hl xs ρ ρ' e, Z, m, ρ, c, xs, ρ', at', g2, e, q⟩
    | _ => cases e⟩
end
theorem gl_nil : ∀ xs ρ ρ', gsN xs ρ = some ρ' → xs.length = 0 := fun xs ρ ρ' e => by
  cases xs with
  | nil => rfl
  | cons _ _ => cases e
theorem gl_cons {g : GD} {gs : GsD} {n : Nat} (h : ∀ xs ρ ρ', gs xs ρ = some ρ' → xs.length = n) : ∀ xs ρ ρ', gsC g gs xs ρ = some ρ' → xs.length = n + 1 := fun xs ρ ρ' e => by
  cases xs with
  | nil => cases e
  | cons x r =>
    have e : (match g x ρ with | some ρ' => gs r ρ' | none => none) = some ρ' := e
    split at e
    · rw [List.length_cons, h _ _ _ e]
    · cases e

/-! ### statements -/
def sE (f : ED) (k : D → SD) : SD := fun ρ h => match f ρ h with
  | .ok d h1 => k d ρ h1
  | .exc c h1 => .exc c ρ h1
  | .bad => .bad
def sB (b : BD) (k : Bool → SD) : SD := fun ρ h => match b ρ h with
  | .ok d h1 => k d ρ h1
  | .exc c h1 => .exc c ρ h1
  | .bad => .bad
def sNil : SD := fun ρ h => .ok .nx ρ h
def sBrk : SD := fun ρ h => .ok .bk ρ h
def sCnt : SD := fun ρ h => .ok .ct ρ h
def sRetN : SD := fun ρ h => .ok (.rt .non) ρ h
def sSeq (a b : SD) : SD := fun ρ h => match a ρ h with
  | .ok .nx ρ1 h1 => b ρ1 h1
  | r => r
def sRet (f : ED) : SD := sE f fun d ρ h => .ok (.rt d) ρ h
def sExpr (f : ED) : SD := sE f fun _ => sNil
def sAsg (f : ED) (g : GD) : SD := sE f fun d ρ h => match g d ρ with
  | some ρ' => .ok .nx ρ' h
  | none => .bad
def sIf (b : BD) (s t : SD) : SD := sB b fun k => if k = true then s else t
theorem pickS {X : Cx} {e : Stmt} {t : TS} (h : ∀ σ H E, t E σ H → ∃ t', PS X e t' ∧ t' E σ H) : PS X e t := ⟨fun pins s σ H E I q => by
  obtain ⟨t', p, q'⟩ := h σ H E q
  exact p.run pins s σ H E I q'⟩
theorem pickSs {X : Cx} {e : List Stmt} {t : TS} (h : ∀ σ H E, t E σ H → ∃ t', PSs X e t' ∧ t' E σ H) : PSs X e t := ⟨fun pins s σ H E I q => by
  obtain ⟨t', p, q'⟩ := h σ H E q
  exact p.run pins s σ H E I q'⟩
section
variable {K : PySem.W.Frag} {mg : Str → Option Value} {Z m m1 : List Addr} {H H1 : Hp} {h : CH} {W : WX} {ρ : Env} {σ : L2.St} {E E' : Ends}
theorem PostS.from {r : RS} (ex : Ext Z m H m1 H1) (p : PostS K mg W Z m H r E) : PostS K mg W Z m1 H1 r E := by
  cases r with
  | ok f ρ h =>
    cases f with
    | nx => exact fun σ' m' H' e => p σ' m' H' (ex.trans e)
    | bk => exact fun σ' m' H' e => p σ' m' H' (ex.trans e)
    | ct => exact fun σ' m' H' e => p σ' m' H' (ex.trans e)
    | rt d => exact fun σ' m' H' e => p σ' m' H' (ex.trans e)
  | exc c ρ h => exact fun σ' m' H' cls e => p σ' m' H' cls (ex.trans e)
  | bad => exact p
/-- an expression, then what follows -/
theorem PostS.ofE {f : ED} {k : D → SD} (at' : At K mg Z m ρ h σ H) (p : PostS K mg W Z m H (sE f k ρ h) E) :
    Post K mg W σ Z m H (f ρ h) (fun v H' => ∃ d m' h', Ext Z m H m' H' ∧ At K mg Z m' ρ h' σ H' ∧ Rep K mg m' (hide (Z ++ m') H') d v ∧ PostS K mg W Z m' H' (k d ρ h') E) := by
  unfold sE at p
  cases e : f ρ h with
  | ok d h1 =>
    rw [e] at p
    exact fun v m' H' ex hk r => ⟨d, m', h1, ex, ⟨hk, ex.env at'.en⟩, r, PostS.from ex p⟩
  | exc c h1 =>
    rw [e] at p
    exact fun m' H' cls ex hk hc => p σ m' H' cls ex hk (ex.env at'.en) hc
  | bad => rw [e] at p; exact p
theorem PostS.ofB {f : BD} {k : Bool → SD} (at' : At K mg Z m ρ h σ H) (p : PostS K mg W Z m H (sB f k ρ h) E) :
    PostB K mg W σ Z m H (f ρ h) (fun d H' => ∃ m' h', Ext Z m H m' H' ∧ At K mg Z m' ρ h' σ H' ∧ PostS K mg W Z m' H' (k d ρ h') E) := by
  unfold sB at p
  cases e : f ρ h with
  | ok d h1 =>
    rw [e] at p
    intro v m' H' ex hk r
    subst r
    exact ⟨m', h1, ex, ⟨hk, ex.env at'.en⟩, PostS.from ex p⟩
  | exc c h1 =>
    rw [e] at p
    exact fun m' H' cls ex hk hc => p σ m' H' cls ex hk (ex.env at'.en) hc
  | bad => rw [e] at p; exact p
/-- one statement of two -/
theorem PostS.seq {a b : SD} (p : PostS K mg W Z m H (sSeq a b ρ h) E) : PostS K mg W Z m H (a ρ h) { E with nx := tDS K mg W b E } := by
  unfold sSeq at p
  cases e : a ρ h with
  | ok f ρ1 h1 =>
    rw [e] at p
    cases f with
    | nx => exact fun σ' m' H' ex hk en => ⟨Z, m', ρ1, h1, ⟨hk, en⟩, PostS.from ex p⟩
    | bk => exact p
    | ct => exact p
    | rt d => exact p
  | exc c ρ1 h1 => rw [e] at p; exact p
  | bad => rw [e] at p; exact p
end
section
variable {X : Cx} {W : WX} {e o : Expr} {es : List Expr} {pos : Pos} {st : Stmt} {sts ths els : List Stmt} {f : ED} {b : BD} {a c : SD} {g : GD} {is : List Nat}
theorem ss_nil : PSs X [] (tDS X.K X.mg W sNil) := pickSs fun σ H E ⟨Z, m, ρ, h, at', p⟩ => ⟨_, pss_nil, p σ m H Ext.refl at'.hk at'.en⟩
theorem ss_cons (h1 : PS X st (tDS X.K X.mg W a)) (h2 : PSs X sts (tDS X.K X.mg W c)) : PSs X (st :: sts) (tDS X.K X.mg W (sSeq a c)) :=
  pickSs fun σ H E ⟨Z, m, ρ, h, at', p⟩ => ⟨_, pss_cons h1 h2, Z, m, ρ, h, at', PostS.seq p⟩
theorem ss_one (h1 : PS X st (tDS X.K X.mg W a)) : PSs X [st] (tDS X.K X.mg W a) := pss_one h1
theorem ss_pass : PS X (.Pass pos) (tDS X.K X.mg W sNil) := pickS fun σ H E ⟨Z, m, ρ, h, at', p⟩ => ⟨_, ps_pass, p σ m H Ext.refl at'.hk at'.en⟩
theorem ss_break : PS X (.Break pos) (tDS X.K X.mg W sBrk) := pickS fun σ H E ⟨Z, m, ρ, h, at', p⟩ => ⟨_, ps_break, p σ m H Ext.refl at'.hk at'.en⟩
theorem ss_continue : PS X (.Continue pos) (tDS X.K X.mg W sCnt) := pickS fun σ H E ⟨Z, m, ρ, h, at', p⟩ => ⟨_, ps_continue, p σ m H Ext.refl at'.hk at'.en⟩
theorem ss_retN : PS X (.Return none pos) (tDS X.K X.mg W sRetN) := pickS fun σ H E ⟨Z, m, ρ, h, at', p⟩ => ⟨_, ps_retN, p _ m H Ext.refl at'.hk mk_non⟩
theorem ss_ret (he : PE X e (tD X.K X.mg W f)) : PS X (.Return (some e) pos) (tDS X.K X.mg W (sRet f)) :=
  pickS fun σ H E ⟨Z, m, ρ, h, at', p⟩ => ⟨_, ps_ret he, Z, m, ρ, h, at', (PostS.ofE at' p).imp fun v H' ⟨d, m', h', ex, at2, r, q⟩ => q v m' H' Ext.refl at2.hk r⟩
theorem ss_expr (he : PE X e (tD X.K X.mg W f)) (hs : swapsWith e none pos.line X.env = pure false := by rfl) : PS X (.Expr e pos) (tDS X.K X.mg W (sExpr f)) :=
  pickS fun σ H E ⟨Z, m, ρ, h, at', p⟩ => ⟨_, ps_expr he hs, Z, m, ρ, h, at', (PostS.ofE at' p).imp fun v H' ⟨d, m', h', ex, at2, r, q⟩ => q σ m' H' Ext.refl at2.hk at2.en⟩
theorem ss_if {cnd : Expr} (hc : PT X cnd (tDB X.K X.mg W b)) (ha : PSs X ths (tDS X.K X.mg W a)) (hb : PSs X els (tDS X.K X.mg W c)) : PS X (.If cnd ths els pos) (tDS X.K X.mg W (sIf b a c)) :=
  pickS fun σ H E ⟨Z, m, ρ, h, at', p⟩ => ⟨_, ps_if hc ha hb, Z, m, ρ, h, at', (PostS.ofB at' p).imp fun k H' ⟨m', h', ex, at2, q⟩ => by
    cases k with
    | true => exact ⟨Z, m', ρ, h', at2, q⟩
    | false => exact ⟨Z, m', ρ, h', at2, q⟩⟩
theorem ss_asg {tg : Expr} (he : PE X e (tD X.K X.mg W f)) (hg : PG X tg (tDG X.K X.mg is g)) (hs : swapsWithSole [tg] e pos.line X.env = pure false := by rfl) (hw : swappedStores [tg] e X.env = pure none := by rfl)
    (h1 : (assignEach [tg] X.env).map (·.2) = [assign tg X.env] := by rfl) : PS X (.Assign [tg] e pos) (tDS X.K X.mg W (sAsg f g)) :=
  pickS fun σ H E ⟨Z, m, ρ, h, at', p⟩ => ⟨_, ps_asg he hg hs hw h1, Z, m, ρ, h, at', (PostS.ofE at' p).imp fun v H' ⟨d, m', h', ex, at2, r, q⟩ => by
    split at q
    · rename_i ρ' hr
      exact ⟨Z, m', ρ, h', d, ρ', at2, r, hr, fun σ' en _ => q σ' m' H' Ext.refl at2.hk en⟩
    · exact q.elim⟩
end

/-! ### what is walked -/
/-- the items; the cell, if a cell is walked -/
abbrev ITD := Env → M (List D × Option Nat)
def gd (o : Option Nat) (ds : List D) (h : CH) : Prop := match o with
  | none => True
  | some n => h[n]? = some (.lst ds)
structure Wk (K : PySem.W.Frag) (mg : Str → Option Value) (J : It) (ds : List D) (o : Option Nat) (m0 : List Addr) (S0 H0 : Hp) : Prop where
  go : ∀ Z m h H (i : Nat) d, (∀ (n : Nat) a, m0[n]? = some a → m[n]? = some a) → Sub S0 (hide (Z ++ m) H) → (∀ a o u, H0 a = some (.frz o u) → H a = some (.frz o u)) → HeapOk K mg Z m h H → gd o ds h → ds[i]? = some d → J.go i H ∧ ∀ x H', J.yld i H x H' → H' = H ∧ Rep K mg m (hide (Z ++ m) H) d x
  stop : ∀ Z m h H, (∀ (n : Nat) a, m0[n]? = some a → m[n]? = some a) → Sub S0 (hide (Z ++ m) H) → (∀ a o u, H0 a = some (.frz o u) → H a = some (.frz o u)) → HeapOk K mg Z m h H → gd o ds h → J.stop ds.length H
def tDI (K : PySem.W.Frag) (mg : Str → Option Value) (W : WX) (f : ITD) : TI := fun σ H R => ∃ Z m ρ h, At K mg Z m ρ h σ H ∧ match f ρ h with
  | .ok (ds, o) h1 => ∀ J m1 H1, Ext Z m H m1 H1 → HeapOk K mg Z m1 h1 H1 → Wk K mg J ds o m1 (hide (Z ++ m1) H1) H1 → R J H1
  | .exc c h1 => ∀ m' H' cls, Ext Z m H m' H' → HeapOk K mg Z m' h1 H' → mg c = some cls → W cls none σ H'
  | .bad => False
def chars (x : Str) : List D := x.cps.toList.map fun c => .str ⟨#[c]⟩
def itOf (d : D) (h : CH) : R (List D × Option Nat) :=
  match d with
  | .str x => .ok (chars x, none) h
  | .ref n => match h[n]? with
    | some (.lst xs) => .ok (xs, some n) h
    | _ => .bad
  | .tup xs => .ok (xs, none) h
  | .lst xs => .ok (xs, none) h
  | .scr xs => .ok (xs, none) h
  | _ => .bad
def iE (f : ED) : ITD := fun ρ => M.bind (f ρ) itOf
def rangeD (lo hi : Int) : List D := (List.range (hi - lo).toNat).map fun (k : Nat) => .int (lo + (k : Int))
def inR (i : Int) : Prop := -(2 ^ 62) ≤ i ∧ i < 2 ^ 62
noncomputable instance (i : Int) : Decidable (inR i) := Classical.propDecidable _
def rng1 : List D → Option Int
  | [.int j] => some j
  | _ => none
def rng2 : List D → Option (Int × Int)
  | [.int i, .int j] => some (i, j)
  | _ => none
theorem rng1_eq {ds : List D} {j : Int} (e : rng1 ds = some j) : ds = [.int j] := by
  unfold rng1 at e
  split at e <;> cases e
  rfl
theorem rng2_eq {ds : List D} {j : Int × Int} (e : rng2 ds = some j) : ds = [.int j.1, .int j.2] := by
  unfold rng2 at e
  split at e <;> cases e
  rfl
noncomputable def iR1 (fs : AD) : ITD := fun ρ => M.bind (fs ρ) fun ds h => match rng1 ds with
  | some j => if inR j then .ok (rangeD 0 j, none) h else .bad
  | none => .bad
noncomputable def iR2 (fs : AD) : ITD := fun ρ => M.bind (fs ρ) fun ds h => match rng2 ds with
  | some r => if inR r.1 ∧ inR r.2 then .ok (rangeD r.1 r.2, none) h else .bad
  | none => .bad
theorem pickI {X : Cx} {tg e : Expr} {t : TI} (h : ∀ σ H R, t σ H R → ∃ t', PI X tg e t' ∧ t' σ H R) : PI X tg e t := ⟨fun pins s σ H R I q => by
  obtain ⟨t', p, q'⟩ := h σ H R q
  exact p.run pins s σ H R I q'⟩
section
variable {K : PySem.W.Frag} {mg : Str → Option Value} {m : List Addr} {S H0 : Hp}
theorem wk_list {a : Addr} {vs : List V} {ds : List D} (g1 : SqL K S a vs) (g2 : RepL K mg m S ds vs) : Wk K mg (Itl K a) ds none m S H0 where
  go := fun Z m' h' H' i d pre st _ hk _ hd => by
    have s1 := (st.trans hide_sub).sql g1
    obtain ⟨v, e1, r⟩ := g2.get hd
    exact ⟨⟨vs, v, s1, e1⟩, fun x H2 y => by
      obtain ⟨rfl, y⟩ := y
      have := y vs s1
      rw [e1] at this
      cases this
      exact ⟨rfl, Rep.mono pre st _ _ r⟩⟩
  stop := fun Z m' h' H' pre st _ hk _ => ⟨vs, (st.trans hide_sub).sql g1, by rw [g2.length]; exact Nat.le_refl _⟩
theorem wk_tup {a : Addr} {vs : List V} {ds : List D} (g1 : SqT K S a vs) (g2 : RepL K mg m S ds vs) : Wk K mg (Itt K a) ds none m S H0 where
  go := fun Z m' h' H' i d pre st _ hk _ hd => by
    have s1 := (st.trans hide_sub).sqt g1
    obtain ⟨v, e1, r⟩ := g2.get hd
    exact ⟨⟨vs, v, s1, e1⟩, fun x H2 y => by
      obtain ⟨rfl, y⟩ := y
      have := y vs s1
      rw [e1] at this
      cases this
      exact ⟨rfl, Rep.mono pre st _ _ r⟩⟩
  stop := fun Z m' h' H' pre st _ hk _ => ⟨vs, (st.trans hide_sub).sqt g1, by rw [g2.length]; exact Nat.le_refl _⟩
theorem wk_cell {a : Addr} {n : Nat} {ds : List D} (g1 : m[n]? = some a) : Wk K mg (Itl K a) ds (some n) m S H0 where
  go := fun Z m' h' H' i d pre st _ hk g hd => by
    obtain ⟨vs, e1, r⟩ := hk.cell n _ a g (pre n a g1)
    obtain ⟨v, e2, r2⟩ := r.get hd
    exact ⟨⟨vs, v, SqL.of e1, e2⟩, fun x H2 y => by
      obtain ⟨rfl, y⟩ := y
      have := y vs (SqL.of e1)
      rw [e2] at this
      cases this
      exact ⟨rfl, r2⟩⟩
  stop := fun Z m' h' H' pre st _ hk g => by
    obtain ⟨vs, e1, r⟩ := hk.cell n _ a g (pre n a g1)
    exact ⟨vs, SqL.of e1, by rw [r.length]; exact Nat.le_refl _⟩
theorem wk_str {x : Str} (hx : PyData.strOk x = true) : Wk K mg (Its x) (chars x) none m S H0 where
  go := fun Z m' h' H' i d pre st _ hk _ hd => by
    unfold chars at hd
    rw [List.getElem?_map] at hd
    cases e : x.cps.toList[i]? with
    | none => rw [e] at hd; cases hd
    | some c =>
      rw [e] at hd
      cases hd
      have e' : x.cps[i]? = some c := by simpa using e
      refine ⟨(by show i < x.cps.size; have := (List.getElem?_eq_some_iff.mp e).1; simpa using this), fun v H2 y => ?_⟩
      obtain ⟨rfl, c', h1, rfl⟩ := y
      rw [e'] at h1
      cases h1
      exact ⟨rfl, mk_str (ok_one hx (List.mem_of_getElem? e))⟩
  stop := fun Z m' h' H' pre st _ hk _ => by
    show x.cps.size ≤ (chars x).length
    unfold chars
    simp
theorem wk_range (lo hi : Int) : Wk K mg (Itr lo (hi - lo).toNat) (rangeD lo hi) none m S H0 where
  go := fun Z m' h' H' i d pre st _ hk _ hd => by
    unfold rangeD at hd
    rw [List.getElem?_map] at hd
    cases e : (List.range (hi - lo).toNat)[i]? with
    | none => rw [e] at hd; cases hd
    | some k =>
      rw [e] at hd
      cases hd
      obtain ⟨h1, h2⟩ := List.getElem?_eq_some_iff.mp e
      simp at h1 h2
      subst h2
      refine ⟨(by show i < (hi - lo).toNat; omega), fun v H2 y => ?_⟩
      obtain ⟨rfl, rfl⟩ := y
      exact ⟨rfl, mk_int _⟩
  stop := fun Z m' h' H' pre st _ hk _ => by
    show (hi - lo).toNat ≤ (rangeD lo hi).length
    unfold rangeD
    simp
end
end FK

/-! part: FK6 -/
set_option Elab.async false
set_option linter.all false
set_option maxRecDepth 100000
set_option maxHeartbeats 4000000
/-! FK6: what a for walks, for, while, list comprehensions. -/
namespace FK
open PySem PySem.Spec L2

section
variable {X : Cx} {W : WX} {tg e a b : Expr} {f g : ED} {fs : AD} {p pos : Pos}
theorem itOf_heap {d : D} {h h' : CH} {r} (e : itOf d h = .ok r h') : h' = h := by
  unfold itOf at e
  split at e
  · cases e; rfl
  · split at e <;> cases e; rfl
  · cases e; rfl
  · cases e; rfl
  · cases e; rfl
  · cases e
theorem si_of (he : PE X e (tD X.K X.mg W f)) : PI X tg e (tDI X.K X.mg W (iE f)) := by
  refine pickI fun σ H R ⟨Z, m, ρ, h, at', p⟩ => ?_
  unfold iE M.bind at p
  cases e1 : f ρ h with
  | bad => rw [e1] at p; exact p.elim
  | exc c h1 =>
    rw [e1] at p
    refine ⟨_, pi_list he, Z, m, ρ, h, at', ?_⟩
    rw [e1]
    exact p
  | ok d h1 =>
    rw [e1] at p
    dsimp only at p
    unfold itOf at p
    cases d with
    | str x =>
      refine ⟨_, pi_str he, Z, m, ρ, h, at', ?_⟩
      rw [e1]
      intro v m1 H1 ex hk r
      obtain ⟨rfl, k⟩ := rep_str r
      exact ⟨x, rfl, p _ m1 H1 ex hk (wk_str k)⟩
    | tup xs =>
      refine ⟨_, pi_tup he, Z, m, ρ, h, at', ?_⟩
      rw [e1]
      intro v m1 H1 ex hk r
      obtain ⟨l, vs, rfl, g1, g2⟩ := rep_tup r
      exact ⟨l, rfl, ⟨vs, hide_sub.sqt g1⟩, p _ m1 H1 ex hk (wk_tup g1 g2)⟩
    | lst xs =>
      refine ⟨_, pi_list he, Z, m, ρ, h, at', ?_⟩
      rw [e1]
      intro v m1 H1 ex hk r
      unfold Rep at r
      obtain ⟨l, vs, rfl, g1, g2⟩ := r
      exact ⟨l, rfl, ⟨vs, SqL.of (hide_sub _ _ g1)⟩, p _ m1 H1 ex hk (wk_list (SqL.of g1) g2)⟩
    | scr xs =>
      refine ⟨_, pi_list he, Z, m, ρ, h, at', ?_⟩
      rw [e1]
      intro v m1 H1 ex hk r
      unfold Rep at r
      obtain ⟨l, vs, rfl, g1, g2⟩ := r
      exact ⟨l, rfl, ⟨vs, hide_sub.sql g1⟩, p _ m1 H1 ex hk (wk_list g1 g2)⟩
    | ref n =>
      dsimp only at p
      cases e2 : h1[n]? with
      | none => rw [e2] at p; exact p.elim
      | some c =>
        cases c with
        | ins _ _ _ => rw [e2] at p; exact p.elim
        | tab _ => rw [e2] at p; exact p.elim
        | dS _ _ => rw [e2] at p; exact p.elim
        | dM _ _ _ => rw [e2] at p; exact p.elim
        | lst xs =>
          rw [e2] at p
          refine ⟨_, pi_list he, Z, m, ρ, h, at', ?_⟩
          rw [e1]
          intro v m1 H1 ex hk r
          unfold Rep at r
          obtain ⟨l, g1, rfl⟩ := r
          obtain ⟨vs, g2, g3⟩ := hk.cell n _ l e2 g1
          exact ⟨l, rfl, ⟨vs, SqL.of g2⟩, p _ m1 H1 ex hk (wk_cell g1)⟩
    | non => exact p.elim
    | bl _ => exact p.elim
    | int _ => exact p.elim
    | obj _ _ _ => exact p.elim
theorem si_range1 (hg : Gl X "range") (hm : X.mg "range" = none) (ha : PA X [a] (tDL X.K X.mg W fs)) (hs : starEach [a] X.env = [(false, eval a X.env)] := by rfl) : PI X tg (.Call (.Name "range" p) [a] [] pos) (tDI X.K X.mg W (iR1 fs)) := by
  refine pickI fun σ H R ⟨Z, m, ρ, h, at', p⟩ => ⟨_, pi_range1 hg hm ha hs, Z, m, ρ, h, at', ?_⟩
  unfold iR1 M.bind at p
  cases e1 : fs ρ h with
  | bad => rw [e1] at p; exact p.elim
  | exc c h1 => rw [e1] at p; exact p
  | ok ds h1 =>
    rw [e1] at p
    dsimp only at p
    intro vs m1 H1 ex hk r
    cases e2 : rng1 ds with
    | none => rw [e2] at p; exact p.elim
    | some j =>
      rw [e2] at p
      dsimp only at p
      obtain rfl := rng1_eq e2
      obtain ⟨v, rfl, g⟩ := repL_one r
      obtain rfl := rep_int g
      by_cases hj : inR j
      · rw [if_pos hj] at p
        refine ⟨_, rfl, hj.1, hj.2, ?_⟩
        have w := wk_range (K := X.K) (mg := X.mg) (m := m1) (S := hide (Z ++ m1) H1) (H0 := H1) 0 j
        rw [Int.sub_zero] at w
        exact p _ m1 H1 ex hk w
      · rw [if_neg hj] at p; exact p.elim
theorem si_range2 (hg : Gl X "range") (hm : X.mg "range" = none) (ha : PA X [a, b] (tDL X.K X.mg W fs)) (hs : starEach [a, b] X.env = [(false, eval a X.env), (false, eval b X.env)] := by rfl) (hs2 : starEach [b] X.env = [(false, eval b X.env)] := by rfl) :
    PI X tg (.Call (.Name "range" p) [a, b] [] pos) (tDI X.K X.mg W (iR2 fs)) := by
  refine pickI fun σ H R ⟨Z, m, ρ, h, at', p⟩ => ⟨_, pi_range2 hg hm ha hs hs2, Z, m, ρ, h, at', ?_⟩
  unfold iR2 M.bind at p
  cases e1 : fs ρ h with
  | bad => rw [e1] at p; exact p.elim
  | exc c h1 => rw [e1] at p; exact p
  | ok ds h1 =>
    rw [e1] at p
    dsimp only at p
    intro vs m1 H1 ex hk r
    cases e2 : rng2 ds with
    | none => rw [e2] at p; exact p.elim
    | some j =>
      rw [e2] at p
      dsimp only at p
      obtain rfl := rng2_eq e2
      obtain ⟨v, u, rfl, g, g'⟩ := repL_two r
      obtain rfl := rep_int g
      obtain rfl := rep_int g'
      by_cases hj : inR j.1 ∧ inR j.2
      · rw [if_pos hj] at p
        exact ⟨_, _, rfl, ⟨hj.1.1, hj.1.2, hj.2.1, hj.2.2⟩, p _ m1 H1 ex hk (wk_range j.1 j.2)⟩
      · rw [if_neg hj] at p; exact p.elim
end

/-! ### for -/
def forL (g : GD) (body : SD) : List D → SD
  | [] => sNil
  | d :: ds => fun ρ h => match g d ρ with
    | none => .bad
    | some ρ1 => match body ρ1 h with
      | .ok .nx ρ2 h2 => forL g body ds ρ2 h2
      | .ok .ct ρ2 h2 => forL g body ds ρ2 h2
      | .ok .bk ρ2 h2 => .ok .nx ρ2 h2
      | r => r
open Classical in
/-- over a cell: it must stand as it stood, turn by turn -/
noncomputable def forC (n : Nat) (all : List D) (g : GD) (body : SD) : List D → SD
  | [] => fun ρ h => if h[n]? = some (.lst all) then .ok .nx ρ h else .bad
  | d :: ds => fun ρ h => if h[n]? = some (.lst all) then (match g d ρ with
    | none => .bad
    | some ρ1 => match body ρ1 h with
      | .ok .nx ρ2 h2 => forC n all g body ds ρ2 h2
      | .ok .ct ρ2 h2 => forC n all g body ds ρ2 h2
      | .ok .bk ρ2 h2 => .ok .nx ρ2 h2
      | r => r) else .bad
noncomputable def forX (o : Option Nat) (all : List D) (g : GD) (body : SD) : List D → SD := match o with
  | none => forL g body
  | some n => forC n all g body
noncomputable def sFor (it : ITD) (g : GD) (body : SD) : SD := fun ρ h => match it ρ h with
  | .ok (ds, o) h1 => forX o ds g body ds ρ h1
  | .exc c h1 => .exc c ρ h1
  | .bad => .bad
section
variable {K : PySem.W.Frag} {mg : Str → Option Value} {Z m : List Addr} {H : Hp} {h : CH} {W : WX} {ρ : Env} {E : Ends} {o : Option Nat} {all : List D} {g : GD} {body : SD}
theorem forX_nil (p : PostS K mg W Z m H (forX o all g body [] ρ h) E) : gd o all h ∧ PostS K mg W Z m H (.ok .nx ρ h) E := by
  cases o with
  | none => exact ⟨trivial, p⟩
  | some n =>
    unfold forX at p
    dsimp only at p
    unfold forC at p
    split at p
    · rename_i hn; exact ⟨hn, p⟩
    · exact p.elim
theorem turn_post {r : RS} {nextS : Env → CH → RS} (p : PostS K mg W Z m H (match r with | .ok .nx ρ2 h2 => nextS ρ2 h2 | .ok .ct ρ2 h2 => nextS ρ2 h2 | .ok .bk ρ2 h2 => .ok .nx ρ2 h2 | r => r) E)
    (N : L2.St → Hp → Prop) (hN : ∀ ρ2 h2 σ' m' H', Ext Z m H m' H' → HeapOk K mg Z m' h2 H' → REnv K mg m' (hide (Z ++ m') H') ρ2 σ' → PostS K mg W Z m' H' (nextS ρ2 h2) E → N σ' H') : PostS K mg W Z m H r { E with nx := N, ct := N, bk := E.nx } := by
  cases r with
  | ok f ρ2 h2 =>
    cases f with
    | nx => exact fun σ' m' H' ex hk en => hN ρ2 h2 σ' m' H' ex hk en (PostS.from ex p)
    | ct => exact fun σ' m' H' ex hk en => hN ρ2 h2 σ' m' H' ex hk en (PostS.from ex p)
    | bk => exact p
    | rt d => exact p
  | exc c ρ2 h2 => exact p
  | bad => exact p
theorem forX_cons {d : D} {ds : List D} (p : PostS K mg W Z m H (forX o all g body (d :: ds) ρ h) E) (N : L2.St → Hp → Prop)
    (hN : ∀ ρ2 h2 σ' m' H', Ext Z m H m' H' → HeapOk K mg Z m' h2 H' → REnv K mg m' (hide (Z ++ m') H') ρ2 σ' → PostS K mg W Z m' H' (forX o all g body ds ρ2 h2) E → N σ' H') :
    gd o all h ∧ ∃ ρ1, g d ρ = some ρ1 ∧ PostS K mg W Z m H (body ρ1 h) { E with nx := N, ct := N, bk := E.nx } := by
  cases o with
  | none =>
    refine ⟨trivial, ?_⟩
    unfold forX at p
    dsimp only at p
    unfold forL at p
    cases e : g d ρ with
    | none => rw [e] at p; exact p.elim
    | some ρ1 =>
      rw [e] at p
      exact ⟨ρ1, rfl, turn_post p N hN⟩
  | some n =>
    unfold forX at p
    dsimp only at p
    unfold forC at p
    split at p
    · rename_i hn
      refine ⟨hn, ?_⟩
      cases e : g d ρ with
      | none => rw [e] at p; exact p.elim
      | some ρ1 =>
        rw [e] at p
        exact ⟨ρ1, rfl, turn_post p N hN⟩
    · exact p.elim
end
section
variable {X : Cx} {W : WX} {tg iter : Expr} {body : List Stmt} {it : ITD} {g : GD} {is : List Nat} {bd : SD} {pos : Pos} {b : BD} {cnd : Expr}
theorem ss_for (hp : PassesOwn (model X.prog X.w) X.A X.env X.xe) (hc : X.calm = true) (hi : PI X tg iter (tDI X.K X.mg W it)) (hg : PG X tg (tDG X.K X.mg is g)) (hb : PSs X body (tDS X.K X.mg W bd))
    (hs : ∀ x, foldedSetIterable iter X.env x = pure x := by intro _; rfl) : PS X (.For tg iter body [] pos) (tDS X.K X.mg W (sFor it g bd)) := by
  refine pickS fun σ H E ⟨Z, m, ρ, h, at', p⟩ => ⟨_, ps_for hp hc hi hg hb hs, Z, m, ρ, h, at', ?_⟩
  unfold sFor at p
  cases e1 : it ρ h with
  | bad => rw [e1] at p; exact p.elim
  | exc c h1 =>
    rw [e1] at p
    exact fun m' H' cls ex hk hc => p σ m' H' cls ex hk (ex.env at'.en) hc
  | ok r h1 =>
    obtain ⟨ds, o⟩ := r
    rw [e1] at p
    dsimp only at p ⊢
    intro J m1 H1 ex1 hk1 wk
    refine ⟨fun i k σ H => k = ds.length - i ∧ i ≤ ds.length ∧ ∃ m ρ h, Ext Z m1 H1 m H ∧ HeapOk X.K X.mg Z m h H ∧ REnv X.K X.mg m (hide (Z ++ m) H) ρ σ ∧ PostS X.K X.mg W Z m H (forX o ds g bd (ds.drop i) ρ h) E,
      ⟨ds.length, rfl, Nat.zero_le _, m1, ρ, h1, Ext.refl, hk1, ex1.env at'.en, PostS.from ex1 p⟩, ?_⟩
    rintro i k σ2 H2 ⟨rfl, hi, m2, ρ2, h2, ex2, hk2, en2, p2⟩
    by_cases hlt : i < ds.length
    · right
      rw [List.drop_eq_getElem_cons hlt] at p2
      obtain ⟨gd2, ρ3, e3, p3⟩ := forX_cons p2 (fun σ' H' => ds.length - (i + 1) = ds.length - (i + 1) ∧ i + 1 ≤ ds.length ∧ ∃ m ρ h, Ext Z m1 H1 m H' ∧ HeapOk X.K X.mg Z m h H' ∧ REnv X.K X.mg m (hide (Z ++ m) H') ρ σ' ∧ PostS X.K X.mg W Z m H' (forX o ds g bd (ds.drop (i + 1)) ρ h) E)
        fun ρ4 h4 σ4 m4 H4 ex4 hk4 en4 p4 => ⟨rfl, hlt, m4, ρ4, h4, ex2.trans ex4, hk4, en4, p4⟩
      have hd : ds[i]? = some ds[i] := List.getElem?_eq_getElem hlt
      obtain ⟨go, yl⟩ := wk.go Z m2 h2 H2 i _ ex2.pre ex2.st ex2.fr hk2 gd2 hd
      refine ⟨go, _, fun σ' H' q => ⟨ds.length - (i + 1), by omega, q⟩, fun x H' y => ?_⟩
      obtain ⟨rfl, rx⟩ := yl x H' y
      exact ⟨Z, m2, ρ2, h2, _, ρ3, ⟨hk2, en2⟩, rx, e3, fun σ3 en3 _ => ⟨Z, m2, ρ3, h2, ⟨hk2, en3⟩, p3⟩⟩
    · left
      have e : i = ds.length := by omega
      subst e
      rw [List.drop_length] at p2
      obtain ⟨gd2, p3⟩ := forX_nil p2
      exact ⟨wk.stop Z m2 h2 H2 ex2.pre ex2.st ex2.fr hk2 gd2, p3 σ2 m2 H2 Ext.refl hk2 en2⟩

/-! ### while -/
def whL (b : BD) (body : SD) : Nat → SD
  | 0 => fun _ _ => .bad
  | n + 1 => sB b fun k => if k = true then (fun ρ h => match body ρ h with
      | .ok .nx ρ2 h2 => whL b body n ρ2 h2
      | .ok .ct ρ2 h2 => whL b body n ρ2 h2
      | .ok .bk ρ2 h2 => .ok .nx ρ2 h2
      | r => r) else sNil
theorem ss_while (n : Nat) (hp : PassesOwn (model X.prog X.w) X.A X.env X.xe) (hc : PT X cnd (tDB X.K X.mg W b)) (hb : PSs X body (tDS X.K X.mg W bd)) : PS X (.While cnd body [] pos) (tDS X.K X.mg W (whL b bd n)) := by
  refine pickS fun σ H E ⟨Z, m, ρ, h, at', p⟩ => ⟨_, ps_while hp hc hb, ?_⟩
  refine ⟨fun k σ H => ∃ m ρ h, HeapOk X.K X.mg Z m h H ∧ REnv X.K X.mg m (hide (Z ++ m) H) ρ σ ∧ PostS X.K X.mg W Z m H (whL b bd k ρ h) E, ⟨n, m, ρ, h, at'.hk, at'.en, p⟩, ?_⟩
  rintro k σ2 H2 ⟨m2, ρ2, h2, hk2, en2, p2⟩
  cases k with
  | zero => exact p2.elim
  | succ k =>
    refine ⟨Z, m2, ρ2, h2, ⟨hk2, en2⟩, (PostS.ofB ⟨hk2, en2⟩ p2).imp fun t H3 ⟨m3, h3, ex3, at3, q⟩ => ?_⟩
    cases t with
    | true =>
      rw [if_pos rfl] at q ⊢
      refine ⟨fun σ' H' => ∃ m ρ h, HeapOk X.K X.mg Z m h H' ∧ REnv X.K X.mg m (hide (Z ++ m) H') ρ σ' ∧ PostS X.K X.mg W Z m H' (whL b bd k ρ h) E, fun σ' H' q => ⟨k, Nat.lt_succ_self _, q⟩, ?_⟩
      exact ⟨Z, m3, ρ2, h3, at3, turn_post q _ fun ρ4 h4 σ4 m4 H4 ex4 hk4 en4 p4 => ⟨m4, ρ4, h4, hk4, en4, p4⟩⟩
    | false =>
      rw [if_neg Bool.false_ne_true] at q ⊢
      exact q σ2 m3 H3 Ext.refl at3.hk at3.en
end

/-! ### list comprehensions -/
def wipeE (ρ : Env) : List Nat → Env
  | [] => ρ
  | v :: vs => (wipeE ρ vs).set v none
/-- one item: nothing, or what comes of it -/
def lcT (g : GD) (b : BD) (f : ED) (ρ : Env) (d : D) : M (Option D) := fun h => match g d ρ with
  | none => .bad
  | some ρ1 => match b ρ1 h with
    | .ok true h1 => (match f ρ1 h1 with
      | .ok x h2 => .ok (some x) h2
      | _ => .bad)
    | .ok false h1 => .ok none h1
    | _ => .bad
def lcL (g : GD) (b : BD) (f : ED) (ρ : Env) : List D → M (List D)
  | [] => M.pure []
  | d :: ds => M.bind (lcT g b f ρ d) fun o => M.bind (lcL g b f ρ ds) fun xs => M.pure (o.toList ++ xs)
open Classical in
noncomputable def lcC (n : Nat) (all : List D) (g : GD) (b : BD) (f : ED) (ρ : Env) : List D → M (List D)
  | [] => fun h => if h[n]? = some (.lst all) then .ok [] h else .bad
  | d :: ds => fun h => if h[n]? = some (.lst all) then M.bind (lcT g b f ρ d) (fun o => M.bind (lcC n all g b f ρ ds) fun xs => M.pure (o.toList ++ xs)) h else .bad
noncomputable def lcX (o : Option Nat) (all : List D) (g : GD) (b : BD) (f : ED) (ρ : Env) : List D → M (List D) := match o with
  | none => lcL g b f ρ
  | some n => lcC n all g b f ρ
def bYes : BD := fun _ => M.pure true
def lcEnd (xs : List D) : M D := fun h => if xs.length ≤ sizeLine then .ok (.lst xs) h else .bad
def lcEndC (xs : List D) : M D := fun h => if xs.length ≤ sizeLine then .ok (.ref h.length) (h ++ [.lst xs]) else .bad
/-- [f for g in it if b] -/
noncomputable def eLc (fin : List D → M D) (it : ITD) (g : GD) (b : BD) (f : ED) (vs : List Nat) : ED := fun ρ => M.bind (it ρ) fun r => M.bind (lcX r.2 r.1 g b f (wipeE ρ vs) r.1) fin
end FK

/-! part: FK7 -/
set_option Elab.async false
set_option linter.all false
set_option maxRecDepth 100000
set_option maxHeartbeats 4000000
/-! FK7: list comprehensions are what the model does. -/
namespace FK
open PySem PySem.Spec L2

theorem wipe_sub {σ : L2.St} : ∀ {ws vs : List Nat}, (∀ i ∈ ws, i ∈ vs) → wipe (wipe σ ws) vs = wipe σ vs
  | [], vs, _ => rfl
  | w :: ws, vs, h => by
    show wipe ((wipe σ ws).set w none) vs = wipe σ vs
    rw [wipe_set (h w List.mem_cons_self), wipe_sub fun i hi => h i (List.mem_cons_of_mem _ hi)]
section
variable {K : PySem.W.Frag} {mg : Str → Option Value} {Z m : List Addr} {S H : Hp} {h : CH} {L : Addr}
theorem REnv.wipe {ρ : Env} {σ : L2.St} (r : REnv K mg m S ρ σ) : ∀ vs : List Nat, REnv K mg m S (wipeE ρ vs) (L2.wipe σ vs)
  | [] => r
  | v :: vs => REnv.unset v (REnv.wipe r vs)
theorem sub_hide1 : Sub (hide (L :: Z ++ m) H) (hide (Z ++ m) H) := fun a o e => by
  obtain ⟨h1, h2⟩ := hide_some e
  exact hide_of (fun z => h1 (List.mem_cons_of_mem _ z)) h2
theorem sub_lay {o : HO} (hl : H L = none) : Sub (hide (Z ++ m) H) (hide (L :: Z ++ m) (upd H L o)) := fun a u e => by
  obtain ⟨h1, h2⟩ := hide_some e
  have ne := ne_of_none h2 hl
  refine hide_of (fun z => ?_) (by rw [upd_ne ne]; exact h2)
  rcases List.mem_cons.mp z with z | z
  · exact ne z
  · exact h1 z
/-- a thing laid and hidden -/
theorem HeapOk.lay1 (hk : HeapOk K mg Z m h H) {o : HO} (hl : H L = none) : HeapOk K mg (L :: Z) m h (upd H L o) := by
  refine ⟨hk.len, hk.nd, fun a ha hz => ?_, fun a ha => ?_, fun n c a h1 h2 => ?_⟩
  · rcases List.mem_cons.mp hz with z | z
    · exact mem_not_new hk hl (by rw [← z]; exact ha)
    · exact hk.dj a ha z
  · rcases List.mem_cons.mp ha with z | z
    · exact ⟨o, by rw [z, upd_same]⟩
    · obtain ⟨u, e⟩ := hk.ex a z
      exact ⟨u, by rw [upd_ne (ne_of_none e hl)]; exact e⟩
  · have ne : a ≠ L := fun z => mem_not_new hk hl (by rw [← z]; exact List.mem_of_getElem? h2)
    exact CellR.mono (fun _ _ e => e) (sub_lay hl) (upd_ne ne) (hk.cell n c a h1 h2)
theorem HeapOk.un1 (hk : HeapOk K mg (L :: Z) m h H) : HeapOk K mg Z m h H :=
  ⟨hk.len, hk.nd, fun a ha hz => hk.dj a ha (List.mem_cons_of_mem _ hz), fun a ha => hk.ex a (List.mem_cons_of_mem _ ha), fun n c a h1 h2 => CellR.mono (fun _ _ e => e) sub_hide1 rfl (hk.cell n c a h1 h2)⟩
/-- the hidden thing is changed -/
theorem HeapOk.turn1 (hk : HeapOk K mg (L :: Z) m h H) {o : HO} (hZ : L ∉ Z) : HeapOk K mg (L :: Z) m h (upd H L o) ∧ Sub (hide (L :: Z ++ m) H) (hide (L :: Z ++ m) (upd H L o)) := by
  have st : Sub (hide (L :: Z ++ m) H) (hide (L :: Z ++ m) (upd H L o)) := fun a u e => by
    obtain ⟨h1, h2⟩ := hide_some e
    have ne : a ≠ L := fun z => h1 (by rw [z]; exact List.mem_cons_self)
    exact hide_of h1 (by rw [upd_ne ne]; exact h2)
  refine ⟨⟨hk.len, hk.nd, hk.dj, fun a ha => ?_, fun n c a h1 h2 => ?_⟩, st⟩
  · by_cases e : a = L
    · exact ⟨o, by rw [e, upd_same]⟩
    · rw [upd_ne e]; exact hk.ex a ha
  · have ne : a ≠ L := fun z => hk.dj a (List.mem_of_getElem? h2) (by rw [z]; exact List.mem_cons_self)
    exact CellR.mono (fun _ _ e => e) st (upd_ne ne) (hk.cell n c a h1 h2)
/-- the hidden list becomes a cell -/
theorem HeapOk.adopt (hk : HeapOk K mg (L :: Z) m h H) {ds : List D} {vs : List V} (hL : H L = some (.lst vs)) (r : RepL K mg m (hide (L :: Z ++ m) H) ds vs) (hZ : L ∉ Z) : HeapOk K mg Z (m ++ [L]) (h ++ [.lst ds]) H := by
  have eq : hide (Z ++ (m ++ [L])) H = hide (L :: Z ++ m) H := by
    funext a
    unfold hide
    have : a ∈ Z ++ (m ++ [L]) ↔ a ∈ L :: Z ++ m := by
      simp only [List.mem_append, List.mem_cons, List.cons_append, List.mem_singleton, List.not_mem_nil, or_false]
      constructor
      · rintro (z | z | z)
        · exact .inr (.inl z)
        · exact .inr (.inr z)
        · exact .inl z
      · rintro (z | z | z)
        · exact .inr (.inr z)
        · exact .inl z
        · exact .inr (.inl z)
    by_cases z : a ∈ L :: Z ++ m
    · rw [if_pos z, if_pos (this.mpr z)]
    · rw [if_neg z, if_neg fun q => z (this.mp q)]
  have nm : L ∉ m := fun z => hk.dj L z List.mem_cons_self
  have pre : ∀ (n : Nat) a, m[n]? = some a → (m ++ [L])[n]? = some a := fun n a e => by rw [List.getElem?_append_left (List.getElem?_eq_some_iff.mp e).1]; exact e
  refine ⟨by rw [List.length_append, List.length_append, hk.len]; rfl, ?_, fun a ha => ?_, fun a ha => hk.ex a (List.mem_cons_of_mem _ ha), fun n c a h1 h2 => ?_⟩
  · rw [List.nodup_append]
    exact ⟨hk.nd, by simp, fun a ha b hb e => nm (by simp at hb; rw [← hb, ← e]; exact ha)⟩
  · rcases List.mem_append.mp ha with z | z
    · exact fun z' => hk.dj a z (List.mem_cons_of_mem _ z')
    · have e : a = L := by simpa using z
      rw [e]; exact hZ
  · rw [eq]
    by_cases hn : n < m.length
    · rw [List.getElem?_append_left hn] at h2
      rw [List.getElem?_append_left (by rw [← hk.len]; exact hn)] at h1
      exact CellR.mono pre Sub.refl rfl (hk.cell n c a h1 h2)
    · have e : n = m.length := by
        have := (List.getElem?_eq_some_iff.mp h2).1
        simp at this
        omega
      subst e
      simp at h2
      rw [hk.len] at h1
      simp at h1
      subst h1 h2
      exact ⟨vs, hL, RepL.mono pre Sub.refl _ _ r⟩
end
abbrev WF : WX := fun _ _ _ _ => False
theorem bind_assoc {α β γ : Type} (x : M α) (f : α → M β) (g : β → M γ) (h : CH) : M.bind (M.bind x f) g h = M.bind x (fun a => M.bind (f a) g) h := by
  unfold M.bind
  cases x h <;> rfl
theorem bind_congr {α β : Type} {x y : M α} {k : α → M β} {h : CH} (e : x h = y h) : M.bind x k h = M.bind y k h := by unfold M.bind; rw [e]
theorem bind_ok {α β : Type} {x : M α} {k : α → M β} {h h1 : CH} {a : α} (e : x h = .ok a h1) : M.bind x k h = k a h1 := by unfold M.bind; rw [e]
theorem bind_exc {α β : Type} {x : M α} {k : α → M β} {h h1 : CH} {c : Str} (e : x h = .exc c h1) : M.bind x k h = .exc c h1 := by unfold M.bind; rw [e]
theorem bind_bad {α β : Type} {x : M α} {k : α → M β} {h : CH} (e : x h = .bad) : M.bind x k h = .bad := by unfold M.bind; rw [e]
theorem lcT_noexc {g : GD} {b : BD} {f : ED} {ρ : Env} {d : D} {h h' : CH} {c : Str} : lcT g b f ρ d h ≠ .exc c h' := fun e => by
  unfold lcT at e
  split at e
  · cases e
  · split at e
    · split at e <;> cases e
    · cases e
    · cases e
theorem lcL_noexc {g : GD} {b : BD} {f : ED} {ρ : Env} : ∀ {ds : List D} {h h' : CH} {c : Str}, lcL g b f ρ ds h ≠ .exc c h'
  | [], h, h', c, e => by cases e
  | d :: ds, h, h', c, e => by
    unfold lcL M.bind at e
    cases e1 : lcT g b f ρ d h with
    | exc _ _ => exact lcT_noexc e1
    | bad => rw [e1] at e; cases e
    | ok o h1 =>
      rw [e1] at e
      dsimp only at e
      cases e2 : lcL g b f ρ ds h1 with
      | exc _ _ => exact lcL_noexc e2
      | bad => rw [e2] at e; cases e
      | ok xs h2 => rw [e2] at e; cases e
theorem lcX_noexc {o : Option Nat} {all : List D} {g : GD} {b : BD} {f : ED} {ρ : Env} : ∀ {ds : List D} {h h' : CH} {c : Str}, lcX o all g b f ρ ds h ≠ .exc c h' := by
  cases o with
  | none => exact lcL_noexc
  | some n =>
    intro ds
    show ∀ {h h' : CH} {c : Str}, lcC n all g b f ρ ds h ≠ .exc c h'
    induction ds with
    | nil =>
      intro h h' c e
      unfold lcC at e
      split at e <;> cases e
    | cons d ds ih =>
      intro h h' c e
      unfold lcC at e
      split at e
      · unfold M.bind at e
        cases e1 : lcT g b f ρ d h with
        | exc _ _ => exact lcT_noexc e1
        | bad => rw [e1] at e; cases e
        | ok o h1 =>
          rw [e1] at e
          dsimp only at e
          cases e2 : lcC n all g b f ρ ds h1 with
          | exc _ _ => exact ih e2
          | bad => rw [e2] at e; cases e
          | ok xs h2 => rw [e2] at e; cases e
      · cases e
theorem lcX_nil {o : Option Nat} {all : List D} {g : GD} {b : BD} {f : ED} {ρ : Env} {α : Type} {k : List D → M α} {h : CH} (e : M.bind (lcX o all g b f ρ []) k h ≠ .bad) : gd o all h ∧ M.bind (lcX o all g b f ρ []) k h = k [] h := by
  cases o with
  | none => exact ⟨trivial, rfl⟩
  | some n =>
    unfold lcX M.bind at e ⊢
    dsimp only at e ⊢
    unfold lcC at e ⊢
    by_cases hn : h[n]? = some (.lst all)
    · rw [if_pos hn]; exact ⟨hn, rfl⟩
    · rw [if_neg hn] at e; exact absurd rfl e
theorem lcX_cons {o : Option Nat} {all : List D} {g : GD} {b : BD} {f : ED} {ρ : Env} {α : Type} {k : List D → M α} {h : CH} {d : D} {ds : List D} (e : M.bind (lcX o all g b f ρ (d :: ds)) k h ≠ .bad) :
    gd o all h ∧ M.bind (lcX o all g b f ρ (d :: ds)) k h = M.bind (lcT g b f ρ d) (fun y => M.bind (lcX o all g b f ρ ds) fun xs => k (y.toList ++ xs)) h := by
  have step : ∀ r : M (List D), M.bind (M.bind (lcT g b f ρ d) fun y => M.bind r fun xs => M.pure (y.toList ++ xs)) k h = M.bind (lcT g b f ρ d) (fun y => M.bind r fun xs => k (y.toList ++ xs)) h := fun r => by
    rw [bind_assoc]
    unfold M.bind
    cases lcT g b f ρ d h with
    | ok y h1 =>
      dsimp only
      cases r h1 <;> rfl
    | _ => rfl
  cases o with
  | none => exact ⟨trivial, step _⟩
  | some n =>
    by_cases hn : h[n]? = some (.lst all)
    · refine ⟨hn, ?_⟩
      have e2 : lcX (some n) all g b f ρ (d :: ds) h = M.bind (lcT g b f ρ d) (fun o => M.bind (lcC n all g b f ρ ds) fun xs => M.pure (o.toList ++ xs)) h := by
        exact if_pos hn
      rw [← step]
      exact bind_congr e2
    · exfalso
      apply e
      have e2 : lcX (some n) all g b f ρ (d :: ds) h = .bad := if_neg hn
      exact bind_bad e2
theorem not_bad {α β : Type} {K : PySem.W.Frag} {mg : Str → Option Value} {rel : List Addr → Hp → α → β → Prop} {W : WX} {σ : L2.St} {Z m : List Addr} {H : Hp} {r : R α} {Q : β → Hp → Prop} (p : PostG K mg rel W σ Z m H r Q) : r ≠ .bad := fun e => by rw [e] at p; exact p
/-- how a comprehension's list is handed on -/
def FinOk (fin : List D → M D) : Prop := fin = lcEnd ∨ fin = lcEndC
theorem fin_len {fin : List D → M D} (hf : FinOk fin) {xs : List D} {h : CH} (e : fin xs h ≠ .bad) : xs.length ≤ sizeLine := by
  rcases hf with rfl | rfl
  · unfold lcEnd at e
    split at e
    · assumption
    · exact absurd rfl e
  · unfold lcEndC at e
    split at e
    · assumption
    · exact absurd rfl e
section
variable {X : Cx} {W : WX}
theorem lc_den {it : ITD} {g : GD} {b : BD} {f : ED} {vs is : List Nat} {fin : List D → M D} (hf : FinOk fin) (his : ∀ i ∈ is, i ∈ vs) {K : PySem.W.Frag} {mg : Str → Option Value} {σ : L2.St} {H : Hp} {Q : VK} (h : tD K mg W (eLc fin it g b f vs) σ H Q) :
    tLc (tDI K mg W it) (tDG K mg is g) (tDB K mg WF b) (tD K mg WF f) vs σ H Q := by
  obtain ⟨Z, m, ρ, c, at', p⟩ := h
  refine ⟨Z, m, ρ, c, at', ?_⟩
  unfold eLc at p
  cases e1 : it ρ c with
  | bad => rw [bind_bad e1] at p; exact p.elim
  | exc _ _ => rw [bind_exc e1] at p; exact p
  | ok r h1 =>
    obtain ⟨ds, o⟩ := r
    rw [bind_ok e1] at p
    dsimp only at p ⊢
    intro J m1 H1 ex1 hk1 wk L hL
    have p1 := PostG.from ex1 p
    have hZ : L ∉ Z := fun z => hk1.out hL (List.mem_append_left _ z)
    refine ⟨fun i k H2 => k = ds.length - i ∧ i ≤ ds.length ∧ ∃ m2 h2 acc vs', Ext Z m1 H1 m2 H2 ∧ HeapOk K mg (L :: Z) m2 h2 H2 ∧ Sub (hide (Z ++ m1) H1) (hide (L :: Z ++ m2) H2) ∧ H2 L = some (.lst vs') ∧ RepL K mg m2 (hide (L :: Z ++ m2) H2) acc vs' ∧
      REnv K mg m2 (hide (L :: Z ++ m2) H2) (wipeE ρ vs) (L2.wipe σ vs) ∧ PostG K mg (Rep K mg) W σ Z m1 H1 (M.bind (lcX o ds g b f (wipeE ρ vs) (ds.drop i)) (fun xs => fin (acc ++ xs)) h2) Q, ⟨ds.length, rfl, Nat.zero_le _, m1, h1, [], [], ?_, hk1.lay1 hL, sub_lay hL, upd_same, RepL.nil, ?_, ?_⟩, ?_⟩
    · exact Ext.laid hk1 hL
    · exact REnv.wipe (REnv.mono (fun _ _ e => e) (sub_lay hL) _ _ (ex1.env at'.en)) vs
    · exact p1
    · rintro i k H2 ⟨rfl, hi, m2, h2, acc, vs', ex2, hk2, st2, hL2, ra, en2, p2⟩
      by_cases hlt : i < ds.length
      · right
        rw [List.drop_eq_getElem_cons hlt] at p2
        obtain ⟨gd2, e2⟩ := lcX_cons (not_bad p2)
        rw [e2] at p2
        have hd : ds[i]? = some ds[i] := List.getElem?_eq_getElem hlt
        obtain ⟨go, yl⟩ := wk.go (L :: Z) m2 h2 H2 i _ ex2.pre st2 ex2.fr hk2 gd2 hd
        generalize hdd : ds[i] = d at p2 yl
        refine ⟨go, fun H5 => i + 1 ≤ ds.length ∧ ∃ m2 h2 acc vs', Ext Z m1 H1 m2 H5 ∧ HeapOk K mg (L :: Z) m2 h2 H5 ∧ Sub (hide (Z ++ m1) H1) (hide (L :: Z ++ m2) H5) ∧ H5 L = some (.lst vs') ∧ RepL K mg m2 (hide (L :: Z ++ m2) H5) acc vs' ∧
          REnv K mg m2 (hide (L :: Z ++ m2) H5) (wipeE ρ vs) (L2.wipe σ vs) ∧ PostG K mg (Rep K mg) W σ Z m1 H1 (M.bind (lcX o ds g b f (wipeE ρ vs) (ds.drop (i + 1))) (fun xs => fin (acc ++ xs)) h2) Q, fun H5 q => ⟨ds.length - (i + 1), by omega, rfl, q⟩, fun x H3 y => ?_⟩
        obtain ⟨rfl, rx⟩ := yl x H3 y
        -- the turn of d
        have p2' := not_bad p2
        unfold M.bind lcT at p2 p2'
        cases eg : g d (wipeE ρ vs) with
        | none => rw [eg] at p2'; exact absurd rfl p2'
        | some ρ1 =>
          rw [eg] at p2 p2'
          dsimp only at p2 p2'
          refine ⟨L :: Z, m2, wipeE ρ vs, h2, d, ρ1, ⟨hk2, en2⟩, rx, eg, fun σ2 en3 kept => ⟨(kept vs his).trans (wipe_sub fun _ z => z), ?_⟩⟩
          -- along the block: the hidden list stays
          have along : ∀ {m3 H4}, Ext (L :: Z) m2 H3 m3 H4 → Ext Z m1 H1 m3 H4 ∧ Sub (hide (Z ++ m1) H1) (hide (L :: Z ++ m3) H4) ∧ H4 L = some (.lst vs') := fun {m3 H4} ex => by
            have st3 := st2.trans ex.st
            refine ⟨⟨fun n a q => ex.pre n a (ex2.pre n a q), st3.trans sub_hide1, fun a ha => (ex.zs a (List.mem_cons_of_mem _ ha)).trans (ex2.zs a ha), fun a o u q => ex.fr a o u (ex2.fr a o u q)⟩, st3, ?_⟩
            rw [ex.zs L List.mem_cons_self]; exact hL2
          refine ⟨L :: Z, m2, ρ1, h2, ⟨hk2, en3⟩, ?_⟩
          cases eb : b ρ1 h2 with
          | bad => rw [eb] at p2'; exact absurd rfl p2'
          | exc _ _ => rw [eb] at p2'; exact absurd rfl p2'
          | ok kk h3 =>
            intro kk' m3 H4 ex3 hk3 ek
            subst ek
            rw [eb] at p2 p2'
            obtain ⟨a1, a2, a3⟩ := along ex3
            cases kk' with
            | false =>
              rw [if_neg Bool.false_ne_true]
              exact ⟨hlt, m3, h3, acc, vs', a1, hk3, a2, a3, ex3.repL ra, ex3.env en2, p2⟩
            | true =>
              rw [if_pos rfl]
              dsimp only at p2 p2'
              refine ⟨L :: Z, m3, ρ1, h3, ⟨hk3, ex3.env en3⟩, ?_⟩
              cases ef : f ρ1 h3 with
              | bad => rw [ef] at p2'; exact absurd rfl p2'
              | exc _ _ => rw [ef] at p2'; exact absurd rfl p2'
              | ok x4 h4 =>
                intro y4 m4 H5 ex4 hk4 r4
                rw [ef] at p2 p2'
                have ex34 := ex3.trans ex4
                obtain ⟨b1, b2, b3⟩ := along ex34
                have ra4 := ex34.repL ra
                have p3 : PostG K mg (Rep K mg) W σ Z m1 H1 (M.bind (lcX o ds g b f (wipeE ρ vs) (ds.drop (i + 1))) (fun xs => fin ((acc ++ [x4]) ++ xs)) h4) Q := by
                  have q : PostG K mg (Rep K mg) W σ Z m1 H1 (M.bind (lcX o ds g b f (wipeE ρ vs) (ds.drop (i + 1))) (fun xs => fin (acc ++ ([x4] ++ xs))) h4) Q := p2
                  simpa only [List.append_assoc] using q
                have hlen : acc.length < sizeLine := by
                  have nb := not_bad p3
                  unfold M.bind at nb
                  cases ex5 : lcX o ds g b f (wipeE ρ vs) (ds.drop (i + 1)) h4 with
                  | bad => rw [ex5] at nb; exact absurd rfl nb
                  | exc _ _ => exact absurd ex5 lcX_noexc
                  | ok xs h5 =>
                    rw [ex5] at nb
                    have := fin_len hf nb
                    rw [List.length_append, List.length_append, List.length_singleton] at this
                    omega
                obtain ⟨t1, t2⟩ := hk4.turn1 (o := .lst (vs' ++ [y4])) hZ
                refine ⟨vs', b3, by rw [ra4.length]; exact hlen, hlt, m4, h4, acc ++ [x4], vs' ++ [y4], ?_, t1, b2.trans t2, upd_same, RepL.mono (fun _ _ e => e) t2 _ _ (ra4.append (RepL.one r4)), REnv.mono (fun _ _ e => e) t2 _ _ (ex34.env en2), p3⟩
                refine ⟨b1.pre, fun a u e => ?_, fun a ha => ?_, fun a o u q => by rw [upd_ne (fun z => by have w := b1.fr a o u q; rw [z, b3] at w; cases w)]; exact b1.fr a o u q⟩
                · have q := (b2.trans t2) a u e
                  exact sub_hide1 _ _ q
                · rw [upd_ne (fun z => hZ (by rw [← z]; exact ha))]; exact b1.zs a ha
      · left
        have e : i = ds.length := by omega
        subst e
        rw [List.drop_length] at p2
        obtain ⟨gd2, e2⟩ := lcX_nil (not_bad p2)
        rw [e2, List.append_nil] at p2
        refine ⟨wk.stop (L :: Z) m2 h2 H2 ex2.pre st2 ex2.fr hk2 gd2, ?_⟩
        have hLm : L ∉ Z ++ m2 := fun z => by
          rcases List.mem_append.mp z with z | z
          · exact hZ z
          · exact hk2.dj L z List.mem_cons_self
        rcases hf with rfl | rfl
        · unfold lcEnd at p2
          split at p2
          · refine p2 (.ref L) m2 H2 ex2 hk2.un1 ?_
            unfold Rep
            exact ⟨L, vs', rfl, hide_of hLm hL2, RepL.mono (fun _ _ e => e) sub_hide1 _ _ ra⟩
          · exact p2.elim
        · unfold lcEndC at p2
          split at p2
          · refine p2 (.ref L) (m2 ++ [L]) H2 ⟨fun n a q => ?_, fun a u q => ?_, ex2.zs, ex2.fr⟩ (hk2.adopt hL2 ra hZ) ?_
            · rw [List.getElem?_append_left (List.getElem?_eq_some_iff.mp (ex2.pre n a q)).1]; exact ex2.pre n a q
            · obtain ⟨q1, q2⟩ := hide_some (st2 a u q)
              refine hide_of (fun z => q1 ?_) q2
              rcases List.mem_append.mp z with z | z
              · exact List.mem_append_left _ (List.mem_cons_of_mem _ z)
              · rcases List.mem_append.mp z with z | z
                · exact List.mem_append_right _ z
                · have e : a = L := by simpa using z
                  rw [e]; exact List.mem_append_left _ List.mem_cons_self
            · unfold Rep
              exact ⟨L, by rw [← hk2.len]; simp, rfl⟩
          · exact p2.elim
theorem sl_yes : PTs X [] (tDB X.K X.mg W bYes) := ⟨fun pins s σ H Q I ⟨Z, m, ρ, h, at', p⟩ => pts_nil.run pins s σ H Q I (p true m H Ext.refl at'.hk rfl)⟩
theorem sl_one {c : Expr} {b : BD} (h : PT X c (tDB X.K X.mg W b)) : PTs X [c] (tDB X.K X.mg W b) := pts_one h
theorem se_lc {elt tg iter : Expr} {ifs : List Expr} {scope : Scope} {own : List (Str × Nat)} {pos : Pos} {it : ITD} {g : GD} {is : List Nat} {b : BD} {f : ED} {fin : List D → M D} {vs : List Nat} (hf : FinOk fin) (hc : X.calm = true) (hN : X.N.Nodup) (hi : PI X tg iter (tDI X.K X.mg W it)) (ok : BlkOk X.N X.env.scope scope own)
    (hg : ∀ (s : Shared) (H : Hp) (C : Addr) (cl : List (Str × Addr)) (fp : List Addr), PG (X.blk s H scope (compEnvC scope cl C X.env) fp) tg (tDG X.K X.mg is g)) (ht : ∀ (s : Shared) (H : Hp) (C : Addr) (cl : List (Str × Addr)) (fp : List Addr), PTs (X.blk s H scope (compEnvC scope cl C X.env) fp) ifs (tDB X.K X.mg WF b))
    (he : ∀ (s : Shared) (H : Hp) (C : Addr) (cl : List (Str × Addr)) (fp : List Addr), PE (X.blk s H scope (compEnvC scope cl C X.env) fp) elt (tD X.K X.mg WF f)) (his : ∀ i ∈ is, i ∈ own.map (·.2)) (hv : own.map (·.2) = vs := by rfl) (hs : ∀ x, foldedSetIterable iter X.env x = pure x := by intro _; rfl) :
    PE X (.ListComp elt [⟨tg, iter, ifs, 0⟩] scope pos) (tD X.K X.mg W (eLc fin it g b f vs)) :=
  by
  subst hv
  exact pick fun σ H Q h => ⟨_, pe_lc hc hN hi ok hg ht he hs, lc_den hf his h⟩
theorem ss_setLc {i : Nat} {y : Str} {py : Pos} {elt tg iter : Expr} {ifs : List Expr} {scope : Scope} {own : List (Str × Nat)} {pos spos : Pos} {it : ITD} {g : GD} {is : List Nat} {b : BD} {f : ED} {fin : List D → M D} {vs : List Nat} (hf : FinOk fin) (hc : X.calm = true) (hN : X.N.Nodup) (hy : X.N[i]? = some y) (hyl : X.env.scope.names.lookup y = some .local)
    (hsw : swapsWith (.ListComp elt [⟨tg, iter, ifs, 0⟩] scope pos) (some (.Name y py)) spos.line X.env = pure true) (hi : PI X tg iter (tDI X.K X.mg W it)) (ok : BlkOk X.N X.env.scope scope own)
    (hg : ∀ (s : Shared) (H : Hp) (C : Addr) (cl : List (Str × Addr)) (fp : List Addr), PG (X.blk s H scope (compEnvC scope cl C X.env) fp) tg (tDG X.K X.mg is g)) (ht : ∀ (s : Shared) (H : Hp) (C : Addr) (cl : List (Str × Addr)) (fp : List Addr), PTs (X.blk s H scope (compEnvC scope cl C X.env) fp) ifs (tDB X.K X.mg WF b))
    (he : ∀ (s : Shared) (H : Hp) (C : Addr) (cl : List (Str × Addr)) (fp : List Addr), PE (X.blk s H scope (compEnvC scope cl C X.env) fp) elt (tD X.K X.mg WF f)) (his : ∀ i ∈ is, i ∈ own.map (·.2)) (hv : own.map (·.2) = vs := by rfl) (hs : ∀ x, foldedSetIterable iter X.env x = pure x := by intro _; rfl) :
    PS X (.Assign [.Name y py] (.ListComp elt [⟨tg, iter, ifs, 0⟩] scope pos) spos) (tDS X.K X.mg W (sAsg (eLc fin it g b f vs) (gN i))) :=
  by
  subst hv
  exact pickS fun σ H E ⟨Z, m, ρ, h, at', p⟩ => ⟨_, ps_setLc hc hN hy hyl hsw hi ok hg ht he hs, lc_den hf his ⟨Z, m, ρ, h, at', (PostS.ofE at' p).imp fun v H' ⟨d, m', h', ex, at2, r, q⟩ => by
    exact q _ m' H' Ext.refl at2.hk (REnv.set r i at2.en)⟩⟩
end
end FK

/-! part: FK8 -/
set_option Elab.async false
set_option linter.all false
set_option maxRecDepth 100000
set_option maxHeartbeats 4000000
/-! FK8: defs and their calls. -/
namespace FK
open PySem PySem.Spec L2
open PyProof.Rows (envOfC)

abbrev FD := List D → M D
/-- a def: np parameters, N slots -/
def fnD (N : Nat) (body : SD) : FD := fun ds h => match body (ds.map some ++ List.replicate (N - ds.length) none) h with
  | .ok (.rt d) _ h' => .ok d h'
  | .ok .nx _ h' => .ok .non h'
  | .ok _ _ _ => .bad
  | .exc c _ h' => .exc c h'
  | .bad => .bad
abbrev WE (E : XK) : WX := fun c d _ H => E c d H
def spF (K : PySem.W.Frag) (mg : Str → Option Value) (n : Nat) (F : FD) : Sp := fun vs H Q E => ∃ Z m h ds, HeapOk K mg Z m h H ∧ RepL K mg m (hide (Z ++ m) H) ds vs ∧ ds.length = n ∧ Post K mg (WE E) [] Z m H (F ds h) Q
section
variable {P : Program} {w : World} {K : PySem.W.Frag} {mg : Str → Option Value} {base : Heap}
theorem fn_ok {x qual : Str} {st : Stmt} {f : Addr} {fd : FuncData} {N ps : List Str} {k : Nat} {body : SD} (F : Fun K x qual st f fd) (S : FnScope N ps (defScope st))
    (hbody : ∀ (cdv : Value) (A : Around) (outer : List PySem.Env) (s : Shared) (H : Hp) (E : XK), Room k (A.deeper (envOfC qual (defScope st) s.heap.objs.size f cdv)) →
      PSs (cxOf (L2.CX P w) P w K mg base N qual (defScope st) f cdv A outer s H E) (defBody st) (tDS K mg (WE E) body)) : FnOk P w K mg base (L2.CX P w) (k + 1) f fd ps (spF K mg ps.length (fnD N.length body)) := by
  refine F.okX S (fun vs H Q E ⟨Z, m, h, ds, hk, r, e, p⟩ => r.length.trans e) (fun cdv A outer s H vs Q E hr ⟨Z, m, h, ds, hk, r, e, p⟩ => ⟨_, hbody cdv A outer s H E hr, Z, m, ds.map some ++ List.replicate (N.length - vs.length) none, h, ⟨hk, ?_⟩, ?_⟩)
  · exact REnv.start (ds := ds) (N.length - vs.length) r
  · unfold fnD at p
    rw [r.length]
    cases q : body (ds.map some ++ List.replicate (N.length - ds.length) none) h with
    | ok fl ρ' h' =>
      rw [q] at p
      cases fl with
      | rt d => exact p
      | nx => exact fun σ' m' H' ex hk' en => p _ m' H' ex hk' mk_non
      | bk => exact p.elim
      | ct => exact p.elim
    | exc c ρ' h' => rw [q] at p; exact fun σ' m' H' cls ex hk' en hc => p m' H' cls ex hk' hc
    | bad => rw [q] at p; exact p
end

/-! ### no cells in a datum; cells made data -/
mutual
def D.nr : D → Bool
  | .tup xs => D.nrL xs
  | .lst xs => D.nrL xs
  | .scr xs => D.nrL xs
  | .obj _ _ xs => D.nrL xs
  | .ref _ => false
  | _ => true
def D.nrL : List D → Bool
  | [] => true
  | d :: ds => D.nr d && D.nrL ds
end
mutual
/-- texts, numbers, tuples alone -/
def D.flat : D → Bool
  | .tup xs => D.flatL xs
  | .lst _ => false
  | .scr _ => false
  | .obj _ _ _ => false
  | .ref _ => false
  | _ => true
def D.flatL : List D → Bool
  | [] => true
  | d :: ds => D.flat d && D.flatL ds
end
def mapO {α β : Type} (f : α → Option β) : List α → Option (List β)
  | [] => some []
  | a :: r => match f a, mapO f r with
    | some b, some s => some (b :: s)
    | _, _ => none
def fzF : Nat → CH → D → Option D
  | 0, _, _ => none
  | n + 1, h, d => if d.nr = true then some d else match d with
    | .tup xs => (mapO (fzF n h) xs).map .tup
    | .lst xs => (mapO (fzF n h) xs).map .lst
    | .obj c ns xs => (mapO (fzF n h) xs).map (.obj c ns)
    | .ref k => match h[k]? with
      | some (.lst xs) => (mapO (fzF n h) xs).map .lst
      | some (.ins c ns xs) => (mapO (fzF n h) xs).map (.obj c ns)
      | _ => none
    | _ => none
/-- a datum with its cells' contents in it -/
def fz (h : CH) (d : D) : Option D := fzF 12 h d
section
variable {K : PySem.W.Frag} {mg : Str → Option Value} {Z m m' : List Addr} {S S' H : Hp} {h : CH}
mutual
theorem Rep.nr (hs : Sub S S') : ∀ (d : D) (v : V), Rep K mg m S d v → d.nr = true → Rep K mg m' S' d v
  | .non, v, h, _ => by simpa [Rep] using h
  | .bl b, v, h, _ => by simpa [Rep] using h
  | .int b, v, h, _ => by simpa [Rep] using h
  | .str b, v, h, _ => by simpa [Rep] using h
  | .tup xs, v, h, q => by
    unfold Rep at h ⊢
    obtain ⟨a, vs, e, g, r⟩ := h
    exact ⟨a, vs, e, hs.sqt g, RepL.nr hs xs vs r (by simpa [D.nr] using q)⟩
  | .lst xs, v, h, q => by
    unfold Rep at h ⊢
    obtain ⟨a, vs, e, g, r⟩ := h
    exact ⟨a, vs, e, hs _ _ g, RepL.nr hs xs vs r (by simpa [D.nr] using q)⟩
  | .scr xs, v, h, q => by
    unfold Rep at h ⊢
    obtain ⟨a, vs, e, g, r⟩ := h
    exact ⟨a, vs, e, hs.sql g, RepL.nr hs xs vs r (by simpa [D.nr] using q)⟩
  | .obj c ns xs, v, h, q => by
    unfold Rep at h ⊢
    obtain ⟨a, C, dx, fs, e, g, e2, e3, r⟩ := h
    exact ⟨a, C, dx, fs, e, hs _ _ g, e2, e3, RepL.nr hs xs _ r (by simpa [D.nr] using q)⟩
  | .ref n, v, h, q => by simp [D.nr] at q
theorem RepL.nr (hs : Sub S S') : ∀ (ds : List D) (vs : List V), RepL K mg m S ds vs → D.nrL ds = true → RepL K mg m' S' ds vs
  | [], vs, h, _ => by rw [h.of_nil]; exact RepL.nil
  | d :: ds, vs, h, q => by
    obtain ⟨v, r, rfl, a, b⟩ := h.of_cons
    have q' : d.nr = true ∧ D.nrL ds = true := by simpa [D.nrL] using q
    exact RepL.cons (Rep.nr hs d v a q'.1) (RepL.nr hs ds r b q'.2)
end
mutual
theorem D.nr_flat : ∀ d : D, d.flat = true → d.nr = true
  | .non, _ => rfl
  | .bl _, _ => rfl
  | .int _, _ => rfl
  | .str _, _ => rfl
  | .tup xs, h => by
    show D.nrL xs = true
    exact D.nrL_flat xs (by simpa [D.flat] using h)
  | .lst _, h => by simp [D.flat] at h
  | .scr _, h => by simp [D.flat] at h
  | .obj _ _ _, h => by simp [D.flat] at h
  | .ref _, h => by simp [D.flat] at h
theorem D.nrL_flat : ∀ ds : List D, D.flatL ds = true → D.nrL ds = true
  | [], _ => rfl
  | d :: ds, h => by
    have h' : d.flat = true ∧ D.flatL ds = true := by simpa [D.flatL] using h
    show (D.nr d && D.nrL ds) = true
    rw [D.nr_flat d h'.1, D.nrL_flat ds h'.2]
    rfl
end
/-- tuples of S are tuples of S' -/
def SubT (K : PySem.W.Frag) (S S' : Hp) : Prop := ∀ a xs, SqT K S a xs → SqT K S' a xs
mutual
theorem Rep.flat (hs : SubT K S S') : ∀ (d : D) (v : V), Rep K mg m S d v → d.flat = true → Rep K mg m' S' d v
  | .non, v, h, _ => by simpa [Rep] using h
  | .bl b, v, h, _ => by simpa [Rep] using h
  | .int b, v, h, _ => by simpa [Rep] using h
  | .str b, v, h, _ => by simpa [Rep] using h
  | .tup xs, v, h, q => by
    unfold Rep at h ⊢
    obtain ⟨a, vs, e, g, r⟩ := h
    exact ⟨a, vs, e, hs _ _ g, RepL.flat hs xs vs r (by simpa [D.flat] using q)⟩
  | .lst xs, v, h, q => by simp [D.flat] at q
  | .scr xs, v, h, q => by simp [D.flat] at q
  | .obj c ns xs, v, h, q => by simp [D.flat] at q
  | .ref n, v, h, q => by simp [D.flat] at q
theorem RepL.flat (hs : SubT K S S') : ∀ (ds : List D) (vs : List V), RepL K mg m S ds vs → D.flatL ds = true → RepL K mg m' S' ds vs
  | [], vs, h, _ => by rw [h.of_nil]; exact RepL.nil
  | d :: ds, vs, h, q => by
    obtain ⟨v, r, rfl, a, b⟩ := h.of_cons
    have q' : d.flat = true ∧ D.flatL ds = true := by simpa [D.flatL] using q
    exact RepL.cons (Rep.flat hs d v a q'.1) (RepL.flat hs ds r b q'.2)
end
theorem sub_out (hk : HeapOk K mg Z m h H) : Sub (hide (Z ++ m) H) (hide Z H) := fun a o e => by
  obtain ⟨h1, h2⟩ := hide_some e
  exact hide_of (fun z => h1 (List.mem_append_left _ z)) h2
theorem mapO_rep {n : Nat} {f : D → Option D} (hf : ∀ d v d', f d = some d' → Rep K mg m S d v → Rep K mg m' S' d' v ∧ d'.nr = true) : ∀ {ds ds' : List D} {vs : List V}, mapO f ds = some ds' → RepL K mg m S ds vs → RepL K mg m' S' ds' vs ∧ D.nrL ds' = true
  | [], ds', vs, e, r => by
    cases e
    rw [r.of_nil]
    exact ⟨RepL.nil, rfl⟩
  | d :: ds, ds', vs, e, r => by
    unfold mapO at e
    cases e1 : f d with
    | none => rw [e1] at e; cases e
    | some b =>
      cases e2 : mapO f ds with
      | none => rw [e1, e2] at e; cases e
      | some s =>
        rw [e1, e2] at e
        cases e
        obtain ⟨v, t, rfl, ra, rb⟩ := r.of_cons
        obtain ⟨g1, g2⟩ := hf d v b e1 ra
        obtain ⟨g3, g4⟩ := mapO_rep (n := n) hf e2 rb
        exact ⟨RepL.cons g1 g3, by show (D.nr b && D.nrL s) = true; rw [g2, g4]; rfl⟩
/-- a cell that is data -/
def Dat (h : CH) (k : Nat) : Prop := (∃ xs, h[k]? = some (.lst xs)) ∨ ∃ c ns xs, h[k]? = some (.ins c ns xs)
theorem fzF_rep (hk : HeapOk K mg Z m h H) (st : Sub (hide (Z ++ m) H) S') (hc : ∀ (k : Nat) a o, m[k]? = some a → Dat h k → H a = some o → S' a = some o) : ∀ (n : Nat) (d : D) (v : V) (d' : D), fzF n h d = some d' → Rep K mg m (hide (Z ++ m) H) d v → Rep K mg m' S' d' v ∧ d'.nr = true
  | 0, d, v, d', e, _ => by cases e
  | n + 1, d, v, d', e, r => by
    have ih := fun d v d' => fzF_rep hk st hc n d v d'
    unfold fzF at e
    split at e
    · rename_i hn
      cases e
      exact ⟨Rep.nr st _ v r hn, hn⟩
    · cases d with
      | tup xs =>
        dsimp only at e
        cases e1 : mapO (fzF n h) xs with
        | none => rw [e1] at e; cases e
        | some ys =>
          rw [e1] at e
          cases e
          unfold Rep at r
          obtain ⟨a, vs, rfl, g, rr⟩ := r
          obtain ⟨g1, g2⟩ := mapO_rep (n := n) (fun d v d' q r => ih d v d' q r) e1 rr
          refine ⟨?_, g2⟩
          unfold Rep
          exact ⟨a, vs, rfl, st.sqt g, g1⟩
      | lst xs =>
        dsimp only at e
        cases e1 : mapO (fzF n h) xs with
        | none => rw [e1] at e; cases e
        | some ys =>
          rw [e1] at e
          cases e
          unfold Rep at r
          obtain ⟨a, vs, rfl, g, rr⟩ := r
          obtain ⟨g1, g2⟩ := mapO_rep (n := n) (fun d v d' q r => ih d v d' q r) e1 rr
          refine ⟨?_, g2⟩
          unfold Rep
          exact ⟨a, vs, rfl, st _ _ g, g1⟩
      | obj c ns xs =>
        dsimp only at e
        cases e1 : mapO (fzF n h) xs with
        | none => rw [e1] at e; cases e
        | some ys =>
          rw [e1] at e
          cases e
          unfold Rep at r
          obtain ⟨a, C, dx, fs, rfl, g, e2, e3, rr⟩ := r
          obtain ⟨g1, g2⟩ := mapO_rep (n := n) (fun d v d' q r => ih d v d' q r) e1 rr
          refine ⟨?_, g2⟩
          unfold Rep
          exact ⟨a, C, dx, fs, rfl, st _ _ g, e2, e3, g1⟩
      | ref k =>
        dsimp only at e
        unfold Rep at r
        obtain ⟨a, hm, rfl⟩ := r
        cases ec : h[k]? with
        | none => rw [ec] at e; cases e
        | some c =>
          rw [ec] at e
          have cr := hk.cell k c a ec hm
          cases c with
          | lst xs =>
            dsimp only at e
            cases e1 : mapO (fzF n h) xs with
            | none => rw [e1] at e; cases e
            | some ys =>
              rw [e1] at e
              cases e
              obtain ⟨vs, h1, h2⟩ := cr
              obtain ⟨g1, g2⟩ := mapO_rep (n := n) (fun d v d' q r => ih d v d' q r) e1 h2
              refine ⟨?_, g2⟩
              unfold Rep
              exact ⟨a, vs, rfl, hc k a _ hm (.inl ⟨_, ec⟩) h1, g1⟩
          | tab _ => cases e
          | dS _ _ => cases e
          | dM _ _ _ => cases e
          | ins c ns xs =>
            dsimp only at e
            cases e1 : mapO (fzF n h) xs with
            | none => rw [e1] at e; cases e
            | some ys =>
              rw [e1] at e
              cases e
              obtain ⟨C, dx, fs, h1, e2, e3, h4⟩ := cr
              obtain ⟨g1, g2⟩ := mapO_rep (n := n) (fun d v d' q r => ih d v d' q r) e1 h4
              refine ⟨?_, g2⟩
              unfold Rep
              exact ⟨a, C, dx, fs, rfl, hc k a _ hm (.inr ⟨_, _, _, ec⟩) h1, e2, e3, g1⟩
      | _ => cases e
theorem fz_rep (hk : HeapOk K mg Z m h H) {d : D} {v : V} {d' : D} (e : fz h d = some d') (r : Rep K mg m (hide (Z ++ m) H) d v) : Rep K mg m' (hide Z H) d' v ∧ d'.nr = true := fzF_rep hk (sub_out hk) (fun k a o hm _ ho => hide_of (hk.dj a (List.mem_of_getElem? hm)) ho) 12 d v d' e r
theorem HeapOk.empty (hex : ∀ a ∈ Z, ∃ o, H a = some o) : HeapOk K mg Z [] [] H := ⟨rfl, List.nodup_nil, fun a h => absurd h (by simp), hex, fun n c a h1 h2 => by simp at h2⟩
end

/-! ### calls -/
/-- the callee works on the caller's cells -/
def callH (n : Nat) (F : FD) (ds : List D) : M D := fun h => if ds.length = n then F ds h else .bad
/-- a list or an instance of the callee's own, with plain things in it -/
def own (h : CH) (d : D) : Option D := match d with
  | .ref k => match h[k]? with
    | some (.lst xs) => if D.flatL xs = true then some (.lst xs) else none
    | some (.ins c ns xs) => if D.flatL xs = true then some (.obj c ns xs) else none
    | _ => none
  | _ => none
/-- the callee has cells of its own; it sees the caller's as they are -/
def callP (n : Nat) (F : FD) (ds : List D) : M D := fun h =>
  if ds.length = n then
    (if D.nrL ds = true then
      (match F ds [] with
        | .ok d h' => match fz h' d with
          | some d' => .ok d' h
          | none => .bad
        | .exc c _ => .exc c h
        | .bad => .bad)
    else match mapO (fz h) ds with
      | some es => (match F es [] with
        | .ok d h' => if d.flat = true then .ok d h else (match own h' d with
          | some d' => .ok d' h
          | none => .bad)
        | .exc c _ => .exc c h
        | .bad => .bad)
      | none => .bad)
  else .bad
/-- .. and a list that it made becomes a cell of the caller -/
def callN (n : Nat) (F : FD) (ds : List D) : M D := fun h =>
  if ds.length = n then
    (if D.nrL ds = true then
      (match F ds [] with
        | .ok (.ref k) h' => (match h'[k]? with
          | some (.lst xs) => if D.nrL xs = true then .ok (.ref h.length) (h ++ [.lst xs]) else .bad
          | _ => .bad)
        | .exc c _ => .exc c h
        | _ => .bad)
    else match mapO (fz h) ds with
      | some es => (match F es [] with
        | .ok (.ref k) h' => (match h'[k]? with
          | some (.lst xs) => if D.flatL xs = true then .ok (.ref h.length) (h ++ [.lst xs]) else .bad
          | _ => .bad)
        | .exc c _ => .exc c h
        | _ => .bad)
      | none => .bad)
  else .bad
section
variable {K : PySem.W.Frag} {mg : Str → Option Value} {Z m : List Addr} {H : Hp} {h : CH} {W : WX} {σ : L2.St} {Q : VK} {n : Nat} {F : FD} {ds : List D} {vs : List V}
theorem callH_sp (hk : HeapOk K mg Z m h H) (r : RepL K mg m (hide (Z ++ m) H) ds vs) (p : Post K mg W σ Z m H (callH n F ds h) Q) : spF K mg n F vs H Q (fun c d H' => W c d σ H') := by
  unfold callH at p
  split at p
  · rename_i hn
    refine ⟨Z, m, h, ds, hk, r, hn, ?_⟩
    cases e : F ds h with
    | ok d h1 => rw [e] at p; exact p
    | exc c h1 => rw [e] at p; exact p
    | bad => rw [e] at p; exact p
  · exact p.elim
theorem callP_sp (hk : HeapOk K mg Z m h H) (r : RepL K mg m (hide (Z ++ m) H) ds vs) (p : Post K mg W σ Z m H (callP n F ds h) Q) : spF K mg n F vs H Q (fun c d H' => W c d σ H') := by
  unfold callP at p
  split at p
  · rename_i hn
    split at p
    · rename_i hnr
      have eqz : hide ((Z ++ m) ++ []) H = hide (Z ++ m) H := by rw [List.append_nil]
      refine ⟨Z ++ m, [], [], ds, HeapOk.empty fun a ha => hk.there ha, by rw [eqz]; exact RepL.nr Sub.refl ds vs r hnr, hn, ?_⟩
      -- behind the callee
      have back : ∀ {m2 H2}, Ext (Z ++ m) [] H m2 H2 → Ext Z m H m H2 ∧ HeapOk K mg Z m h H2 := fun {m2 H2} ex => by
        have st : Sub (hide (Z ++ m) H) (hide (Z ++ m) H2) := fun a o e => by
          have q := ex.st a o (by rw [eqz]; exact e)
          obtain ⟨q1, q2⟩ := hide_some q
          exact hide_of (fun z => q1 (List.mem_append_left _ z)) q2
        refine ⟨⟨fun _ _ e => e, st, fun a ha => ex.zs a (List.mem_append_left _ ha), ex.fr⟩, hk.len, hk.nd, hk.dj, fun a ha => by rw [ex.zs a (List.mem_append_left _ ha)]; exact hk.ex a ha, fun k c a h1 h2 => ?_⟩
        exact CellR.mono (fun _ _ e => e) st (ex.zs a (List.mem_append_right _ (List.mem_of_getElem? h2))) (hk.cell k c a h1 h2)
      cases e : F ds [] with
      | ok d hc =>
        rw [e] at p
        dsimp only at p
        intro v m2 H2 ex hk2 r2
        obtain ⟨b1, b2⟩ := back ex
        cases e2 : fz hc d with
        | none => rw [e2] at p; exact p.elim
        | some d' =>
          rw [e2] at p
          obtain ⟨q1, q2⟩ := fz_rep (m' := m) hk2 e2 r2
          exact p v m H2 b1 b2 q1
      | exc c hc =>
        rw [e] at p
        intro m2 H2 cls ex hk2 hcls
        obtain ⟨b1, b2⟩ := back ex
        exact p m H2 cls b1 b2 hcls
      | bad => rw [e] at p; exact p
    · split at p
      · rename_i es hes
        have eqz : hide (Z ++ []) H = hide Z H := by rw [List.append_nil]
        obtain ⟨g1, g2⟩ := mapO_rep (n := 0) (m' := []) (S' := hide Z H) (fun d v d' q r => fz_rep hk q r) hes r
        have elen : es.length = ds.length := by rw [← g1.length, r.length]
        refine ⟨Z, [], [], es, HeapOk.empty hk.ex, by rw [eqz]; exact g1, elen.trans hn, ?_⟩
        have back : ∀ {m2 h2 H2}, Ext Z [] H m2 H2 → HeapOk K mg Z m2 h2 H2 → Ext Z m H m H2 ∧ HeapOk K mg Z m h H2 ∧ SubT K (hide (Z ++ m2) H2) (hide (Z ++ m) H2) := fun {m2 h2 H2} ex hk2 => by
          have old : ∀ a o, a ∉ Z → H a = some o → H2 a = some o := fun a o nz e => (hide_some (ex.st a o (by rw [eqz]; exact hide_of nz e))).2
          have st : Sub (hide (Z ++ m) H) (hide (Z ++ m) H2) := fun a o e => by
            obtain ⟨q1, q2⟩ := hide_some e
            exact hide_of q1 (old a o (fun z => q1 (List.mem_append_left _ z)) q2)
          have cells : ∀ a ∈ m, H2 a = H a := fun a ha => by
            obtain ⟨o, e⟩ := hk.there (List.mem_append_right Z ha)
            rw [old a o (hk.dj a ha) e, e]
          have hkm : HeapOk K mg Z m h H2 := ⟨hk.len, hk.nd, hk.dj, fun a ha => by rw [ex.zs a ha]; exact hk.ex a ha, fun k c a h1 h2 => CellR.mono (fun _ _ e => e) st (cells a (List.mem_of_getElem? h2)) (hk.cell k c a h1 h2)⟩
          refine ⟨⟨fun _ _ e => e, st, ex.zs, ex.fr⟩, hkm, fun a xs q => ?_⟩
          have nm : ∀ {u : HO}, hide (Z ++ m2) H2 a = some u → ((∃ ys, u = .tup ys) ∨ ∃ o w, u = .frz o (.tup w)) → hide (Z ++ m) H2 a = some u := fun {u} e n1 => by
            obtain ⟨q1, q2⟩ := hide_some e
            refine hide_of (fun z => ?_) q2
            rcases List.mem_append.mp z with z | z
            · exact q1 (List.mem_append_left _ z)
            · obtain ⟨k, hk', ek⟩ := List.mem_iff_getElem.mp z
              have hc : k < h.length := by rw [← hk.len]; exact hk'
              have cr := hkm.cell k _ a (List.getElem?_eq_getElem hc) (by rw [List.getElem?_eq_getElem hk', ek])
              rcases n1 with ⟨ys, rfl⟩ | ⟨o, w, rfl⟩
              · exact cr.what.1 _ q2
              · exact cr.what.2 _ _ q2
          rcases q with (q | ⟨o, q⟩) | q
          · exact .inl (.inl (nm q (.inl ⟨_, rfl⟩)))
          · exact .inl (.inr ⟨o, nm q (.inr ⟨_, _, rfl⟩)⟩)
          · exact .inr q
        cases e : F es [] with
        | ok d hc =>
          rw [e] at p
          dsimp only at p
          intro v m2 H2 ex hk2 r2
          obtain ⟨b1, b2, b3⟩ := back ex hk2
          split at p
          · rename_i hfl
            exact p v m H2 b1 b2 (Rep.flat b3 d v r2 hfl)
          · have fresh : ∀ a, a ∈ m2 → a ∉ Z ++ m := fun a ha z => by
              rcases List.mem_append.mp z with z | z
              · exact hk2.dj a ha z
              · obtain ⟨o, e⟩ := hk.there (List.mem_append_right Z z)
                have q := ex.st a o (by rw [eqz]; exact hide_of (hk.dj a z) e)
                exact (hide_some q).1 (List.mem_append_right _ ha)
            cases eo : own hc d with
            | none => rw [eo] at p; exact p.elim
            | some d' =>
              rw [eo] at p
              refine p v m H2 b1 b2 ?_
              unfold own at eo
              split at eo
              · rename_i k hnf
                unfold Rep at r2
                obtain ⟨a, hm, rfl⟩ := r2
                have hma := List.mem_of_getElem? hm
                split at eo
                · rename_i xs hx
                  split at eo
                  · rename_i hfx
                    cases eo
                    obtain ⟨vs, h1, h2⟩ := hk2.cell k _ a hx hm
                    unfold Rep
                    exact ⟨a, vs, rfl, hide_of (fresh a hma) h1, RepL.flat b3 xs vs h2 hfx⟩
                  · cases eo
                · rename_i c ns xs hx
                  split at eo
                  · rename_i hfx
                    cases eo
                    obtain ⟨C, dx, fs, h1, e2, e3, h4⟩ := hk2.cell k _ a hx hm
                    unfold Rep
                    exact ⟨a, C, dx, fs, rfl, hide_of (fresh a hma) h1, e2, e3, RepL.flat b3 xs _ h4 hfx⟩
                  · cases eo
                · cases eo
              · cases eo
        | exc c hc =>
          rw [e] at p
          intro m2 H2 cls ex hk2 hcls
          obtain ⟨b1, b2, _⟩ := back ex hk2
          exact p m H2 cls b1 b2 hcls
        | bad => rw [e] at p; exact p
      · exact p.elim
  · exact p.elim
theorem callN_nr (hk : HeapOk K mg Z m h H) (r : RepL K mg m (hide (Z ++ m) H) ds vs) (hn : ds.length = n) (hnr : D.nrL ds = true) (p : Post K mg W σ Z m H (match F ds [] with
        | .ok (.ref k) h' => (match h'[k]? with
          | some (.lst xs) => if D.nrL xs = true then .ok (.ref h.length) (h ++ [.lst xs]) else .bad
          | _ => .bad)
        | .exc c _ => .exc c h
        | _ => .bad) Q) : spF K mg n F vs H Q (fun c d H' => W c d σ H') := by
  have eqz : hide ((Z ++ m) ++ []) H = hide (Z ++ m) H := by rw [List.append_nil]
  refine ⟨Z ++ m, [], [], ds, HeapOk.empty fun a ha => hk.there ha, by rw [eqz]; exact RepL.nr Sub.refl ds vs r hnr, hn, ?_⟩
  have st0 : ∀ {m2 H2}, Ext (Z ++ m) [] H m2 H2 → Sub (hide (Z ++ m) H) (hide ((Z ++ m) ++ m2) H2) := fun {m2 H2} ex a o e => ex.st a o (by rw [eqz]; exact e)
  cases e : F ds [] with
  | ok d hc =>
    rw [e] at p
    intro v m2 H2 ex hk2 r2
    split at p
    · rename_i k hh he
      cases he
      split at p
      · rename_i xs hx
        split at p
        · rename_i hnx
          unfold Rep at r2
          obtain ⟨a, hm, rfl⟩ := r2
          have hma := List.mem_of_getElem? hm
          have hza : a ∉ Z ++ m := hk2.dj a hma
          have sub1 : Sub (hide ((Z ++ m) ++ m2) H2) (hide (Z ++ (m ++ [a])) H2) := fun b o e => by
            obtain ⟨q1, q2⟩ := hide_some e
            refine hide_of (fun z => q1 ?_) q2
            rcases List.mem_append.mp z with z | z
            · exact List.mem_append_left _ (List.mem_append_left _ z)
            · rcases List.mem_append.mp z with z | z
              · exact List.mem_append_left _ (List.mem_append_right _ z)
              · rw [List.mem_singleton.mp z]; exact List.mem_append_right _ hma
          have sub2 : Sub (hide (Z ++ m) H) (hide (Z ++ (m ++ [a])) H2) := (st0 ex).trans sub1
          have pre : ∀ (n : Nat) b, m[n]? = some b → (m ++ [a])[n]? = some b := fun n b e => by
            obtain ⟨q, _⟩ := List.getElem?_eq_some_iff.mp e
            rw [List.getElem?_append_left q]; exact e
          refine p (.ref a) (m ++ [a]) H2 ⟨pre, sub2, fun b hb => ex.zs b (List.mem_append_left _ hb), ex.fr⟩ ⟨by simp [hk.len], ?_, fun b hb z => ?_, fun b hb => by rw [ex.zs b (List.mem_append_left _ hb)]; exact hk.ex b hb, fun j c b h1 h2 => ?_⟩ ?_
          · refine List.nodup_append.mpr ⟨hk.nd, by simp, fun x hx y hy => ?_⟩
            rw [List.mem_singleton.mp hy]
            intro z
            subst z
            exact hza (List.mem_append_right _ hx)
          · rcases List.mem_append.mp hb with q | q
            · exact hk.dj b q z
            · rw [List.mem_singleton.mp q] at z; exact hza (List.mem_append_left _ z)
          · by_cases hj : j < m.length
            · rw [List.getElem?_append_left hj] at h2
              rw [List.getElem?_append_left (by rw [← hk.len]; exact hj)] at h1
              exact CellR.mono pre sub2 (ex.zs b (List.mem_append_right _ (List.mem_of_getElem? h2))) (hk.cell j c b h1 h2)
            · have hj2 : j = m.length := by
                obtain ⟨q, _⟩ := List.getElem?_eq_some_iff.mp h2
                simp at q
                omega
              subst hj2
              rw [List.getElem?_append_right (Nat.le_refl _), Nat.sub_self] at h2
              rw [hk.len, List.getElem?_append_right (Nat.le_refl _), Nat.sub_self] at h1
              cases h1
              cases h2
              obtain ⟨ws, g1, g2⟩ := hk2.cell k _ a hx hm
              exact ⟨ws, g1, RepL.nr sub1 xs ws g2 hnx⟩
          · unfold Rep
            exact ⟨a, by rw [← hk.len, List.getElem?_append_right (Nat.le_refl _), Nat.sub_self]; rfl, rfl⟩
        · exact p.elim
      · exact p.elim
    · rename_i he; cases he
    · exact p.elim
  | exc c hc =>
    rw [e] at p
    intro m2 H2 cls ex hk2 hcls
    have st : Sub (hide (Z ++ m) H) (hide (Z ++ m) H2) := fun a o e => by
      obtain ⟨q1, q2⟩ := hide_some (st0 ex a o e)
      exact hide_of (fun z => q1 (List.mem_append_left _ z)) q2
    exact p m H2 cls ⟨fun _ _ e => e, st, fun a ha => ex.zs a (List.mem_append_left _ ha), ex.fr⟩ ⟨hk.len, hk.nd, hk.dj, fun a ha => by rw [ex.zs a (List.mem_append_left _ ha)]; exact hk.ex a ha, fun k c a h1 h2 => CellR.mono (fun _ _ e => e) st (ex.zs a (List.mem_append_right _ (List.mem_of_getElem? h2))) (hk.cell k c a h1 h2)⟩ hcls
  | bad => rw [e] at p; exact p
theorem callN_fz (hk : HeapOk K mg Z m h H) (r : RepL K mg m (hide (Z ++ m) H) ds vs) (hn : ds.length = n) {es : List D} (hes : mapO (fz h) ds = some es) (p : Post K mg W σ Z m H (match F es [] with
        | .ok (.ref k) h' => (match h'[k]? with
          | some (.lst xs) => if D.flatL xs = true then .ok (.ref h.length) (h ++ [.lst xs]) else .bad
          | _ => .bad)
        | .exc c _ => .exc c h
        | _ => .bad) Q) : spF K mg n F vs H Q (fun c d H' => W c d σ H') := by
  have eqz : hide (Z ++ []) H = hide Z H := by rw [List.append_nil]
  obtain ⟨g1, g2⟩ := mapO_rep (n := 0) (m' := []) (S' := hide Z H) (fun d v d' q r => fz_rep hk q r) hes r
  have elen : es.length = ds.length := by rw [← g1.length, r.length]
  refine ⟨Z, [], [], es, HeapOk.empty hk.ex, by rw [eqz]; exact g1, elen.trans hn, ?_⟩
  have old : ∀ {m2 H2}, Ext Z [] H m2 H2 → ∀ a o, a ∉ Z → H a = some o → H2 a = some o ∧ a ∉ m2 := fun {m2 H2} ex a o nz e => by
    have q := hide_some (ex.st a o (by rw [eqz]; exact hide_of nz e))
    exact ⟨q.2, fun z => q.1 (List.mem_append_right _ z)⟩
  have cellsE : ∀ {m2 H2}, Ext Z [] H m2 H2 → ∀ a ∈ m, H2 a = H a := fun {m2 H2} ex a ha => by
    obtain ⟨o, e⟩ := hk.there (List.mem_append_right Z ha)
    rw [(old ex a o (hk.dj a ha) e).1, e]
  cases e : F es [] with
  | ok d hc =>
    rw [e] at p
    intro v m2 H2 ex hk2 r2
    split at p
    · rename_i k hh he
      cases he
      split at p
      · rename_i xs hx
        split at p
        · rename_i hfx
          unfold Rep at r2
          obtain ⟨a, hm, rfl⟩ := r2
          have hma := List.mem_of_getElem? hm
          have hnm : a ∉ m := fun z => by
            obtain ⟨o, eo⟩ := hk.there (List.mem_append_right Z z)
            exact (old ex a o (hk.dj a z) eo).2 hma
          have hnz : a ∉ Z := hk2.dj a hma
          obtain ⟨ws, w1, w2⟩ := hk2.cell k _ a hx hm
          have pre : ∀ (n : Nat) b, m[n]? = some b → (m ++ [a])[n]? = some b := fun n b e => by
            obtain ⟨q, _⟩ := List.getElem?_eq_some_iff.mp e
            rw [List.getElem?_append_left q]; exact e
          have sub2 : Sub (hide (Z ++ m) H) (hide (Z ++ (m ++ [a])) H2) := fun b o eb => by
            obtain ⟨q1, q2⟩ := hide_some eb
            have nz : b ∉ Z := fun z => q1 (List.mem_append_left _ z)
            obtain ⟨q3, q4⟩ := old ex b o nz q2
            refine hide_of (fun z => ?_) q3
            rcases List.mem_append.mp z with z | z
            · exact nz z
            · rcases List.mem_append.mp z with z | z
              · exact q1 (List.mem_append_right _ z)
              · rw [List.mem_singleton.mp z] at q4; exact q4 hma
          have subt : SubT K (hide (Z ++ m2) H2) (hide (Z ++ (m ++ [a])) H2) := fun b ys q => by
            have nm : ∀ {u : HO}, hide (Z ++ m2) H2 b = some u → ((∃ ys, u = .tup ys) ∨ ∃ o w, u = .frz o (.tup w)) → hide (Z ++ (m ++ [a])) H2 b = some u := fun {u} eb n1 => by
              obtain ⟨q1, q2⟩ := hide_some eb
              refine hide_of (fun z => ?_) q2
              rcases List.mem_append.mp z with z | z
              · exact q1 (List.mem_append_left _ z)
              · rcases List.mem_append.mp z with z | z
                · obtain ⟨j, hj, ej⟩ := List.mem_iff_getElem.mp z
                  have hc' : j < h.length := by rw [← hk.len]; exact hj
                  have cr := hk.cell j _ b (List.getElem?_eq_getElem hc') (by rw [List.getElem?_eq_getElem hj, ej])
                  have eH : H b = some u := by rw [← cellsE ex b z]; exact q2
                  rcases n1 with ⟨ys, rfl⟩ | ⟨o, w, rfl⟩
                  · exact cr.what.1 _ eH
                  · exact cr.what.2 _ _ eH
                · rw [List.mem_singleton.mp z] at q1; exact q1 (List.mem_append_right _ hma)
            rcases q with (q | ⟨o, q⟩) | q
            · exact .inl (.inl (nm q (.inl ⟨_, rfl⟩)))
            · exact .inl (.inr ⟨o, nm q (.inr ⟨_, _, rfl⟩)⟩)
            · exact .inr q
          refine p (.ref a) (m ++ [a]) H2 ⟨pre, sub2, ex.zs, ex.fr⟩ ⟨by simp [hk.len], ?_, fun b hb z => ?_, fun b hb => by rw [ex.zs b hb]; exact hk.ex b hb, fun j c b h1 h2 => ?_⟩ ?_
          · refine List.nodup_append.mpr ⟨hk.nd, by simp, fun x hx y hy z => ?_⟩
            rw [List.mem_singleton.mp hy] at z
            subst z
            exact hnm hx
          · rcases List.mem_append.mp hb with q | q
            · exact hk.dj b q z
            · rw [List.mem_singleton.mp q] at z; exact hnz z
          · by_cases hj : j < m.length
            · rw [List.getElem?_append_left hj] at h2
              rw [List.getElem?_append_left (by rw [← hk.len]; exact hj)] at h1
              exact CellR.mono pre sub2 (cellsE ex b (List.mem_of_getElem? h2)) (hk.cell j c b h1 h2)
            · have hj2 : j = m.length := by
                obtain ⟨q, _⟩ := List.getElem?_eq_some_iff.mp h2
                simp at q
                omega
              subst hj2
              rw [List.getElem?_append_right (Nat.le_refl _), Nat.sub_self] at h2
              rw [hk.len, List.getElem?_append_right (Nat.le_refl _), Nat.sub_self] at h1
              cases h1
              cases h2
              exact ⟨ws, w1, RepL.flat subt xs ws w2 hfx⟩
          · unfold Rep
            exact ⟨a, by rw [← hk.len, List.getElem?_append_right (Nat.le_refl _), Nat.sub_self]; rfl, rfl⟩
        · exact p.elim
      · exact p.elim
    · rename_i he; cases he
    · exact p.elim
  | exc c hc =>
    rw [e] at p
    intro m2 H2 cls ex hk2 hcls
    have st : Sub (hide (Z ++ m) H) (hide (Z ++ m) H2) := fun a o e => by
      obtain ⟨q1, q2⟩ := hide_some e
      exact hide_of q1 (old ex a o (fun z => q1 (List.mem_append_left _ z)) q2).1
    exact p m H2 cls ⟨fun _ _ e => e, st, ex.zs, ex.fr⟩ ⟨hk.len, hk.nd, hk.dj, fun a ha => by rw [ex.zs a ha]; exact hk.ex a ha, fun k c a h1 h2 => CellR.mono (fun _ _ e => e) st (cellsE ex a (List.mem_of_getElem? h2)) (hk.cell k c a h1 h2)⟩ hcls
  | bad => rw [e] at p; exact p
theorem callN_sp (hk : HeapOk K mg Z m h H) (r : RepL K mg m (hide (Z ++ m) H) ds vs) (p : Post K mg W σ Z m H (callN n F ds h) Q) : spF K mg n F vs H Q (fun c d H' => W c d σ H') := by
  unfold callN at p
  split at p
  · rename_i hn
    split at p
    · rename_i hnr
      exact callN_nr hk r hn hnr p
    · split at p
      · rename_i es hes
        exact callN_fz hk r hn hes p
      · exact p.elim
  · exact p.elim
end
/-! ### a callee with cells of its own and the defs' tables -/
def tabsOf : CH → CH
  | .tab q :: r => .tab q :: tabsOf r
  | _ => []
theorem tabsOf_app : ∀ h : CH, ∃ r, h = tabsOf h ++ r
  | [] => ⟨[], rfl⟩
  | .tab q :: r => let ⟨t, e⟩ := tabsOf_app r; ⟨t, by show Cell.tab q :: r = Cell.tab q :: (tabsOf r ++ t); rw [← e]⟩
  | .lst xs :: r => ⟨_, rfl⟩
  | .ins c ns xs :: r => ⟨_, rfl⟩
  | .dS ks xs :: r => ⟨_, rfl⟩
  | .dM b ks xs :: r => ⟨_, rfl⟩
theorem tabsOf_tab : ∀ {h : CH} {k : Nat} {c : Cell}, (tabsOf h)[k]? = some c → ∃ q, c = .tab q
  | [], k, c, e => by simp [tabsOf] at e
  | .tab q :: r, 0, c, e => by
    have e : some (Cell.tab q) = some c := e
    cases e; exact ⟨q, rfl⟩
  | .tab q :: r, k + 1, c, e => tabsOf_tab (h := r) (k := k) (by simpa [tabsOf] using e)
  | .lst xs :: r, k, c, e => by simp [tabsOf] at e
  | .ins _ _ _ :: r, k, c, e => by simp [tabsOf] at e
  | .dS _ _ :: r, k, c, e => by simp [tabsOf] at e
  | .dM _ _ _ :: r, k, c, e => by simp [tabsOf] at e
def Cell.noM : Cell → Bool
  | .dM _ _ _ => false
  | _ => true
open Classical in
noncomputable def callT (n : Nat) (F : FD) (ds : List D) : M D := fun h =>
  if ds.length = n then
    (if D.nrL ds = true then
      (match F ds (tabsOf h) with
        | .ok d h' => if ∃ r, h' = tabsOf h ++ r then (match fz h' d with
          | some d' => .ok d' h
          | none => .bad) else .bad
        | .exc c h' => if ∃ r, h' = tabsOf h ++ r then .exc c h else .bad
        | .bad => .bad)
    else if h.all Cell.noM = true then (match mapO (fz h) ds with
      | some es => (match F es (tabsOf h) with
        | .ok d h' => if ∃ r, h' = tabsOf h ++ r then (if d.flat = true then .ok d h else (match own h' d with
          | some d' => .ok d' h
          | none => .bad)) else .bad
        | .exc c h' => if ∃ r, h' = tabsOf h ++ r then .exc c h else .bad
        | .bad => .bad)
      | none => .bad) else .bad)
  else .bad
section
variable {K : PySem.W.Frag} {mg : Str → Option Value} {Z Z1 m m2 : List Addr} {H H2 : Hp} {h h' : CH} {W : WX} {σ : L2.St} {Q : VK} {n t : Nat} {F : FD} {ds : List D} {vs : List V}
/-- Z1: what the callee doesn't see: Z, and the caller's cells or none -/
structure TabIn (Z Z1 m : List Addr) (h : CH) : Prop where
  sub : ∀ a ∈ Z, a ∈ Z1
  in_ : ∀ a ∈ Z1, a ∈ Z ∨ a ∈ m.drop (tabsOf h).length
  or_ : (∀ a ∈ m.drop (tabsOf h).length, a ∈ Z1) ∨ h.all Cell.noM = true
theorem take_drop_ne {α : Type} {m : List α} (nd : m.Nodup) {t : Nat} {a : α} (h1 : a ∈ m.take t) (h2 : a ∈ m.drop t) : False := by
  have := List.nodup_append.mp ((List.take_append_drop t m).symm ▸ nd)
  exact this.2.2 a h1 a h2 rfl
theorem mem_td {α : Type} {m : List α} (t : Nat) {a : α} (h : a ∈ m) : a ∈ m.take t ∨ a ∈ m.drop t := by
  rw [← List.take_append_drop t m] at h
  exact List.mem_append.mp h
theorem tabs_le (hk : HeapOk K mg Z m h H) : (tabsOf h).length ≤ m.length := by
  obtain ⟨r, e⟩ := tabsOf_app h
  have := congrArg List.length e
  rw [List.length_append] at this
  rw [hk.len]; omega
theorem tabs_get {k : Nat} {c : Cell} (e : (tabsOf h)[k]? = some c) : h[k]? = some c := by
  obtain ⟨r, e2⟩ := tabsOf_app h
  have hl := (List.getElem?_eq_some_iff.mp e).1
  rw [e2, List.getElem?_append_left hl]
  exact e
theorem TabIn.ok (x : TabIn Z Z1 m h) (hk : HeapOk K mg Z m h H) : HeapOk K mg Z1 (m.take (tabsOf h).length) (tabsOf h) H := by
  have hl := tabs_le hk
  refine ⟨by rw [List.length_take]; omega, hk.nd.sublist (List.take_sublist _ _), fun a ha z => ?_, fun a ha => ?_, fun k c a h1 h2 => ?_⟩
  · rcases x.in_ a z with z | z
    · exact hk.dj a (List.mem_of_mem_take ha) z
    · exact take_drop_ne hk.nd ha z
  · rcases x.in_ a ha with z | z
    · exact hk.ex a z
    · exact hk.there (List.mem_append_right _ (List.mem_of_mem_drop z))
  · obtain ⟨q, rfl⟩ := tabsOf_tab h1
    have hm : m[k]? = some a := by
      have := (List.getElem?_eq_some_iff.mp h2).1
      rw [List.length_take] at this
      rw [List.getElem?_take_of_lt (by omega)] at h2
      exact h2
    obtain ⟨c, ps, g1, g2, g3, g4⟩ := hk.cell k _ a (tabs_get h1) hm
    refine ⟨c, ps, g1, g2, g3, fun pos cv hc => ?_⟩
    obtain ⟨c', e1, e2⟩ := g4 pos cv hc
    obtain ⟨e3, e4⟩ := hide_some e2
    refine ⟨c', e1, hide_of (fun z => e3 ?_) e4⟩
    rcases List.mem_append.mp z with z | z
    · rcases x.in_ _ z with z | z
      · exact List.mem_append_left _ z
      · exact List.mem_append_right _ (List.mem_of_mem_drop z)
    · exact List.mem_append_right _ (List.mem_of_mem_take z)
/-- what the caller sees behind the callee -/
theorem TabIn.back (x : TabIn Z Z1 m h) (hk : HeapOk K mg Z m h H) (ex : Ext Z1 (m.take (tabsOf h).length) H m2 H2) (hk2 : HeapOk K mg Z1 m2 h' H2) (hp : ∃ r, h' = tabsOf h ++ r) : Ext Z m H m H2 ∧ HeapOk K mg Z m h H2 ∧ (∀ (k : Nat) a, m2[k]? = some a → Dat h' k → a ∉ Z ++ m) ∧ ∀ a ∈ m, ∃ c, c ∈ h ∧ CellR K mg m (hide (Z ++ m) H2) H2 a c := by
  obtain ⟨r, hr⟩ := hp
  have out : ∀ a, a ∉ Z ++ m → a ∉ Z1 ++ m.take (tabsOf h).length := fun a n z => by
    rcases List.mem_append.mp z with z | z
    · rcases x.in_ _ z with z | z
      · exact n (List.mem_append_left _ z)
      · exact n (List.mem_append_right _ (List.mem_of_mem_drop z))
    · exact n (List.mem_append_right _ (List.mem_of_mem_take z))
  have st : Sub (hide (Z ++ m) H) (hide (Z ++ m) H2) := fun a o e => by
    obtain ⟨q1, q2⟩ := hide_some e
    exact hide_of q1 (hide_some (ex.st a o (hide_of (out a q1) q2))).2
  have t2 : ∀ a ∈ m.take (tabsOf h).length, a ∈ m2 := fun a ha => by
    obtain ⟨k, hk', e⟩ := List.mem_iff_getElem.mp ha
    exact List.mem_of_getElem? (ex.pre k a (by rw [List.getElem?_eq_getElem hk', e]))
  -- a cell beyond the tables
  have rest : ∀ a ∈ m.drop (tabsOf h).length, H2 a = H a := fun a ha => by
    by_cases hz : a ∈ Z1
    · exact ex.zs a hz
    · obtain ⟨o, e⟩ := hk.there (List.mem_append_right Z (List.mem_of_mem_drop ha))
      have q := ex.st a o (hide_of (fun z => (List.mem_append.mp z).elim hz fun z => take_drop_ne hk.nd z ha) e)
      rw [(hide_some q).2, e]
  have cellB : ∀ k c a, h[k]? = some c → m[k]? = some a → a ∈ m.drop (tabsOf h).length → CellR K mg m (hide (Z ++ m) H2) H2 a c := fun k c a h1 h2 ha => CellR.mono (fun _ _ e => e) st (rest a ha) (hk.cell k c a h1 h2)
  have atT : ∀ (k : Nat) a, m[k]? = some a → k < (tabsOf h).length → (m.take (tabsOf h).length)[k]? = some a := fun k a e hl => by rw [List.getElem?_take_of_lt hl]; exact e
  have atD : ∀ (k : Nat) a, m[k]? = some a → ¬ k < (tabsOf h).length → a ∈ m.drop (tabsOf h).length := fun k a e hl => by
    refine List.mem_of_getElem? (i := k - (tabsOf h).length) ?_
    rw [List.getElem?_drop]
    have : (tabsOf h).length + (k - (tabsOf h).length) = k := by omega
    rw [this]; exact e
  have cell : ∀ k c a, h[k]? = some c → m[k]? = some a → CellR K mg m (hide (Z ++ m) H2) H2 a c := fun k c a h1 h2 => by
    by_cases hl : k < (tabsOf h).length
    · have h1' : (tabsOf h)[k]? = some c := by
        have e := tabs_get (h := h) (List.getElem?_eq_getElem hl)
        rw [h1] at e
        rw [List.getElem?_eq_getElem hl]
        exact e.symm
      obtain ⟨q, rfl⟩ := tabsOf_tab h1'
      have g := hk2.cell k (.tab q) a (by rw [hr, List.getElem?_append_left hl]; exact h1') (ex.pre k a (atT k a h2 hl))
      obtain ⟨c, ps, g1, g2, g3, g4⟩ := g
      refine ⟨c, ps, g1, g2, g3, fun pos cv hc => ?_⟩
      obtain ⟨c', e1, e2⟩ := g4 pos cv hc
      obtain ⟨e3, e4⟩ := hide_some e2
      refine ⟨c', e1, hide_of (fun z => ?_) e4⟩
      rcases List.mem_append.mp z with z | z
      · exact e3 (List.mem_append_left _ (x.sub _ z))
      · rcases mem_td (tabsOf h).length z with z | z
        · exact e3 (List.mem_append_right _ (t2 _ z))
        · rcases x.or_ with o | o
          · exact e3 (List.mem_append_left _ (o _ z))
          · obtain ⟨j, hj, ej⟩ := List.mem_iff_getElem.mp (List.mem_of_mem_drop z)
            have hj2 : j < h.length := by rw [← hk.len]; exact hj
            have cr := cellB j _ c' (List.getElem?_eq_getElem hj2) (by rw [List.getElem?_eq_getElem hj, ej]) z
            have nM := List.all_eq_true.mp o _ (List.getElem_mem hj2)
            generalize h[j] = cc at cr nM
            unfold LamX.CodeO at e4
            cases cc with
            | lst xs => obtain ⟨_, g, _⟩ := cr; rw [e4] at g; cases g
            | ins c ns xs => obtain ⟨_, _, _, g, _⟩ := cr; rw [e4] at g; cases g
            | tab q => obtain ⟨_, _, _, g, _⟩ := cr; rw [e4] at g; cases g
            | dS ks xs => obtain ⟨_, g, _⟩ := cr; rw [e4] at g; cases g
            | dM b ks xs => cases nM
    · exact cellB k c a h1 h2 (atD k a h2 hl)
  refine ⟨⟨fun _ _ e => e, st, fun a ha => ex.zs a (x.sub a ha), ex.fr⟩, ⟨hk.len, hk.nd, hk.dj, fun a ha => by rw [ex.zs a (x.sub a ha)]; exact hk.ex a ha, cell⟩, fun k a hm hd z => ?_, fun a ha => ?_⟩
  · rcases List.mem_append.mp z with z | z
    · exact hk2.dj a (List.mem_of_getElem? hm) (x.sub a z)
    · rcases mem_td (tabsOf h).length z with z | z
      · obtain ⟨j, hj, ej⟩ := List.mem_iff_getElem.mp z
        have e2 := ex.pre j a (by rw [List.getElem?_eq_getElem hj, ej])
        have jk : j = k := L2.nd_ix hk2.nd e2 hm
        subst jk
        have hl : j < (tabsOf h).length := by rw [List.length_take] at hj; omega
        have e3 : h'[j]? = (tabsOf h)[j]? := by rw [hr, List.getElem?_append_left hl]
        obtain ⟨q, e4⟩ := tabsOf_tab (List.getElem?_eq_getElem hl)
        rw [List.getElem?_eq_getElem hl, e4] at e3
        rcases hd with ⟨xs, e⟩ | ⟨c, ns, xs, e⟩ <;> rw [e3] at e <;> cases e
      · by_cases hz : a ∈ Z1
        · exact hk2.dj a (List.mem_of_getElem? hm) hz
        · obtain ⟨o, e⟩ := hk.there (List.mem_append_right Z (List.mem_of_mem_drop z))
          have q := ex.st a o (hide_of (fun y => (List.mem_append.mp y).elim hz fun y => take_drop_ne hk.nd y z) e)
          exact (hide_some q).1 (List.mem_append_right _ (List.mem_of_getElem? hm))
  · obtain ⟨k, hk', e⟩ := List.mem_iff_getElem.mp ha
    have hc : k < h.length := by rw [← hk.len]; exact hk'
    exact ⟨h[k], List.getElem_mem hc, cell k _ a (List.getElem?_eq_getElem hc) (by rw [List.getElem?_eq_getElem hk', e])⟩
theorem callT_sp (hk : HeapOk K mg Z m h H) (r : RepL K mg m (hide (Z ++ m) H) ds vs) (p : Post K mg W σ Z m H (callT n F ds h) Q) : spF K mg n F vs H Q (fun c d H' => W c d σ H') := by
  unfold callT at p
  split at p
  · rename_i hn
    split at p
    · rename_i hnr
      have x : TabIn Z (Z ++ m.drop (tabsOf h).length) m h := ⟨fun a ha => List.mem_append_left _ ha, fun a ha => List.mem_append.mp ha, .inl fun a ha => List.mem_append_right _ ha⟩
      have seen : ∀ {a : Addr}, a ∉ Z ++ m → a ∉ (Z ++ m.drop (tabsOf h).length) ++ m.take (tabsOf h).length := fun {a} q z => q (by
        rcases List.mem_append.mp z with z | z
        · rcases List.mem_append.mp z with z | z
          · exact List.mem_append_left _ z
          · exact List.mem_append_right _ (List.mem_of_mem_drop z)
        · exact List.mem_append_right _ (List.mem_of_mem_take z))
      refine ⟨_, _, _, ds, x.ok hk, RepL.nr (fun a o e => let ⟨q1, q2⟩ := hide_some e; hide_of (seen q1) q2) ds vs r hnr, hn, ?_⟩
      cases e : F ds (tabsOf h) with
      | ok d hc =>
        rw [e] at p
        dsimp only at p
        intro v m2 H2 ex hk2 r2
        split at p
        · rename_i hp
          obtain ⟨b1, b2, b3, b4⟩ := x.back hk ex hk2 hp
          cases e2 : fz hc d with
          | none => rw [e2] at p; exact p.elim
          | some d' =>
            rw [e2] at p
            refine p v m H2 b1 b2 (fzF_rep (S' := hide (Z ++ m) H2) (m' := m) hk2 (fun a o e => ?_) (fun k a o hm hd e => hide_of (b3 k a hm hd) e) 12 d v d' e2 r2).1
            obtain ⟨q1, q2⟩ := hide_some e
            refine hide_of (fun z => q1 ?_) q2
            rcases List.mem_append.mp z with z | z
            · exact List.mem_append_left _ (List.mem_append_left _ z)
            · rcases mem_td (tabsOf h).length z with z | z
              · obtain ⟨k, hk', e⟩ := List.mem_iff_getElem.mp z
                exact List.mem_append_right _ (List.mem_of_getElem? (ex.pre k a (by rw [List.getElem?_eq_getElem hk', e])))
              · exact List.mem_append_left _ (List.mem_append_right _ z)
        · exact p.elim
      | exc c hc =>
        rw [e] at p
        dsimp only at p
        intro m2 H2 cls ex hk2 hcls
        split at p
        · rename_i hp
          obtain ⟨b1, b2, _⟩ := x.back hk ex hk2 hp
          exact p m H2 cls b1 b2 hcls
        · exact p.elim
      | bad => rw [e] at p; exact p
    · split at p
      · rename_i hnm
        split at p
        · rename_i es hes
          have x : TabIn Z Z m h := ⟨fun a ha => ha, fun a ha => .inl ha, .inr hnm⟩
          have go : ∀ (k : Nat) a o, m[k]? = some a → Dat h k → H a = some o → hide (Z ++ m.take (tabsOf h).length) H a = some o := fun k a o hm hd e => by
            refine hide_of (fun z => ?_) e
            rcases List.mem_append.mp z with z | z
            · exact hk.dj a (List.mem_of_getElem? hm) z
            · obtain ⟨j, hj, ej⟩ := List.mem_iff_getElem.mp z
              have hl : j < (tabsOf h).length := by rw [List.length_take] at hj; omega
              have e2 : m[j]? = some a := by
                have := List.getElem?_eq_getElem hj
                rw [List.getElem?_take_of_lt hl, ej] at this
                exact this
              have jk : j = k := L2.nd_ix hk.nd e2 hm
              subst jk
              obtain ⟨q, e4⟩ := tabsOf_tab (List.getElem?_eq_getElem hl)
              have e3 := tabs_get (h := h) (List.getElem?_eq_getElem hl)
              rw [e4] at e3
              rcases hd with ⟨xs, e⟩ | ⟨c, ns, xs, e⟩ <;> rw [e3] at e <;> cases e
          have st0 : Sub (hide (Z ++ m) H) (hide (Z ++ m.take (tabsOf h).length) H) := fun a o e => by
            obtain ⟨q1, q2⟩ := hide_some e
            exact hide_of (fun z => q1 ((List.mem_append.mp z).elim (List.mem_append_left _) fun z => List.mem_append_right _ (List.mem_of_mem_take z))) q2
          obtain ⟨g1, g2⟩ := mapO_rep (n := 0) (m' := m.take (tabsOf h).length) (S' := hide (Z ++ m.take (tabsOf h).length) H) (fun d v d' q r => fzF_rep hk st0 go 12 d v d' q r) hes r
          have elen : es.length = ds.length := by rw [← g1.length, r.length]
          refine ⟨Z, _, _, es, x.ok hk, g1, elen.trans hn, ?_⟩
          cases e : F es (tabsOf h) with
          | ok d hc =>
            rw [e] at p
            dsimp only at p
            intro v m2 H2 ex hk2 r2
            split at p
            · rename_i hp
              obtain ⟨b1, b2, b3, b4⟩ := x.back hk ex hk2 hp
              have subt : SubT K (hide (Z ++ m2) H2) (hide (Z ++ m) H2) := fun a xs q => by
                have nm : ∀ {u : HO}, hide (Z ++ m2) H2 a = some u → ((∃ ys, u = .tup ys) ∨ ∃ o w, u = .frz o (.tup w)) → hide (Z ++ m) H2 a = some u := fun {u} e n1 => by
                  obtain ⟨q1, q2⟩ := hide_some e
                  refine hide_of (fun z => ?_) q2
                  rcases List.mem_append.mp z with z | z
                  · exact q1 (List.mem_append_left _ z)
                  · obtain ⟨c, _, cr⟩ := b4 a z
                    rcases n1 with ⟨ys, rfl⟩ | ⟨o, w, rfl⟩
                    · exact cr.what.1 _ q2
                    · exact cr.what.2 _ _ q2
                rcases q with (q | ⟨o, q⟩) | q
                · exact .inl (.inl (nm q (.inl ⟨_, rfl⟩)))
                · exact .inl (.inr ⟨o, nm q (.inr ⟨_, _, rfl⟩)⟩)
                · exact .inr q
              split at p
              · rename_i hfl
                exact p v m H2 b1 b2 (Rep.flat subt d v r2 hfl)
              · cases eo : own hc d with
                | none => rw [eo] at p; exact p.elim
                | some d' =>
                  rw [eo] at p
                  refine p v m H2 b1 b2 ?_
                  unfold own at eo
                  split at eo
                  · rename_i k hnf
                    unfold Rep at r2
                    obtain ⟨a, hm, rfl⟩ := r2
                    split at eo
                    · rename_i xs hx
                      split at eo
                      · rename_i hfx
                        cases eo
                        obtain ⟨vs, h1, h2⟩ := hk2.cell k _ a hx hm
                        unfold Rep
                        exact ⟨a, vs, rfl, hide_of (b3 k a hm (.inl ⟨_, hx⟩)) h1, RepL.flat subt xs vs h2 hfx⟩
                      · cases eo
                    · rename_i c ns xs hx
                      split at eo
                      · rename_i hfx
                        cases eo
                        obtain ⟨C, dx, fs, h1, e2, e3, h4⟩ := hk2.cell k _ a hx hm
                        unfold Rep
                        exact ⟨a, C, dx, fs, rfl, hide_of (b3 k a hm (.inr ⟨_, _, _, hx⟩)) h1, e2, e3, RepL.flat subt xs _ h4 hfx⟩
                      · cases eo
                    · cases eo
                  · cases eo
            · exact p.elim
          | exc c hc =>
            rw [e] at p
            dsimp only at p
            intro m2 H2 cls ex hk2 hcls
            split at p
            · rename_i hp
              obtain ⟨b1, b2, _⟩ := x.back hk ex hk2 hp
              exact p m H2 cls b1 b2 hcls
            · exact p.elim
          | bad => rw [e] at p; exact p
        · exact p.elim
      · exact p.elim
  · exact p.elim
end
/-! ### a callee that sees instances as they are, and returns lists -/
mutual
def D.listy : D → Bool
  | .non => true | .bl _ => true | .int _ => true | .str _ => true
  | .tup xs => D.listyL xs
  | .lst xs => D.listyL xs
  | .scr _ => false | .obj _ _ _ => false | .ref _ => false
def D.listyL : List D → Bool
  | [] => true
  | d :: ds => d.listy && D.listyL ds
end
/-- an instance as it is -/
def fzIF : Nat → CH → D → Option D
  | 0, _, _ => none
  | n + 1, h, d => if d.nr = true then some d else match d with
    | .ref k => (match h[k]? with
      | some (.ins c ns xs) => (match mapO (fzIF n h) xs with
        | some ys => some (.obj c ns ys)
        | none => none)
      | _ => none)
    | _ => none
def fzI (h : CH) (d : D) : Option D := fzIF 3 h d
def callQ (n : Nat) (F : FD) (ds : List D) : M D := fun h =>
  if ds.length = n then
    (if D.nrL ds = true then callP n F ds h
    else match mapO (fzI h) ds with
      | some es => (match F es [] with
        | .ok d h' => (match fz h' d with
          | some d' => if d'.listy = true then .ok d' h else .bad
          | none => .bad)
        | .exc c _ => .exc c h
        | .bad => .bad)
      | none => .bad)
  else .bad
section
variable {K : PySem.W.Frag} {mg : Str → Option Value} {Z m m' : List Addr} {H : Hp} {h : CH} {W : WX} {σ : L2.St} {Q : VK} {n : Nat} {F : FD} {ds : List D} {vs : List V} {S S' : Hp}
mutual
theorem Rep.listy (hs : SubT K S S') (hl : ∀ a xs, S a = some (.lst xs) → S' a = some (.lst xs)) : ∀ (d : D) (v : V), Rep K mg m S d v → d.listy = true → Rep K mg m' S' d v
  | .non, v, h, _ => by simpa [Rep] using h
  | .bl b, v, h, _ => by simpa [Rep] using h
  | .int b, v, h, _ => by simpa [Rep] using h
  | .str b, v, h, _ => by simpa [Rep] using h
  | .tup xs, v, h, q => by
    unfold Rep at h ⊢
    obtain ⟨a, vs, e, g, r⟩ := h
    exact ⟨a, vs, e, hs _ _ g, RepL.listy hs hl xs vs r (by simpa [D.listy] using q)⟩
  | .lst xs, v, h, q => by
    unfold Rep at h ⊢
    obtain ⟨a, vs, e, g, r⟩ := h
    exact ⟨a, vs, e, hl _ _ g, RepL.listy hs hl xs vs r (by simpa [D.listy] using q)⟩
  | .scr xs, v, h, q => by simp [D.listy] at q
  | .obj c ns xs, v, h, q => by simp [D.listy] at q
  | .ref n, v, h, q => by simp [D.listy] at q
theorem RepL.listy (hs : SubT K S S') (hl : ∀ a xs, S a = some (.lst xs) → S' a = some (.lst xs)) : ∀ (ds : List D) (vs : List V), RepL K mg m S ds vs → D.listyL ds = true → RepL K mg m' S' ds vs
  | [], vs, h, _ => by rw [h.of_nil]; exact RepL.nil
  | d :: ds, vs, h, q => by
    obtain ⟨v, r, rfl, a, b⟩ := h.of_cons
    have q' : d.listy = true ∧ D.listyL ds = true := by simpa [D.listyL] using q
    exact RepL.cons (Rep.listy hs hl d v a q'.1) (RepL.listy hs hl ds r b q'.2)
end
/-- the addresses of cells that are no instances -/
noncomputable def noIns (m : List Addr) (H : Hp) : List Addr := by
  classical exact m.filter fun a => decide (¬ ∃ C dx fs, H a = some (.ins C dx fs))
theorem noIns_sub {a : Addr} (h : a ∈ noIns m H) : a ∈ m := by
  classical exact (List.mem_filter.mp h).1
theorem noIns_ins {a : Addr} (ha : a ∈ m) (h : a ∉ noIns m H) : ∃ C dx fs, H a = some (.ins C dx fs) := by
  classical
  by_cases q : ∃ C dx fs, H a = some (.ins C dx fs)
  · exact q
  · exact absurd (List.mem_filter.mpr ⟨ha, decide_eq_true q⟩) h
theorem noIns_not {a : Addr} {C : Addr} {dx : Addr} {fs : List (Str × V)} (e : H a = some (.ins C dx fs)) : a ∉ noIns m H := fun z => by
  classical
  have := (List.mem_filter.mp z).2
  rw [decide_eq_true_iff] at this
  exact this ⟨_, _, _, e⟩
theorem fzI_repU (hk : HeapOk K mg Z m h H) {m1 Z1 : List Addr} (hs : ∀ a ∈ Z1 ++ m1, a ∈ Z ++ m) (hi : ∀ (k : Nat) a C dx fs, m[k]? = some a → (∃ c ns xs, h[k]? = some (.ins c ns xs)) → H a = some (.ins C dx fs) → a ∉ Z1 ++ m1) : ∀ (n : Nat) {d : D} {v : V} {d' : D}, fzIF n h d = some d' → Rep K mg m (hide (Z ++ m) H) d v → Rep K mg m' (hide (Z1 ++ m1) H) d' v ∧ d'.nr = true
  | 0, d, v, d', e, _ => by cases e
  | n + 1, d, v, d', e, r => by
    have st : Sub (hide (Z ++ m) H) (hide (Z1 ++ m1) H) := fun a o eo => by
      obtain ⟨q1, q2⟩ := hide_some eo
      exact hide_of (fun z => q1 (hs a z)) q2
    have ih := fun d v d' => fzI_repU hk hs hi n (d := d) (v := v) (d' := d')
    unfold fzIF at e
    split at e
    · rename_i hn
      cases e
      exact ⟨Rep.nr st _ v r hn, hn⟩
    · split at e
      · rename_i k _
        split at e
        · rename_i c ns xs ec
          cases e1 : mapO (fzIF n h) xs with
          | none => rw [e1] at e; cases e
          | some ys =>
            rw [e1] at e
            cases e
            unfold Rep at r
            obtain ⟨a, hm, rfl⟩ := r
            obtain ⟨C, dx, fs, h1, e2, e3, h4⟩ := hk.cell k _ a ec hm
            obtain ⟨g1, g2⟩ := mapO_rep (n := n) (fun d v d' q r => ih d v d' q r) e1 h4
            refine ⟨?_, g2⟩
            unfold Rep
            exact ⟨a, C, dx, fs, rfl, hide_of (hi k a _ _ _ hm ⟨_, _, _, ec⟩ h1) h1, e2, e3, g1⟩
        · cases e
      · cases e
theorem fzI_rep (hk : HeapOk K mg Z m h H) {d : D} {v : V} {d' : D} (e : fzI h d = some d') (r : Rep K mg m (hide (Z ++ m) H) d v) : Rep K mg [] (hide (Z ++ noIns m H) H) d' v ∧ d'.nr = true := by
  have g := fzI_repU (m' := []) hk (m1 := noIns m H) (Z1 := Z) (fun a ha => by
    rcases List.mem_append.mp ha with z | z
    · exact List.mem_append_left _ z
    · exact List.mem_append_right _ (noIns_sub z)) (fun k a C dx fs hm _ h1 z => by
    rcases List.mem_append.mp z with z | z
    · exact hk.dj a (List.mem_of_getElem? hm) z
    · exact noIns_not h1 z) 3 e r
  exact g
theorem callQ_sp (hk : HeapOk K mg Z m h H) (r : RepL K mg m (hide (Z ++ m) H) ds vs) (p : Post K mg W σ Z m H (callQ n F ds h) Q) : spF K mg n F vs H Q (fun c d H' => W c d σ H') := by
  unfold callQ at p
  split at p
  · rename_i hn
    split at p
    · exact callP_sp hk r p
    · split at p
      · rename_i es hes
        have eqz : hide ((Z ++ noIns m H) ++ []) H = hide (Z ++ noIns m H) H := by rw [List.append_nil]
        obtain ⟨g1, g2⟩ := mapO_rep (n := 0) (m' := []) (S' := hide (Z ++ noIns m H) H) (fun d v d' q r => fzI_rep hk q r) hes r
        have elen : es.length = ds.length := by rw [← g1.length, r.length]
        have exz : ∀ a ∈ Z ++ noIns m H, ∃ o, H a = some o := fun a ha => by
          rcases List.mem_append.mp ha with z | z
          · exact hk.ex a z
          · exact hk.there (List.mem_append_right _ (noIns_sub z))
        refine ⟨Z ++ noIns m H, [], [], es, HeapOk.empty exz, by rw [eqz]; exact g1, elen.trans hn, ?_⟩
        have back : ∀ {m2 h2 H2}, Ext (Z ++ noIns m H) [] H m2 H2 → HeapOk K mg (Z ++ noIns m H) m2 h2 H2 → Ext Z m H m H2 ∧ HeapOk K mg Z m h H2 ∧ (∀ a ∈ m, H2 a = H a) := fun {m2 h2 H2} ex hk2 => by
          have old : ∀ a o, a ∉ Z ++ noIns m H → H a = some o → H2 a = some o := fun a o nz e => (hide_some (ex.st a o (by rw [eqz]; exact hide_of nz e))).2
          have st : Sub (hide (Z ++ m) H) (hide (Z ++ m) H2) := fun a o e => by
            obtain ⟨q1, q2⟩ := hide_some e
            refine hide_of q1 (old a o (fun z => q1 ?_) q2)
            rcases List.mem_append.mp z with z | z
            · exact List.mem_append_left _ z
            · exact List.mem_append_right _ (noIns_sub z)
          have cells : ∀ a ∈ m, H2 a = H a := fun a ha => by
            by_cases z : a ∈ Z ++ noIns m H
            · exact ex.zs a z
            · obtain ⟨o, e⟩ := hk.there (List.mem_append_right Z ha)
              rw [old a o z e, e]
          exact ⟨⟨fun _ _ e => e, st, fun a ha => ex.zs a (List.mem_append_left _ ha), ex.fr⟩, ⟨hk.len, hk.nd, hk.dj, fun a ha => by rw [ex.zs a (List.mem_append_left _ ha)]; exact hk.ex a ha, fun k c a h1 h2 => CellR.mono (fun _ _ e => e) st (cells a (List.mem_of_getElem? h2)) (hk.cell k c a h1 h2)⟩, cells⟩
        cases e : F es [] with
        | ok d hc =>
          rw [e] at p
          dsimp only at p
          intro v m2 H2 ex hk2 r2
          obtain ⟨b1, b2, b3⟩ := back ex hk2
          cases ef : fz hc d with
          | none => rw [ef] at p; exact p.elim
          | some d' =>
            rw [ef] at p
            dsimp only at p
            split at p
            · rename_i hl
              obtain ⟨q1, _⟩ := fz_rep (m' := m) hk2 ef r2
              have key : ∀ a u, hide (Z ++ noIns m H) H2 a = some u → (∀ C dx fs, u ≠ .ins C dx fs) → hide (Z ++ m) H2 a = some u := fun a u e n1 => by
                obtain ⟨w1, w2⟩ := hide_some e
                refine hide_of (fun z => ?_) w2
                rcases List.mem_append.mp z with z | z
                · exact w1 (List.mem_append_left _ z)
                · obtain ⟨C, dx, fs, ei⟩ := noIns_ins z (fun y => w1 (List.mem_append_right _ y))
                  rw [b3 a z, ei] at w2
                  injection w2 with w2
                  exact n1 _ _ _ w2.symm
              refine p v m H2 b1 b2 (Rep.listy ?_ ?_ d' v q1 hl)
              · intro a xs q
                rcases q with (q | ⟨o, q⟩) | q
                · exact .inl (.inl (key a _ q (fun C dx fs z => by cases z)))
                · exact .inl (.inr ⟨o, key a _ q (fun C dx fs z => by cases z)⟩)
                · exact .inr q
              · intro a xs q
                exact key a _ q (fun C dx fs z => by cases z)
            · exact p.elim
        | exc c hc =>
          rw [e] at p
          intro m2 H2 cls ex hk2 hcls
          obtain ⟨b1, b2, _⟩ := back ex hk2
          exact p m H2 cls b1 b2 hcls
        | bad => rw [e] at p; exact p
      · exact p.elim
  · exact p.elim
end
open Classical in
/-- .. with the defs' tables -/
noncomputable def callU (n : Nat) (F : FD) (ds : List D) : M D := fun h =>
  if ds.length = n then
    (if D.nrL ds = true then callT n F ds h
    else if h.all Cell.noM = true then (match mapO (fzI h) ds with
      | some es => (match F es (tabsOf h) with
        | .ok d h' => if ∃ r, h' = tabsOf h ++ r then (match fz h' d with
          | some d' => if d'.listy = true then .ok d' h else .bad
          | none => .bad) else .bad
        | .exc c h' => if ∃ r, h' = tabsOf h ++ r then .exc c h else .bad
        | .bad => .bad)
      | none => .bad) else .bad)
  else .bad
section
variable {K : PySem.W.Frag} {mg : Str → Option Value} {Z m m' : List Addr} {H : Hp} {h : CH} {W : WX} {σ : L2.St} {Q : VK} {n : Nat} {F : FD} {ds : List D} {vs : List V} {S S' : Hp}
theorem callU_sp (hk : HeapOk K mg Z m h H) (r : RepL K mg m (hide (Z ++ m) H) ds vs) (p : Post K mg W σ Z m H (callU n F ds h) Q) : spF K mg n F vs H Q (fun c d H' => W c d σ H') := by
  unfold callU at p
  split at p
  · rename_i hn
    split at p
    · exact callT_sp hk r p
    · split at p
      · rename_i hnm
        split at p
        · rename_i es hes
          obtain ⟨Z1, hZ1⟩ : ∃ Z1, Z1 = Z ++ noIns (m.drop (tabsOf h).length) H := ⟨_, rfl⟩
          have z1 : ∀ a, a ∈ Z1 → a ∈ Z ∨ a ∈ m.drop (tabsOf h).length := fun a ha => by
            rw [hZ1] at ha
            rcases List.mem_append.mp ha with z | z
            · exact .inl z
            · exact .inr (noIns_sub z)
          have x : TabIn Z Z1 m h := ⟨fun a ha => by rw [hZ1]; exact List.mem_append_left _ ha, z1, .inr hnm⟩
          have hs : ∀ a ∈ Z1 ++ m.take (tabsOf h).length, a ∈ Z ++ m := fun a ha => by
            rcases List.mem_append.mp ha with z | z
            · rcases z1 a z with z | z
              · exact List.mem_append_left _ z
              · exact List.mem_append_right _ (List.mem_of_mem_drop z)
            · exact List.mem_append_right _ (List.mem_of_mem_take z)
          have hi : ∀ (k : Nat) a C dx fs, m[k]? = some a → (∃ c ns xs, h[k]? = some (.ins c ns xs)) → H a = some (.ins C dx fs) → a ∉ Z1 ++ m.take (tabsOf h).length := fun k a C dx fs hm hc e z => by
            rcases List.mem_append.mp z with z | z
            · rw [hZ1] at z
              rcases List.mem_append.mp z with z | z
              · exact hk.dj a (List.mem_of_getElem? hm) z
              · exact noIns_not e z
            · obtain ⟨j, hj, ej⟩ := List.mem_iff_getElem.mp z
              have hl : j < (tabsOf h).length := by rw [List.length_take] at hj; omega
              have e2 : m[j]? = some a := by
                have := List.getElem?_eq_getElem hj
                rw [List.getElem?_take_of_lt hl, ej] at this
                exact this
              have jk : j = k := L2.nd_ix hk.nd e2 hm
              subst jk
              obtain ⟨q, e4⟩ := tabsOf_tab (List.getElem?_eq_getElem hl)
              have e3 := tabs_get (h := h) (List.getElem?_eq_getElem hl)
              rw [e4] at e3
              obtain ⟨_, _, _, e⟩ := hc
              rw [e3] at e
              cases e
          obtain ⟨g1, g2⟩ := mapO_rep (n := 0) (m' := m.take (tabsOf h).length) (S' := hide (Z1 ++ m.take (tabsOf h).length) H) (fun d v d' q r => fzI_repU hk hs hi 3 q r) hes r
          have elen : es.length = ds.length := by rw [← g1.length, r.length]
          refine ⟨Z1, _, _, es, x.ok hk, g1, elen.trans hn, ?_⟩
          cases e : F es (tabsOf h) with
          | ok d hc =>
            rw [e] at p
            dsimp only at p
            intro v m2 H2 ex hk2 r2
            split at p
            · rename_i hp
              obtain ⟨b1, b2, b3, b4⟩ := x.back hk ex hk2 hp
              cases ef : fz hc d with
              | none => rw [ef] at p; exact p.elim
              | some d' =>
                rw [ef] at p
                dsimp only at p
                split at p
                · rename_i hl
                  have t2 : ∀ a ∈ m.take (tabsOf h).length, a ∈ m2 := fun a ha => by
                    obtain ⟨k, hk', e⟩ := List.mem_iff_getElem.mp ha
                    exact List.mem_of_getElem? (ex.pre k a (by rw [List.getElem?_eq_getElem hk', e]))
                  have q1 := (fzF_rep (S' := hide (Z1 ++ m.take (tabsOf h).length) H2) (m' := m) hk2 (fun a o e => by
                    obtain ⟨q1, q2⟩ := hide_some e
                    refine hide_of (fun z => q1 ?_) q2
                    rcases List.mem_append.mp z with z | z
                    · exact List.mem_append_left _ z
                    · exact List.mem_append_right _ (t2 a z)) (fun k a o hm hd e => hide_of (fun z => b3 k a hm hd (hs a z)) e) 12 d v d' ef r2).1
                  have key : ∀ a u, hide (Z1 ++ m.take (tabsOf h).length) H2 a = some u → (∀ C dx fs, u ≠ .ins C dx fs) → hide (Z ++ m) H2 a = some u := fun a u e n1 => by
                    obtain ⟨w1, w2⟩ := hide_some e
                    refine hide_of (fun z => ?_) w2
                    rcases List.mem_append.mp z with z | z
                    · exact w1 (List.mem_append_left _ (x.sub a z))
                    · rcases mem_td (tabsOf h).length z with z | z
                      · exact w1 (List.mem_append_right _ z)
                      · obtain ⟨C, dx, fs, ei⟩ := noIns_ins (H := H) z (fun y => w1 (List.mem_append_left _ (by rw [hZ1]; exact List.mem_append_right _ y)))
                        have := (hide_some (ex.st a _ (hide_of w1 ei))).2
                        rw [this] at w2
                        injection w2 with w2
                        exact n1 _ _ _ w2.symm
                  refine p v m H2 b1 b2 (Rep.listy ?_ ?_ d' v q1 hl)
                  · intro a xs q
                    rcases q with (q | ⟨o, q⟩) | q
                    · exact .inl (.inl (key a _ q (fun C dx fs z => by cases z)))
                    · exact .inl (.inr ⟨o, key a _ q (fun C dx fs z => by cases z)⟩)
                    · exact .inr q
                  · intro a xs q
                    exact key a _ q (fun C dx fs z => by cases z)
                · exact p.elim
            · exact p.elim
          | exc c hc =>
            rw [e] at p
            dsimp only at p
            intro m2 H2 cls ex hk2 hcls
            split at p
            · rename_i hp
              obtain ⟨b1, b2, _⟩ := x.back hk ex hk2 hp
              exact p m H2 cls b1 b2 hcls
            · exact p.elim
          | bad => rw [e] at p; exact p
        · exact p.elim
      · exact p.elim
  · exact p.elim
end
/-- how a call is made: callH, callP, callN, callT, callQ or callU -/
def CallOk (c : Nat → FD → List D → M D) : Prop := c = callH ∨ c = callP ∨ c = callN ∨ c = callT ∨ c = callQ ∨ c = callU
theorem call_sp {c : Nat → FD → List D → M D} (hc : CallOk c) {K : PySem.W.Frag} {mg : Str → Option Value} {Z m : List Addr} {H : Hp} {h : CH} {W : WX} {σ : L2.St} {Q : VK} {n : Nat} {F : FD} {ds : List D} {vs : List V} (hk : HeapOk K mg Z m h H) (r : RepL K mg m (hide (Z ++ m) H) ds vs)
    (p : Post K mg W σ Z m H (c n F ds h) Q) : spF K mg n F vs H Q (fun c d H' => W c d σ H') := by
  rcases hc with rfl | rfl | rfl | rfl | rfl | rfl
  · exact callH_sp hk r p
  · exact callP_sp hk r p
  · exact callN_sp hk r p
  · exact callT_sp hk r p
  · exact callQ_sp hk r p
  · exact callU_sp hk r p
/-- denL with the slots kept -/
theorem denS {W : WX} {fs : AD} {r : List V → Hp → Prop} {op : List D → M D} {K : PySem.W.Frag} {mg : Str → Option Value} {σ : L2.St} {H : Hp} {Q : VK} (h : tD K mg W (eCall op fs) σ H Q)
    (hr : ∀ vs H1, (∃ Z m h ds, HeapOk K mg Z m h H1 ∧ RepL K mg m (hide (Z ++ m) H1) ds vs ∧ Post K mg W σ Z m H1 (op ds h) Q) → r vs H1) : tDL K mg W fs σ H (fun vs H1 => r vs H1) := by
  obtain ⟨Z, m, ρ, c, at', p⟩ := h
  exact ⟨Z, m, ρ, c, at', (PostG.bind p).imp fun v H' ⟨d, m', h', ex, hk, rp, _, q⟩ => hr _ _ ⟨Z, m', h', d, hk, rp, q⟩⟩
section
variable {X : Cx} {W : WX} {x : Str} {p pos : Pos} {e : Expr} {es : List Expr} {fs : AD} {f : Addr} {fd : FuncData} {ps : List Str} {k n : Nat} {F : FD} {c : Nat → FD → List D → M D}
theorem se_fn (hc : CallOk c) (tk : Takes X W) (G : FnOk X.prog X.w X.K X.mg X.base (L2.CX X.prog X.w) k f fd ps (spF X.K X.mg n F)) (hr : Room k X.A) (hg : Gl X x) (hm : X.mg x = some (.ref f)) (hk : PySem.W.keepIn X.K (.ref f) = true) (hb : Binds X.K fd ps [])
    (ha : PA X (e :: es) (tDL X.K X.mg W fs)) (hdb : (x == ("__debug__" : Str)) = false := by decide) (he : starEach (e :: es) X.env = (false, eval e X.env) :: starEach es X.env := by rfl) (hpl : (backTo pos (starEach es X.env)).any (·.1) = false := by rfl) :
    PE X (.Call (.Name x p) (e :: es) [] pos) (tD X.K X.mg W (eCall (c n F) fs)) :=
  pick fun σ H Q h => ⟨_, pe_callSD (E := fun σ => L2.WE W σ) G hr hg hm hk hb .nil (fun σ => passAt tk σ) ha hdb he hpl, denS h fun vs H1 ⟨Z, m, c', ds, hk', r, p⟩ => by
    rw [List.append_nil]
    exact call_sp hc hk' r p⟩
end
end FK

/-! part: FK9 -/
set_option Elab.async false
set_option linter.all false
set_option maxRecDepth 100000
set_option maxHeartbeats 4000000
/-! FK9: methods of lists and texts, what is left of the built-ins, the law's end. -/
namespace FK
open PySem PySem.Spec L2

section
variable {K : PySem.W.Frag} {mg : Str → Option Value} {Z m : List Addr} {H : Hp} {h : CH}
theorem nodup_at {α : Type} : ∀ {l : List α} {i j : Nat} {x : α}, l.Nodup → l[i]? = some x → l[j]? = some x → i = j := fun {l i j x} hN a b => L2.nd_ix hN a b
/-- a cell is changed -/
theorem Ext.setc (hk : HeapOk K mg Z m h H) {n : Nat} {a : Addr} {o u : HO} (hm : m[n]? = some a) (hu : H a = some u) (hf : ∀ o w, u ≠ .frz o w := by intro _ _ z; cases z) : Ext Z m H m (upd H a o) := by
  have ha : a ∈ Z ++ m := List.mem_append_right _ (List.mem_of_getElem? hm)
  refine ⟨fun _ _ e => e, fun b u e => ?_, fun b hb => upd_ne fun z => ?_, fun b o w e => by rw [upd_ne (fun z => by rw [z, hu] at e; exact hf _ _ (Option.some.inj e))]; exact e⟩
  · obtain ⟨h1, h2⟩ := hide_some e
    exact hide_of h1 (by rw [upd_ne fun z => h1 (by rw [z]; exact ha)]; exact h2)
  · subst z
    exact hk.dj b (List.mem_of_getElem? hm) hb
theorem HeapOk.setc (hk : HeapOk K mg Z m h H) {n : Nat} {a : Addr} {o u : HO} {c : Cell} (hm : m[n]? = some a) (hu : H a = some u) (hc : CellR K mg m (hide (Z ++ m) (upd H a o)) (upd H a o) a c) (hf : ∀ o w, u ≠ .frz o w := by intro _ _ z; cases z) : HeapOk K mg Z m (h.set n c) (upd H a o) := by
  have ex := Ext.setc (o := o) hk hm hu hf
  refine ⟨by rw [List.length_set]; exact hk.len, hk.nd, hk.dj, fun b hb => by rw [ex.zs b hb]; exact hk.ex b hb, fun k c' b h1 h2 => ?_⟩
  by_cases e : k = n
  · subst e
    rw [hm] at h2
    cases h2
    have hlt : k < h.length := by rw [← hk.len]; exact (List.getElem?_eq_some_iff.mp hm).1
    rw [List.getElem?_set_self hlt] at h1
    cases h1
    exact hc
  · rw [List.getElem?_set_ne (Ne.symm e)] at h1
    have ne : b ≠ a := fun z => e (nodup_at hk.nd (by rw [← z]; exact h2) hm)
    exact CellR.mono ex.pre ex.st (upd_ne ne) (hk.cell k c' b h1 h2)
end

/-! ### methods -/
/-- of a text -/
def eMs (op : Str → List D → M D) (f : ED) (fs : AD) : ED := fun ρ => M.bind (f ρ) fun x h => match x with
  | .str a => M.bind (fs ρ) (op a) h
  | _ => .bad
/-- of a list (of a cell, as a rule) -/
def eMl (op : D → List D → M D) (f : ED) (fs : AD) : ED := fun ρ => M.bind (f ρ) fun x h => match vw h x with
  | .lst _ => M.bind (fs ρ) (op x) h
  | _ => .bad
section
variable (K : PySem.W.Frag) (mg : Str → Option Value) (W : WX)
def rMs (op : Str → List D → M D) : V → List V → Hp → VK → Prop := fun vx vs H Q => ∃ Z m h σ a ds, vx = .str a ∧ PyData.strOk a = true ∧ HeapOk K mg Z m h H ∧ RepL K mg m (hide (Z ++ m) H) ds vs ∧ Post K mg W σ Z m H (op a ds h) Q
end
section
variable {X : Cx} {W : WX} {o e : Expr} {es : List Expr} {f : ED} {fs : AD} {name : Str} {apos cpos : Pos} {id : String}
theorem se_ms {op : Str → List D → M D} (slot : Slot "str" name id) (hty : typeOf (.builtin id) = pure (.type "method_descriptor")) (hm : MtR X id (rMs X.K X.mg W op)) (ho : PE X o (tD X.K X.mg W f)) (ha : PA X (e :: es) (tDL X.K X.mg W fs))
    (hbase : attributeBase o name X.env (eval o X.env) = eval o X.env := by rfl)
    (hfew : ((backTo cpos (starEach (e :: es) X.env)).all (fun x => !x.1) && (backToKw cpos (keywordEach [] X.env)).all (fun x => x.1.isSome)
      && decide ((e :: es).length + ([] : List Keyword).length + (if ([] : List Keyword).isEmpty then 0 else 1) < 30)) = true := by rfl)
    (hline : (apos.endLine == cpos.line) = true := by rfl) (hs : starEach (e :: es) X.env = (false, eval e X.env) :: starEach es X.env := by rfl) (hplain : (backTo cpos (starEach es X.env)).any (·.1) = false := by rfl) :
    PE X (.Call (.Attribute o name apos) (e :: es) [] cpos) (tD X.K X.mg W (eMs op f fs)) :=
  pick fun σ H Q ⟨Z, m, ρ, c, at', p⟩ => ⟨_, pe_bm PySem.F.plainAttrs_str slot hty hm ho ha hbase hfew hline hs hplain, by
    refine ⟨Z, m, ρ, c, at', (PostG.bind p).imp fun v H1 ⟨x, m1, h1, ex1, hk1, r1, _, q1⟩ => ?_⟩
    cases x with
    | str a =>
      obtain ⟨rfl, k⟩ := rep_str r1
      refine ⟨rfl, Z, m1, ρ, h1, ⟨hk1, ex1.env at'.en⟩, (PostG.bind q1).imp fun vs H2 ⟨ds, m2, h2, ex2, hk2, r2, _, q2⟩ => ?_⟩
      exact ⟨Z, m2, h2, σ, a, ds, rfl, k, hk2, r2, q2⟩
    | _ => exact q1.elim⟩
theorem se_ml {op : D → List D → M D} (slot : Slot "list" name id) (hty : typeOf (.builtin id) = pure (.type "method_descriptor")) (hm : MtR X id (rDM X.K X.mg W op)) (ho : PE X o (tD X.K X.mg W f)) (ha : PA X (e :: es) (tDL X.K X.mg W fs))
    (hbase : attributeBase o name X.env (eval o X.env) = eval o X.env := by rfl)
    (hfew : ((backTo cpos (starEach (e :: es) X.env)).all (fun x => !x.1) && (backToKw cpos (keywordEach [] X.env)).all (fun x => x.1.isSome)
      && decide ((e :: es).length + ([] : List Keyword).length + (if ([] : List Keyword).isEmpty then 0 else 1) < 30)) = true := by rfl)
    (hline : (apos.endLine == cpos.line) = true := by rfl) (hs : starEach (e :: es) X.env = (false, eval e X.env) :: starEach es X.env := by rfl) (hplain : (backTo cpos (starEach es X.env)).any (·.1) = false := by rfl) :
    PE X (.Call (.Attribute o name apos) (e :: es) [] cpos) (tD X.K X.mg W (eMl op f fs)) :=
  pick fun σ H Q ⟨Z, m, ρ, c, at', p⟩ => ⟨_, pe_bm PySem.F.plainAttrs_list slot hty hm ho ha hbase hfew hline hs hplain, by
    refine ⟨Z, m, ρ, c, at', (PostG.bind p).imp fun v H1 ⟨x, m1, h1, ex1, hk1, r1, _, q1⟩ => ?_⟩
    cases hv : vw h1 x with
    | lst xs =>
      rw [hv] at q1
      obtain ⟨a, vs, rfl, g1, g2⟩ := hk1.rlst r1 hv
      refine ⟨.inl ⟨rfl, vs, SqL.of g1⟩, Z, m1, ρ, h1, ⟨hk1, ex1.env at'.en⟩, (PostG.bind q1).imp fun vs H2 ⟨ds, m2, h2, ex2, hk2, r2, _, q2⟩ => ?_⟩
      exact ⟨Z, m2, h2, σ, x, ds, hk2, ex2.rep r1, r2, q2⟩
    | _ => rw [hv] at q1; exact q1.elim⟩
def dApp (x : D) (ds : List D) : M D := fun h =>
  match x, ds with
  | .ref n, [d] => match h[n]? with
    | some (.lst xs) => if xs.length < sizeLine then .ok .non (h.set n (.lst (xs ++ [d]))) else .bad
    | _ => .bad
  | _, _ => .bad
theorem mt_dApp : MtR X "list.append" (rDM X.K X.mg W dApp) := by
  intro pins s σ H vx vs v us Q I rx rxs ⟨Z, m, h, σ', x, ds, hk, r1, r2, p⟩
  unfold dApp at p
  split at p
  · split at p
    · rename_i hc
      split at p
      · rename_i hz
        unfold Rep at r1
        obtain ⟨a, g1, rfl⟩ := r1
        obtain ⟨vs', g2, g3⟩ := hk.cell _ _ a hc g1
        obtain ⟨y, rfl, ry⟩ := repL_one r2
        refine mt_append pins s σ H _ _ v us Q I rx rxs ⟨a, vs', y, rfl, rfl, g2, by rw [g3.length]; exact hz, ?_⟩
        have ex := Ext.setc (o := .lst (vs' ++ [y])) hk g1 g2
        exact p .non m _ ex (hk.setc g1 g2 ⟨_, upd_same, ex.repL (g3.append (RepL.one ry))⟩) mk_non
      · exact p.elim
    · exact p.elim
  · exact p.elim
/-- xs.append(e) -/
theorem se_app (ho : PE X o (tD X.K X.mg W f)) (ha : PA X (e :: es) (tDL X.K X.mg W fs))
    (hbase : attributeBase o "append" X.env (eval o X.env) = eval o X.env := by rfl)
    (hfew : ((backTo cpos (starEach (e :: es) X.env)).all (fun x => !x.1) && (backToKw cpos (keywordEach [] X.env)).all (fun x => x.1.isSome)
      && decide ((e :: es).length + ([] : List Keyword).length + (if ([] : List Keyword).isEmpty then 0 else 1) < 30)) = true := by rfl)
    (hline : (apos.endLine == cpos.line) = true := by rfl) (hs : starEach (e :: es) X.env = (false, eval e X.env) :: starEach es X.env := by rfl) (hplain : (backTo cpos (starEach es X.env)).any (·.1) = false := by rfl) :
    PE X (.Call (.Attribute o "append" apos) (e :: es) [] cpos) (tD X.K X.mg W (eMl dApp f fs)) :=
  se_ml PySem.F.slot_list_append PySem.F.type_list_append mt_dApp ho ha hbase hfew hline hs hplain
def dRfind (a : Str) (ds : List D) : M D := fun h =>
  match ds with
  | [.str b] => .ok (.int (Txt.rfind a b)) h
  | _ => .bad
theorem mt_dRfind : MtR X "str.rfind" (rMs X.K X.mg W dRfind) := by
  intro pins s σ H vx vs v us Q I rx rxs ⟨Z, m, h, σ', a, ds, ea, ka, hk, r2, p⟩
  unfold dRfind at p
  split at p
  · obtain ⟨y, rfl, ry⟩ := repL_one r2
    obtain ⟨rfl, _⟩ := rep_str ry
    exact mt_rfind pins s σ H _ _ v us Q I rx rxs ⟨a, _, ea, rfl, put_int hk p⟩
  · exact p.elim
theorem se_rfind (ho : PE X o (tD X.K X.mg W f)) (ha : PA X (e :: es) (tDL X.K X.mg W fs))
    (hbase : attributeBase o "rfind" X.env (eval o X.env) = eval o X.env := by rfl)
    (hfew : ((backTo cpos (starEach (e :: es) X.env)).all (fun x => !x.1) && (backToKw cpos (keywordEach [] X.env)).all (fun x => x.1.isSome)
      && decide ((e :: es).length + ([] : List Keyword).length + (if ([] : List Keyword).isEmpty then 0 else 1) < 30)) = true := by rfl)
    (hline : (apos.endLine == cpos.line) = true := by rfl) (hs : starEach (e :: es) X.env = (false, eval e X.env) :: starEach es X.env := by rfl) (hplain : (backTo cpos (starEach es X.env)).any (·.1) = false := by rfl) :
    PE X (.Call (.Attribute o "rfind" apos) (e :: es) [] cpos) (tD X.K X.mg W (eMs dRfind f fs)) :=
  se_ms PySem.F.slot_str_rfind PySem.F.type_str_rfind mt_dRfind ho ha hbase hfew hline hs hplain
def dNeg (d : D) : M D := fun h =>
  match d with
  | .int i => .ok (.int (-i)) h
  | _ => .bad
theorem se_neg {a : Expr} {pos : Pos} (ha : PE X a (tD X.K X.mg W f)) : PE X (.UnaryOp .USub a pos) (tD X.K X.mg W (e1 dNeg f)) :=
  pick fun σ H Q h => ⟨_, pe_un un_neg ha, den1 (r := rU fun i => .int (-i)) h fun v H Q ⟨Z, m, c, σ', x, hk, r, p⟩ => by
    cases x with
    | int i => exact ⟨i, rep_int r, put_int hk p⟩
    | _ => exact p.elim⟩
end

/-! ### room, and the context of a body -/
theorem u60 {A : Around} {k : Nat} (r : Room k A) : A.units + 60 < cLine := by have := r.un; omega
theorem u61 {A : Around} {k : Nat} (r : Room k A) : A.units + 61 < cLine := by have := r.un; omega
theorem u0 {A : Around} {k : Nat} (r : Room k A) : A.units < cLine := r.units0

/-! ### a def where it stands -/
structure DefAt (K : PySem.W.Frag) (mg : Str → Option Value) (x : Str) (st : Stmt) (ps : List Str) (a : Addr) (fd : FuncData) : Prop where
  F : Fun K x x st a fd
  m : mg x = some (.ref a)
  b : Binds K fd ps []
theorem se_def {X : Cx} {W : WX} {x : Str} {p pos : Pos} {e : Expr} {es : List Expr} {fs : AD} {st : Stmt} {f : Addr} {fd : FuncData} {ps : List Str} {k j n : Nat} {F : FD} (c : Nat → FD → List D → M D) (hc : CallOk c) (tk : Takes X W) (d : DefAt X.K X.mg x st ps f fd)
    (G : FnOk X.prog X.w X.K X.mg X.base (L2.CX X.prog X.w) k f fd ps (spF X.K X.mg n F)) (hr : Room j X.A) (ha : PA X (e :: es) (tDL X.K X.mg W fs)) (hkj : k ≤ j := by decide) (hg : Gl X x := by rfl)
    (hdb : (x == ("__debug__" : Str)) = false := by decide) (he : starEach (e :: es) X.env = (false, eval e X.env) :: starEach es X.env := by rfl) (hpl : (backTo pos (starEach es X.env)).any (·.1) = false := by rfl) :
    PE X (.Call (.Name x p) (e :: es) [] pos) (tD X.K X.mg W (eCall (c n F) fs)) :=
  se_fn hc tk G (hr.mono hkj) hg d.m d.F.kp d.b ha hdb he hpl
abbrev scrD (ns : List Int) : D := .scr (ns.map D.int)
theorem repL_scr {K : PySem.W.Frag} {mg : Str → Option Value} {m : List Addr} {S : Hp} : ∀ ns : List Int, RepL K mg m S (ns.map D.int) (ns.map V.int)
  | [] => RepL.nil
  | n :: ns => RepL.cons (mk_int n) (repL_scr ns)
/-- the end of a law: its def gives True at each script -/
theorem law_walk {l : PySem.W.OpenLaw} {k : Nat} {q : Program} {loose : List Str} {XP : (Str → Option Value) → Heap → Prop} {YP : World → Heap → Prop} {d : DefRec} {K : Params → PySem.W.Frag} {x : Str} {F : FD} (hn : l.most = some 63) (hdf : d.params.defaults = []) (hr : Room k callerA)
    (hY : ∀ (w : World) (h : Heap), YP w h → (K w.params).In h)
    (hF : ∀ (w : World) (mg : Str → Option Value) (fa : Addr) (h : Heap), (K w.params).In h → h.Ns mainGlobals mg → mg d.name = some (.ref fa) →
      ∃ fd : FuncData, (∀ (s : Shared) (u : Value), BindsTo s fd ⟨[u], []⟩ [(x, u)]) ∧ ∀ base : Heap, (K w.params).In base → base.Ns mainGlobals mg → FnOk l.prog w (K w.params) mg base (L2.CX l.prog w) k fa fd [x] (spF (K w.params) mg 1 F))
    (hT : ∀ ns : List Int, ns.length ≤ 63 → ∃ h, F [scrD ns] [] = .ok (.bl true) h) :
    PySem.W.WalkO q loose XP YP l.row.toRowW d [] (fun f vs => PySem.call f vs) := by
  refine L2.walk_of (n := 63) (k := k) (x := x) (CX := fun w => L2.CX l.prog w) (sp := fun w vs H Q E => ∃ (a : Addr) (ns : List Int), vs = [.ref a] ∧ SqL (K w.params) H a (ns.map V.int) ∧ ns.length ≤ 63 ∧ ∀ H', Q (.bl true) H') hn (by decide) hdf hr hY (fun w mg fa h k1 k2 k3 => ?_) (fun w H a ns h1 h2 h3 => ⟨a, ns, rfl, h3, h1, fun _ => rfl⟩) (fun w H s e s' c => ?_)
  · obtain ⟨fd, b, G⟩ := hF w mg fa h k1 k2 k3
    refine ⟨fd, b, fun base c1 c2 => (G base c1 c2).imp fun vs H Q E ⟨a, ns, e, hs, hl, hq⟩ => ?_⟩
    subst e
    refine ⟨[], [], [], [scrD ns], HeapOk.empty (fun a h => absurd h (by simp)), RepL.one ?_, rfl, ?_⟩
    · unfold Rep
      refine ⟨a, ns.map V.int, rfl, Sub.sql (fun b o e => ?_) hs, repL_scr ns⟩
      exact hide_of (by simp) e
    · obtain ⟨h', e⟩ := hT ns hl
      rw [e]
      intro v m' H' _ _ r
      rw [rep_bl r]
      exact hq H'
  · obtain ⟨_, _, _, _, _, _, _, _, _, _, _, _, z⟩ := c
    exact z
end FK

/-! part: FKA -/
set_option Elab.async false
set_option linter.all false
set_option maxRecDepth 100000
set_option maxHeartbeats 4000000
/-! FKA: short words for what is built in. -/
namespace FK
open PySem PySem.Spec L2
section
variable {X : Cx} {W : WX} {p pos : Pos} {e : Expr} {es : List Expr} {fs : AD}
theorem sb_len (hm : X.mg "len" = none) (ha : PA X (e :: es) (tDL X.K X.mg W fs)) (hg : Gl X "len" := by rfl) (he : starEach (e :: es) X.env = (false, eval e X.env) :: starEach es X.env := by rfl) (hpl : (backTo pos (starEach es X.env)).any (·.1) = false := by rfl) :
    PE X (.Call (.Name "len" p) (e :: es) [] pos) (tD X.K X.mg W (eCall dLen fs)) := se_callB call_dLen hg hm PySem.boot_len ha (by decide) (by decide) he hpl
theorem sb_ord (hm : X.mg "ord" = none) (ha : PA X (e :: es) (tDL X.K X.mg W fs)) (hg : Gl X "ord" := by rfl) (he : starEach (e :: es) X.env = (false, eval e X.env) :: starEach es X.env := by rfl) (hpl : (backTo pos (starEach es X.env)).any (·.1) = false := by rfl) :
    PE X (.Call (.Name "ord" p) (e :: es) [] pos) (tD X.K X.mg W (eCall dOrd fs)) := se_callB call_dOrd hg hm PyProof.Rows.boot_ord ha (by decide) (by decide) he hpl
theorem sb_max2 (hc : X.calm = true) (hm : X.mg "max" = none) (ha : PA X (e :: es) (tDL X.K X.mg W fs)) (hg : Gl X "max" := by rfl) (he : starEach (e :: es) X.env = (false, eval e X.env) :: starEach es X.env := by rfl) (hpl : (backTo pos (starEach es X.env)).any (·.1) = false := by rfl) :
    PE X (.Call (.Name "max" p) (e :: es) [] pos) (tD X.K X.mg W (eCall dMax2 fs)) := se_callB (call_dMax2 hc) hg hm PyProof.Rows.boot_max ha (by decide) (by decide) he hpl
theorem sb_min2 (hc : X.calm = true) (hm : X.mg "min" = none) (ha : PA X (e :: es) (tDL X.K X.mg W fs)) (hg : Gl X "min" := by rfl) (he : starEach (e :: es) X.env = (false, eval e X.env) :: starEach es X.env := by rfl) (hpl : (backTo pos (starEach es X.env)).any (·.1) = false := by rfl) :
    PE X (.Call (.Name "min" p) (e :: es) [] pos) (tD X.K X.mg W (eCall dMin2 fs)) := se_callB (call_dMin2 hc) hg hm PyProof.Rows.boot_min ha (by decide) (by decide) he hpl
theorem sb_int (hm : X.mg "int" = none) (ha : PA X (e :: es) (tDL X.K X.mg W fs)) (hg : Gl X "int" := by rfl) (he : starEach (e :: es) X.env = (false, eval e X.env) :: starEach es X.env := by rfl) (hpl : (backTo pos (starEach es X.env)).any (·.1) = false := by rfl) :
    PE X (.Call (.Name "int" p) (e :: es) [] pos) (tD X.K X.mg W (eCall dInt fs)) := se_callTy call_dInt hg hm PyProof.Rows.boot_int ha (by decide) (by decide) he hpl
theorem sb_tuple (hm : X.mg "tuple" = none) (ha : PA X (e :: es) (tDL X.K X.mg W fs)) (hg : Gl X "tuple" := by rfl) (he : starEach (e :: es) X.env = (false, eval e X.env) :: starEach es X.env := by rfl) (hpl : (backTo pos (starEach es X.env)).any (·.1) = false := by rfl) :
    PE X (.Call (.Name "tuple" p) (e :: es) [] pos) (tD X.K X.mg W (eCall dTuple fs)) := se_callTy call_dTuple hg hm PyProof.Rows.boot_tuple ha (by decide) (by decide) he hpl
theorem sb_list (hm : X.mg "list" = none) (ha : PA X (e :: es) (tDL X.K X.mg W fs)) (hg : Gl X "list" := by rfl) (he : starEach (e :: es) X.env = (false, eval e X.env) :: starEach es X.env := by rfl) (hpl : (backTo pos (starEach es X.env)).any (·.1) = false := by rfl) :
    PE X (.Call (.Name "list" p) (e :: es) [] pos) (tD X.K X.mg W (eCall dList fs)) := se_callTy call_dList hg hm PyProof.Rows.boot_list ha (by decide) (by decide) he hpl
theorem sb_listC (hm : X.mg "list" = none) (ha : PA X (e :: es) (tDL X.K X.mg W fs)) (hg : Gl X "list" := by rfl) (he : starEach (e :: es) X.env = (false, eval e X.env) :: starEach es X.env := by rfl) (hpl : (backTo pos (starEach es X.env)).any (·.1) = false := by rfl) :
    PE X (.Call (.Name "list" p) (e :: es) [] pos) (tD X.K X.mg W (eCall dListC fs)) := se_callTy call_dListC hg hm PyProof.Rows.boot_list ha (by decide) (by decide) he hpl
end
end FK

/-! part: FKB -/
set_option Elab.async false
set_option linter.all false
set_option maxRecDepth 100000
set_option maxHeartbeats 4000000
/-! FKB: module constants; join, split; all, any; str of an int. -/
namespace FK
open PySem PySem.Spec L2
/-- a name of the module -/
theorem se_globI {X : Cx} {W : WX} {x : Str} {i : Int} {pos : Pos} (hm : ∃ t, X.mg x = some (.int i t)) (hg : Gl X x := by rfl) (hd : (x == ("__debug__" : Str)) = false := by decide) : PE X (.Name x pos) (tD X.K X.mg W (eC (.int i))) :=
  pick fun σ H Q h => ⟨_, pe_glob (v := .int i) hg hm.choose_spec ⟨hm.choose, rfl⟩ hd, by
    obtain ⟨Z, m, ρ, c, at', p⟩ := h
    exact put_int at'.hk p⟩
theorem se_globB {X : Cx} {W : WX} {x : Str} {i : Bool} {pos : Pos} (hm : X.mg x = some (.bool i)) (hg : Gl X x := by rfl) (hd : (x == ("__debug__" : Str)) = false := by decide) : PE X (.Name x pos) (tD X.K X.mg W (eC (.bl i))) :=
  pick fun σ H Q h => ⟨_, pe_glob (v := .bl i) hg hm rfl hd, by
    obtain ⟨Z, m, ρ, c, at', p⟩ := h
    exact put_bl at'.hk p⟩
def strsD : List D → Option (List Str)
  | [] => some []
  | .str x :: r => (strsD r).map (x :: ·)
  | _ => none
def blsD : List D → Option (List Bool)
  | [] => some []
  | .bl x :: r => (blsD r).map (x :: ·)
  | _ => none
section
variable {K : PySem.W.Frag} {mg : Str → Option Value} {m : List Addr} {S : Hp}
theorem repL_strs : ∀ {ds : List D} {vs : List V} {ys : List Str}, strsD ds = some ys → RepL K mg m S ds vs → vs = ys.map V.str ∧ ∀ y ∈ ys, PyData.strOk y = true
  | [], vs, ys, e, r => by cases e; rw [RepL.of_nil r]; exact ⟨rfl, fun y h => by cases h⟩
  | d :: ds, vs, ys, e, r => by
    obtain ⟨v, us, rfl, r1, r2⟩ := RepL.of_cons r
    cases d with
    | str x =>
      unfold strsD at e
      cases e' : strsD ds with
      | none => rw [e'] at e; cases e
      | some zs =>
        rw [e'] at e
        cases e
        obtain ⟨rfl, o⟩ := repL_strs e' r2
        obtain ⟨rfl, o1⟩ := rep_str r1
        exact ⟨rfl, fun y h => by
          rcases List.mem_cons.mp h with rfl | h
          · exact o1
          · exact o y h⟩
    | _ => cases e
theorem repL_bls : ∀ {ds : List D} {vs : List V} {ys : List Bool}, blsD ds = some ys → RepL K mg m S ds vs → vs = ys.map V.bl
  | [], vs, ys, e, r => by cases e; rw [RepL.of_nil r]; rfl
  | d :: ds, vs, ys, e, r => by
    obtain ⟨v, us, rfl, r1, r2⟩ := RepL.of_cons r
    cases d with
    | bl x =>
      unfold blsD at e
      cases e' : blsD ds with
      | none => rw [e'] at e; cases e
      | some zs =>
        rw [e'] at e
        cases e
        rw [repL_bls e' r2, rep_bl r1]
        rfl
    | _ => cases e
theorem repL_mkStrs : ∀ {ys : List Str}, (∀ y ∈ ys, PyData.strOk y = true) → RepL K mg m S (ys.map D.str) (ys.map V.str)
  | [], _ => RepL.nil
  | y :: ys, h => RepL.cons (mk_str (h y List.mem_cons_self)) (repL_mkStrs fun z hz => h z (List.mem_cons_of_mem _ hz))
end
theorem join_mem {a : Str} : ∀ {ys : List Str} {c : Nat}, c ∈ (Str.join a ys).cps.toList → c ∈ a.cps.toList ∨ ∃ y ∈ ys, c ∈ y.cps.toList
  | [], c, h => by
    exfalso
    have : (Str.join a []).cps.toList = [] := rfl
    rw [this] at h
    cases h
  | [y], c, h => .inr ⟨y, List.mem_cons_self, h⟩
  | y :: z :: ys, c, h => by
    have e : (Str.join a (y :: z :: ys)).cps.toList = y.cps.toList ++ a.cps.toList ++ (Str.join a (z :: ys)).cps.toList := by
      show ((y.cps ++ a.cps) ++ (Str.join a (z :: ys)).cps).toList = _
      rw [Array.toList_append, Array.toList_append]
    rw [e] at h
    rcases List.mem_append.mp h with h | h
    · rcases List.mem_append.mp h with h | h
      · exact .inr ⟨y, List.mem_cons_self, h⟩
      · exact .inl h
    · rcases join_mem h with h | ⟨w, hw, h⟩
      · exact .inl h
      · exact .inr ⟨w, List.mem_cons_of_mem _ hw, h⟩
theorem mem_join {a : Str} : ∀ {ys : List Str} {y : Str} {c : Nat}, y ∈ ys → c ∈ y.cps.toList → c ∈ (Str.join a ys).cps.toList
  | [y], _, c, h, hc => by
    rw [List.mem_singleton.mp h] at hc
    exact hc
  | y :: z :: ys, w, c, h, hc => by
    have e : (Str.join a (y :: z :: ys)).cps.toList = y.cps.toList ++ a.cps.toList ++ (Str.join a (z :: ys)).cps.toList := by
      show ((y.cps ++ a.cps) ++ (Str.join a (z :: ys)).cps).toList = _
      rw [Array.toList_append, Array.toList_append]
    rw [e]
    rcases List.mem_cons.mp h with rfl | h
    · exact List.mem_append_left _ (List.mem_append_left _ hc)
    · exact List.mem_append_right _ (mem_join h hc)
theorem ok_join {a : Str} {ys : List Str} (ha : PyData.strOk a = true) (hy : ∀ y ∈ ys, PyData.strOk y = true) : PyData.strOk (Txt.join a ys) = true := by
  rw [TL.join_eq]
  refine ok_iff.mpr fun c h => ?_
  rcases join_mem h with h | ⟨y, hm, h⟩
  · exact ok_iff.mp ha c h
  · exact ok_iff.mp (hy y hm) c h
theorem ok_split {a b : Str} (ha : PyData.strOk a = true) : ∀ y ∈ Txt.split a b, PyData.strOk y = true := fun y hy => by
  refine ok_iff.mpr fun c h => ok_iff.mp ha c ?_
  have := mem_join (a := b) hy h
  rwa [StrLaws.join_split] at this
def dJoin (a : Str) (ds : List D) : M D := fun h =>
  match ds with
  | [d] => match seq h d with
    | some xs => match strsD xs with
      | some ys => if (ys.map (·.length)).sum + ys.length * a.length ≤ 16777216 then .ok (.str (Txt.join a ys)) h else .bad
      | none => .bad
    | none => .bad
  | _ => .bad
def dSplit (a : Str) (ds : List D) : M D := fun h =>
  match ds with
  | [.str b] => if (b.length == 0) = false ∧ a.length + 2 ≤ sizeLine then .ok (.lst ((Txt.split a b).map D.str)) h else .bad
  | _ => .bad
def dAll (ds : List D) : M D := fun h =>
  match ds with
  | [d] => match lstOf h d with
    | some xs => match blsD xs with
      | some bs => .ok (.bl (bs.all id)) h
      | none => .bad
    | none => .bad
  | _ => .bad
def dAny (ds : List D) : M D := fun h =>
  match ds with
  | [d] => match lstOf h d with
    | some xs => match blsD xs with
      | some bs => .ok (.bl (bs.any id)) h
      | none => .bad
    | none => .bad
  | _ => .bad
section
variable {X : Cx} {W : WX}
theorem mt_dJoin : MtR X "str.join" (rMs X.K X.mg W dJoin) := by
  intro pins s σ H vx vs v us Q I rx rxs ⟨Z, m, h, σ', a, ds, ea, ka, hk, r2, p⟩
  unfold dJoin at p
  split at p
  · rename_i d
    obtain ⟨y, rfl, ry⟩ := repL_one r2
    split at p
    · rename_i xs ex
      obtain ⟨a', vs', rfl, g1, g2⟩ := hk.rseq ry ex
      split at p
      · rename_i ys ey
        obtain ⟨rfl, o⟩ := repL_strs ey g2
        split at p
        · rename_i hz
          exact mt_join pins s σ H _ _ v us Q I rx rxs ⟨a, a', ys, ea, rfl, g1, hz, put_str hk (ok_join ka o) p⟩
        · exact p.elim
      · exact p.elim
    · exact p.elim
  · exact p.elim
theorem mt_dSplit : MtR X "str.split" (rMs X.K X.mg W dSplit) := by
  intro pins s σ H vx vs v us Q I rx rxs ⟨Z, m, h, σ', a, ds, ea, ka, hk, r2, p⟩
  unfold dSplit at p
  split at p
  · rename_i b
    obtain ⟨y, rfl, ry⟩ := repL_one r2
    obtain ⟨rfl, _⟩ := rep_str ry
    split at p
    · rename_i hz
      exact mt_split pins s σ H _ _ v us Q I rx rxs ⟨a, b, ea, rfl, hz.1, hz.2, put_lst hk (repL_mkStrs (ok_split ka)) p⟩
    · exact p.elim
  · exact p.elim
theorem call_dAll (hc : X.calm = true) : CallR X (.builtin "all") (rDL X.K X.mg W dAll) := by
  intro pins s σ H vs us Q I r ⟨Z, m, h, σ', ds, hk, r2, p⟩
  unfold dAll at p
  split at p
  · rename_i d
    obtain ⟨y, rfl, ry⟩ := repL_one r2
    split at p
    · rename_i xs ex
      obtain ⟨a, vs', rfl, g1, g2⟩ := hk.rlstOf ry ex
      split at p
      · rename_i bs eb
        obtain rfl := repL_bls eb g2
        exact cr_all hc pins s σ H _ us Q I r ⟨a, bs, rfl, SqL.of g1, put_bl hk p⟩
      · exact p.elim
    · exact p.elim
  · exact p.elim
theorem call_dAny (hc : X.calm = true) : CallR X (.builtin "any") (rDL X.K X.mg W dAny) := by
  intro pins s σ H vs us Q I r ⟨Z, m, h, σ', ds, hk, r2, p⟩
  unfold dAny at p
  split at p
  · rename_i d
    obtain ⟨y, rfl, ry⟩ := repL_one r2
    split at p
    · rename_i xs ex
      obtain ⟨a, vs', rfl, g1, g2⟩ := hk.rlstOf ry ex
      split at p
      · rename_i bs eb
        obtain rfl := repL_bls eb g2
        exact cr_any hc pins s σ H _ us Q I r ⟨a, bs, rfl, SqL.of g1, put_bl hk p⟩
      · exact p.elim
    · exact p.elim
  · exact p.elim
theorem ok_ofString (s : String) : PyData.strOk (Str.ofString s) = true := by
  rw [Str.ofString_eq_toList]
  refine ok_iff.mpr fun c h => ?_
  simp only [List.mem_map] at h
  obtain ⟨d, _, rfl⟩ := h
  have := d.valid
  show d.val.toNat < 0x110000
  rcases this with h | h
  · have : d.val.toNat < 0xd800 := h
    omega
  · exact h.2
theorem call_dStr : CallR X (.type "str") (rDL X.K X.mg W dStr) := by
  intro pins s σ H vs us Q I r ⟨Z, m, h, σ', ds, hk, r2, p⟩
  unfold dStr at p
  split at p
  · rename_i i
    obtain ⟨y, rfl, ry⟩ := repL_one r2
    obtain rfl := rep_int ry
    split at p
    · rename_i hz
      exact call_str_int pins s σ H _ us Q I r ⟨i, rfl, hz, put_str hk (ok_ofString _) p⟩
    · exact p.elim
  · exact p.elim
end
end FK

/-! part: FKC -/
set_option Elab.async false
set_option linter.all false
set_option maxRecDepth 100000
set_option maxHeartbeats 4000000
/-! FKC: short words for more of what is built in. -/
namespace FK
open PySem PySem.Spec L2
section
variable {X : Cx} {W : WX} {p pos apos cpos : Pos} {e o : Expr} {es : List Expr} {fs : AD} {f : ED}
theorem sb_all (hc : X.calm = true) (hm : X.mg "all" = none) (ha : PA X (e :: es) (tDL X.K X.mg W fs)) (hg : Gl X "all" := by rfl) (he : starEach (e :: es) X.env = (false, eval e X.env) :: starEach es X.env := by rfl) (hpl : (backTo pos (starEach es X.env)).any (·.1) = false := by rfl) :
    PE X (.Call (.Name "all" p) (e :: es) [] pos) (tD X.K X.mg W (eCall dAll fs)) := se_callB (call_dAll hc) hg hm PyProof.Rows.boot_all ha (by decide) (by decide) he hpl
theorem sb_any (hc : X.calm = true) (hm : X.mg "any" = none) (ha : PA X (e :: es) (tDL X.K X.mg W fs)) (hg : Gl X "any" := by rfl) (he : starEach (e :: es) X.env = (false, eval e X.env) :: starEach es X.env := by rfl) (hpl : (backTo pos (starEach es X.env)).any (·.1) = false := by rfl) :
    PE X (.Call (.Name "any" p) (e :: es) [] pos) (tD X.K X.mg W (eCall dAny fs)) := se_callB (call_dAny hc) hg hm PyProof.Rows.boot_any ha (by decide) (by decide) he hpl
theorem sb_str (hm : X.mg "str" = none) (ha : PA X (e :: es) (tDL X.K X.mg W fs)) (hg : Gl X "str" := by rfl) (he : starEach (e :: es) X.env = (false, eval e X.env) :: starEach es X.env := by rfl) (hpl : (backTo pos (starEach es X.env)).any (·.1) = false := by rfl) :
    PE X (.Call (.Name "str" p) (e :: es) [] pos) (tD X.K X.mg W (eCall dStr fs)) := se_callTy (call_dStr) hg hm PyProof.Rows.boot_str ha (by decide) (by decide) he hpl
theorem se_join (ho : PE X o (tD X.K X.mg W f)) (ha : PA X (e :: es) (tDL X.K X.mg W fs))
    (hbase : attributeBase o "join" X.env (eval o X.env) = eval o X.env := by rfl)
    (hfew : ((backTo cpos (starEach (e :: es) X.env)).all (fun x => !x.1) && (backToKw cpos (keywordEach [] X.env)).all (fun x => x.1.isSome)
      && decide ((e :: es).length + ([] : List Keyword).length + (if ([] : List Keyword).isEmpty then 0 else 1) < 30)) = true := by rfl)
    (hline : (apos.endLine == cpos.line) = true := by rfl) (hs : starEach (e :: es) X.env = (false, eval e X.env) :: starEach es X.env := by rfl) (hplain : (backTo cpos (starEach es X.env)).any (·.1) = false := by rfl) :
    PE X (.Call (.Attribute o "join" apos) (e :: es) [] cpos) (tD X.K X.mg W (eMs dJoin f fs)) :=
  se_ms PySem.F.slot_str_join PySem.F.type_str_join mt_dJoin ho ha hbase hfew hline hs hplain
theorem se_split (ho : PE X o (tD X.K X.mg W f)) (ha : PA X (e :: es) (tDL X.K X.mg W fs))
    (hbase : attributeBase o "split" X.env (eval o X.env) = eval o X.env := by rfl)
    (hfew : ((backTo cpos (starEach (e :: es) X.env)).all (fun x => !x.1) && (backToKw cpos (keywordEach [] X.env)).all (fun x => x.1.isSome)
      && decide ((e :: es).length + ([] : List Keyword).length + (if ([] : List Keyword).isEmpty then 0 else 1) < 30)) = true := by rfl)
    (hline : (apos.endLine == cpos.line) = true := by rfl) (hs : starEach (e :: es) X.env = (false, eval e X.env) :: starEach es X.env := by rfl) (hplain : (backTo cpos (starEach es X.env)).any (·.1) = false := by rfl) :
    PE X (.Call (.Attribute o "split" apos) (e :: es) [] cpos) (tD X.K X.mg W (eMs dSplit f fs)) :=
  se_ms PySem.F.slot_str_split PySem.F.type_str_split mt_dSplit ho ha hbase hfew hline hs hplain
end
end FK

/-! part: FKD -/
set_option Elab.async false
set_option linter.all false
set_option maxRecDepth 100000
set_option maxHeartbeats 4000000
/-! FKD: isinstance. -/
namespace FK
open PySem PySem.Spec L2
inductive Ty where
  | non | bool | int | str | tup | lst
def Ty.name : Ty → String
  | .non => "NoneType"
  | .bool => "bool"
  | .int => "int"
  | .str => "str"
  | .tup => "tuple"
  | .lst => "list"
def Ty.is : Ty → Ty → Bool
  | .non, .non => true
  | .bool, .bool => true
  | .bool, .int => true
  | .int, .int => true
  | .str, .str => true
  | .tup, .tup => true
  | .lst, .lst => true
  | _, _ => false
theorem Ty.kit (a b : Ty) : kitB a.name b.name = some (a.is b) := by cases a <;> cases b <;> decide +kernel
def tyD (h : CH) : D → Option Ty
  | .non => some .non
  | .bl _ => some .bool
  | .int _ => some .int
  | .str _ => some .str
  | .tup _ => some .tup
  | .lst _ => some .lst
  | .scr _ => some .lst
  | .ref n => match h[n]? with
    | some (.lst _) => some .lst
    | _ => none
  | .obj _ _ _ => none
def dIsi (T : Ty) (x : D) : M D := fun h => match tyD h x with
  | some a => .ok (.bl (a.is T)) h
  | none => .bad
theorem tyX_seqL {K : PySem.W.Frag} {H : Hp} {a : Addr} {vs : List V} (g : SqL K H a vs) : TyX K H (.ref a) (.type "list") := by
  rcases g with (g | ⟨o, g⟩) | ⟨o, its, n, g1, g2, _⟩
  · exact .base (.lst g)
  · exact .base (.frz g)
  · exact .kList g1 g2
theorem tyX_seqT {K : PySem.W.Frag} {H : Hp} {a : Addr} {vs : List V} (g : SqT K H a vs) : TyX K H (.ref a) (.type "tuple") := by
  rcases g with (g | ⟨o, g⟩) | ⟨o, its, n, g1, g2, _⟩
  · exact .base (.tup g)
  · exact .fTuple g
  · exact .kTuple g1 g2
section
variable {K : PySem.W.Frag} {mg : Str → Option Value} {Z m : List Addr} {H : Hp} {h : CH}
theorem HeapOk.ty (hk : HeapOk K mg Z m h H) {d : D} {v : V} (r : Rep K mg m (hide (Z ++ m) H) d v) {a : Ty} (e : tyD h d = some a) : TyX K H v (.type a.name) := by
  cases d with
  | non => cases e; obtain rfl := rep_non r; exact .base .non
  | bl b => cases e; obtain rfl := rep_bl r; exact .base (.bl b)
  | int b => cases e; obtain rfl := rep_int r; exact .base (.int b)
  | str b => cases e; obtain ⟨rfl, _⟩ := rep_str r; exact .base (.str b)
  | tup xs =>
    cases e
    obtain ⟨p, vs, rfl, g, _⟩ := HeapOk.rtup (h := h) r rfl
    exact tyX_seqT g
  | lst xs =>
    cases e
    obtain ⟨p, vs, rfl, g, _⟩ := hk.rlst r rfl
    exact tyX_seqL (SqL.of g)
  | scr xs =>
    cases e
    obtain ⟨p, vs, rfl, g, _⟩ := HeapOk.rscr (h := h) r rfl
    exact tyX_seqL g
  | obj c ns xs => cases e
  | ref n =>
    unfold tyD at e
    dsimp only at e
    cases ec : h[n]? with
    | none => rw [ec] at e; cases e
    | some c =>
      rw [ec] at e
      cases c with
      | ins c ns xs => cases e
      | tab _ => cases e
      | dS _ _ => cases e
      | dM _ _ _ => cases e
      | lst xs =>
        cases e
        obtain ⟨p, vs, rfl, g, _⟩ := hk.rlst (d := .ref n) (xs := xs) r (by unfold vw; dsimp only; rw [ec])
        exact tyX_seqL (SqL.of g)
end
section
variable {X : Cx} {W : WX} {p p2 pos : Pos} {e : Expr} {f : ED}
theorem se_isi (T : Ty) (hm : X.mg "isinstance" = none) (hmT : X.mg (Str.ofString T.name) = none) (hv : bootBuiltins (Str.ofString T.name) = some (.type T.name)) (he : PE X e (tD X.K X.mg W f)) (hg : Gl X "isinstance" := by rfl) (hgT : Gl X (Str.ofString T.name) := by rfl)
    (hn : Str.ofString T.name ≠ "__name__" := by decide) (hd : (Str.ofString T.name == ("__debug__" : Str)) = false := by decide)
    (hs : starEach (e :: [.Name (Str.ofString T.name) p2]) X.env = (false, eval e X.env) :: starEach [.Name (Str.ofString T.name) p2] X.env := by rfl)
    (hs2 : starEach [.Name (Str.ofString T.name) p2] X.env = (false, eval (.Name (Str.ofString T.name) p2) X.env) :: starEach [] X.env := by rfl)
    (hpl : (backTo pos (starEach [.Name (Str.ofString T.name) p2] X.env)).any (·.1) = false := by rfl) :
    PE X (.Call (.Name "isinstance" p) [e, .Name (Str.ofString T.name) p2] [] pos) (tD X.K X.mg W (e1 (dIsi T) f)) :=
  pick fun σ H Q h => ⟨_, pe_callB call_isi hg hm PyProof.Rows.boot_isinstance (pa_cons he (pa_cons (pe_bltn (v := .ty T.name) hgT hmT hv rfl hn hd) pa_nil hs2) hs) (by decide) (by decide) hs hpl, den1 (r := fun v H Q => rIsi X.K [v, .ty T.name] H Q) h fun v H Q ⟨Z, m, c, σ', x, hk, r, p⟩ => by
    unfold dIsi at p
    split at p
    · rename_i a ea
      exact ⟨v, .ty T.name, _, _, a.is T, rfl, .ty _, hk.ty r ea, kit_ty (Ty.kit a T), put_bl hk p⟩
    · exact p.elim⟩
end
end FK

/-! part: FKO -/
set_option Elab.async false
set_option linter.all false
set_option maxRecDepth 100000
set_option maxHeartbeats 4000000
/-! FKO: instances: attributes read and stored, making. -/
namespace FK
open PySem PySem.Spec L2
def putNs (f : Str) : List Str → List Str
  | [] => [f]
  | g :: r => if g = f then g :: r else g :: putNs f r
def putXs (f : Str) (d : D) : List Str → List D → List D
  | [], _ => [d]
  | g :: r, x :: xs => if g = f then d :: xs else x :: putXs f d r xs
  | _ :: _, [] => [d]
/-- the attribute f of what has the names ns -/
def lookD (f : Str) : List Str → List D → Option D
  | n :: ns, x :: xs => if n = f then some x else lookD f ns xs
  | _, _ => none
section
variable {K : PySem.W.Frag} {mg : Str → Option Value} {m : List Addr} {S : Hp}
theorem rep_look {f : Str} {d : D} : ∀ {fs : List (Str × V)} {xs : List D}, RepL K mg m S xs (fs.map (·.2)) → lookD f (fs.map (·.1)) xs = some d → ∃ v, fs.lookup f = some v ∧ Rep K mg m S d v
  | [], xs, r, e => by cases xs <;> cases e
  | (g, v) :: fs, [], r, e => by cases e
  | (g, v) :: fs, x :: xs, r, e => by
    obtain ⟨v', t, e1, r1, r2⟩ := RepL.of_cons r
    cases e1
    have e : (if g = f then some x else lookD f (fs.map (·.1)) xs) = some d := e
    by_cases h : g = f
    · rw [if_pos h] at e
      cases e
      subst h
      exact ⟨v, by simp [List.lookup], r1⟩
    · rw [if_neg h] at e
      obtain ⟨u, e2, r3⟩ := rep_look r2 e
      refine ⟨u, ?_, r3⟩
      have hb : (f == g) = false := by
        rw [beq_eq_false_iff_ne]
        exact fun z => h z.symm
      simp only [List.lookup, hb]
      exact e2
theorem rep_put {f : Str} {d : D} {v : V} (q : Rep K mg m S d v) : ∀ {fs : List (Str × V)} {xs : List D}, RepL K mg m S xs (fs.map (·.2)) → (putF f v fs).map (·.1) = putNs f (fs.map (·.1)) ∧ RepL K mg m S (putXs f d (fs.map (·.1)) xs) ((putF f v fs).map (·.2))
  | [], xs, r => ⟨rfl, RepL.one q⟩
  | (g, u) :: fs, [], r => by
    have := r.length
    simp at this
  | (g, u) :: fs, x :: xs, r => by
    obtain ⟨v', t, e1, r1, r2⟩ := RepL.of_cons r
    cases e1
    obtain ⟨h1, h2⟩ := rep_put q r2
    show ((if g = f then (g, v) :: fs else (g, u) :: putF f v fs).map (·.1)) = (if g = f then g :: fs.map (·.1) else g :: putNs f (fs.map (·.1))) ∧ RepL K mg m S (if g = f then d :: xs else x :: putXs f d (fs.map (·.1)) xs) ((if g = f then (g, v) :: fs else (g, u) :: putF f v fs).map (·.2))
    by_cases h : g = f
    · rw [if_pos h, if_pos h, if_pos h]
      exact ⟨rfl, RepL.cons q r2⟩
    · rw [if_neg h, if_neg h, if_neg h]
      exact ⟨by rw [List.map_cons, h1], RepL.cons r1 h2⟩
end
/-- what an attribute's use asks of a class -/
def AttrOk (K : PySem.W.Frag) (mg : Str → Option Value) (c f : Str) : Prop := ∀ C, mg c = some (.ref C) → Cls K C ∧ NoAttr K C f
def dFld (cs : List Str) (f : Str) (x : D) : M D := fun h =>
  match x with
  | .ref n => match h[n]? with
    | some (.ins c ns xs) => if c ∈ cs then (match lookD f ns xs with
      | some d => .ok d h
      | none => .bad) else .bad
    | _ => .bad
  | .obj c ns xs => if c ∈ cs then (match lookD f ns xs with
    | some d => .ok d h
    | none => .bad) else .bad
  | _ => .bad
def sFldS (cs : List Str) (f : Str) (eo ev : ED) : SD := sE ev fun d => sE eo fun x ρ h =>
  match x with
  | .ref n => match h[n]? with
    | some (.ins c ns xs) => if c ∈ cs ∧ ns.length < 1000 then .ok .nx ρ (h.set n (.ins c (putNs f ns) (putXs f d ns xs))) else .bad
    | _ => .bad
  | _ => .bad
section
variable {X : Cx} {W : WX} {e o : Expr} {f g : ED} {cs : List Str} {a : Str} {pos p2 : Pos}
theorem se_fld (ht : ∀ c ∈ cs, AttrOk X.K X.mg c a) (he : PE X e (tD X.K X.mg W f)) (hb : attributeBase e a X.env (eval e X.env) = eval e X.env := by rfl) : PE X (.Attribute e a pos) (tD X.K X.mg W (e1 (dFld cs a) f)) :=
  pick fun σ H Q h => ⟨_, pe_fld he hb, den1 (r := fun x H1 Q => ∃ p C dx fs v, x = .ref p ∧ H1 p = some (.ins C dx fs) ∧ Cls X.K C ∧ NoAttr X.K C a ∧ fs.lookup a = some v ∧ Q v H1) h fun v H Q ⟨Z, m, c, σ', x, hk, r, p⟩ => by
    unfold dFld at p
    split at p
    · rename_i n
      split at p
      · rename_i cl ns xs ec
        split at p
        · rename_i hc
          split at p
          · rename_i d ed
            unfold Rep at r
            obtain ⟨q, g1, rfl⟩ := r
            obtain ⟨C, dx, fs, g2, g3, rfl, g5⟩ := hk.cell _ _ q ec g1
            obtain ⟨u, e2, r2⟩ := rep_look g5 ed
            obtain ⟨k1, k2⟩ := ht cl hc C g3
            exact ⟨q, C, dx, fs, u, rfl, g2, k1, k2, e2, put_old hk r2 p⟩
          · exact p.elim
        · exact p.elim
      · exact p.elim
    · rename_i cl ns xs
      split at p
      · rename_i hc
        split at p
        · rename_i d ed
          unfold Rep at r
          obtain ⟨q, C, dx, fs, rfl, g2, g3, rfl, g5⟩ := r
          obtain ⟨u, e2, r2⟩ := rep_look g5 ed
          obtain ⟨k1, k2⟩ := ht cl hc C g3
          exact ⟨q, C, dx, fs, u, rfl, (hide_some g2).2, k1, k2, e2, put_old hk r2 p⟩
        · exact p.elim
      · exact p.elim
    · exact p.elim⟩
theorem ss_fld (ht : ∀ c ∈ cs, AttrOk X.K X.mg c a) (he : PE X o (tD X.K X.mg W f)) (hv : PE X e (tD X.K X.mg W g)) (hs : swapsWith e (some (.Attribute o a p2)) pos.line X.env = pure false := by rfl) :
    PS X (.Assign [.Attribute o a p2] e pos) (tDS X.K X.mg W (sFldS cs a f g)) :=
  pickS fun σ H E ⟨Z, m, ρ, h, at', p⟩ => ⟨_, ps_fld he hv hs, Z, m, ρ, h, at', (PostS.ofE at' p).imp fun y H1 ⟨d, m1, h1, ex1, at1, r1, q1⟩ => ⟨Z, m1, ρ, h1, at1, (PostS.ofE at1 q1).imp fun x H2 ⟨dx', m2, h2, ex2, at2, r2, q2⟩ => by
    split at q2
    · rename_i n
      split at q2
      · rename_i cl ns xs ec
        split at q2
        · rename_i hc
          unfold Rep at r2
          obtain ⟨q, g1, rfl⟩ := r2
          obtain ⟨C, dx, fs, g2, g3, rfl, g5⟩ := at2.hk.cell _ _ q ec g1
          obtain ⟨k1, k2⟩ := ht cl hc.1 C g3
          refine ⟨q, C, dx, fs, rfl, g2, k1, k2, by simpa using hc.2, ?_⟩
          have ex := Ext.setc (o := .ins C dx (putF a y fs)) at2.hk g1 g2
          obtain ⟨j1, j2⟩ := rep_put (f := a) (ex.rep (ex2.rep r1)) (ex.repL g5)
          have hk3 := at2.hk.setc (c := .ins cl (putNs a (fs.map (·.1))) (putXs a d (fs.map (·.1)) xs)) g1 g2 ⟨C, dx, _, upd_same, g3, j1, j2⟩
          exact q2 σ m2 _ ex hk3 (ex.env at2.en)
        · exact q2.elim
      · exact q2.elim
    · exact q2.elim⟩⟩
end
/-! ### making -/
/-- C(..): a new cell, then __init__ on it; G puts self, the arguments and the defaults in order -/
def mkO (c : Str) (G : D → List D → List D) (F : FD) (ds : List D) : M D := fun h =>
  match F (G (.ref h.length) ds) (h ++ [.ins c [] []]) with
  | .ok .non h' => .ok (.ref h.length) h'
  | _ => .bad
/-- behind the positional ones the keywords' values -/
def aApp (fs gs : AD) : AD := fun ρ => M.bind (fs ρ) fun ds => M.bind (gs ρ) fun es => M.pure (ds ++ es)
def XF : XK := fun _ _ _ => False
theorem passF {X : Cx} : Passes (L2.CX X.prog X.w) X XF := fun _ _ _ _ _ _ _ c => by
  obtain ⟨_, _, _, _, _, _, _, _, _, _, _, _, z⟩ := c
  exact z.elim
section
variable {K : PySem.W.Frag} {mg : Str → Option Value} {Z m : List Addr} {H : Hp} {h : CH} {W : WX} {σ : L2.St} {Q : VK} {n : Nat} {F : FD} {ds : List D} {vs zs : List V} {c : Str} {C : Addr} {G : D → List D → List D}
theorem mk_sp (hk : HeapOk K mg Z m h H) (hC : mg c = some (.ref C)) {x dx : Addr} (hx : H x = none) (hdx : H dx = none) (ne : dx ≠ x) {us : List V}
    (hn : (G (.ref h.length) ds).length = n) (r : ∀ m' S', (∀ (i : Nat) a, m[i]? = some a → m'[i]? = some a) → Sub (hide (Z ++ m) H) S' → m'[h.length]? = some x → RepL K mg m' S' (G (.ref h.length) ds) us)
    (p : Post K mg W σ Z m H (mkO c G F ds h) Q) : spF K mg n F us (upd (upd H dx (.own x)) x (.ins C dx [])) (fun v H3 => v = .non ∧ Q (.ref x) H3) XF := by
  have hk1 := hk.laid (o := .own x) hdx
  have ex1 := Ext.laid (o := .own x) hk hdx
  have hx1 : upd H dx (.own x) x = none := by rw [upd_ne (Ne.symm ne)]; exact hx
  have ex2 := Ext.cell (o := .ins C dx []) hk1 hx1
  have hk2 := hk1.new (o := .ins C dx []) (c := .ins c [] []) hx1 ⟨C, dx, [], upd_same, hC, rfl, RepL.nil⟩
  have ex := ex1.trans ex2
  have hml : (m ++ [x])[h.length]? = some x := by
    rw [← hk.len]
    simp
  refine ⟨Z, m ++ [x], h ++ [.ins c [] []], G (.ref h.length) ds, hk2, r _ _ ex.pre ex.st hml, hn, ?_⟩
  unfold mkO at p
  cases e : F (G (.ref h.length) ds) (h ++ [.ins c [] []]) with
  | ok d h' =>
    rw [e] at p
    cases d with
    | non =>
      intro v m3 H3 ex3 hk3 r3
      have := rep_non r3
      subst this
      exact ⟨rfl, p (.ref x) m3 H3 (ex.trans ex3) hk3 (by unfold Rep; exact ⟨x, ex3.pre _ _ hml, rfl⟩)⟩
    | _ => exact p.elim
  | exc c' h' => rw [e] at p; exact p.elim
  | bad => rw [e] at p; exact p.elim
end
/-- the values in order: self, what is written, the defaults -/
structure Arr (K : PySem.W.Frag) (mg : Str → Option Value) (G : D → List D → List D) (gV : List V → List V → List V) (j l n : Nat) : Prop where
  rep : ∀ (m : List Addr) (S : Hp) (self : D) (v : V) (ds es : List D) (vs zs : List V), ds.length = j → es.length = l → Rep K mg m S self v → RepL K mg m S ds vs → RepL K mg m S es zs → RepL K mg m S (G self (ds ++ es)) (gV (v :: vs) zs)
  len : ∀ (self : D) (ds : List D), ds.length = j + l → (G self ds).length = n
section
variable {X : Cx} {W : WX} {x : Str} {p pos : Pos} {e : Expr} {es : List Expr} {kws : List Keyword} {fs gs : AD} {f C : Addr} {fd : FuncData} {ps ks : List Str} {k n j : Nat} {F : FD} {G : D → List D → List D} {g : List Value → List Value → List Value} {gV : List V → List V → List V}
theorem sk_nil : PK X [] (tDL X.K X.mg W aNil) := ⟨fun pos pins s σ H Q I ⟨Z, m, ρ, c, at', p⟩ => pk_nil.run pos pins s σ H Q I (p [] m H Ext.refl at'.hk RepL.nil)⟩
theorem sk_cons {nm : Option Str} {kpos : Pos} {f : ED} (ha : PE X e (tD X.K X.mg W f)) (hr : PK X kws (tDL X.K X.mg W fs)) : PK X (⟨nm, e, kpos⟩ :: kws) (tDL X.K X.mg W (aCons f fs)) :=
  ⟨fun pos pins s σ H Q I ⟨Z, m, ρ, c, at', p⟩ => (pk_cons ha hr).run pos pins s σ H Q I (by
    refine ⟨Z, m, ρ, c, at', (PostG.bind p).imp fun v H1 ⟨d, m1, h1, ex, hk, rp, _, q⟩ => ?_⟩
    refine ⟨Z, m1, ρ, h1, ⟨hk, ex.env at'.en⟩, (PostG.bind q).imp fun u H2 ⟨ds, m2, h2, ex2, hk2, rp2, _, q2⟩ => ?_⟩
    exact q2 _ m2 H2 Ext.refl hk2 (RepL.cons (ex2.rep rp) rp2))⟩
/-- C(k = v, ..) -/
theorem se_mkK0 (M : Mk X.K C f) (Fo : FnOk X.prog X.w X.K X.mg X.base (L2.CX X.prog X.w) k f fd ps (spF X.K X.mg n F)) (hr : Room (k + 1) X.A) (hm : X.mg x = some (.ref C)) (hb : KBn X.K fd ps 1 ks g gV) (A : Arr X.K X.mg G gV 0 ks.length n) (hkw : PK X kws (tDL X.K X.mg W fs)) (hg : Gl X x := by rfl)
    (hall : (backToKw pos (keywordEach kws X.env)).all (·.1.isSome) = true := by rfl) (hks : (backToKw pos (keywordEach kws X.env)).filterMap (·.1) = ks := by rfl) (hlen : ∀ ρ h ds h', fs ρ h = .ok ds h' → ds.length = ks.length)
    (hdb : (x == ("__debug__" : Str)) = false := by decide) (hpl : ((backTo pos (starEach [] X.env)).any (·.1) || (backToKw pos (keywordEach kws X.env)).any (·.1.isNone)) = false := by rfl) :
    PE X (.Call (.Name x p) [] kws pos) (tD X.K X.mg W (eCall (mkO x G F) fs)) :=
  pick fun σ H Q h => ⟨_, pe_makeK0 M Fo hr hg hm hb passF hkw hall hks hdb hpl, by
    obtain ⟨Z, m, ρ, c, at', p⟩ := h
    show tDL X.K X.mg W fs σ H _
    refine ⟨Z, m, ρ, c, at', (PostG.bind p).imp fun zs H2 ⟨ds, m2, h2, ex2, hk2, rp2, e2, q2⟩ => ?_⟩
    have hl := hlen _ _ _ _ e2
    refine ⟨rfl, by rw [rp2.length]; exact hl, fun a dx ha hdx ne => ?_⟩
    refine mk_sp hk2 hm ha hdx ne (A.len _ _ (by omega)) (fun m' S' hm' hs' hx' => ?_) q2
    exact A.rep m' S' (.ref h2.length) (.ref a) [] ds [] zs rfl hl (by unfold Rep; exact ⟨a, hx', rfl⟩) RepL.nil (RepL.mono hm' hs' _ _ rp2)⟩
/-- C(e, .., k = v, ..) -/
theorem se_mkK (MK : Mk X.K C f) (Fo : FnOk X.prog X.w X.K X.mg X.base (L2.CX X.prog X.w) k f fd ps (spF X.K X.mg n F)) (hr : Room (k + 1) X.A) (hm : X.mg x = some (.ref C)) (hb : KBn X.K fd ps (j + 1) ks g gV) (A : Arr X.K X.mg G gV j ks.length n)
    (ha : PA X (e :: es) (tDL X.K X.mg W fs)) (hkw : PK X kws (tDL X.K X.mg W gs)) (hg : Gl X x := by rfl)
    (hall : (backToKw pos (keywordEach kws X.env)).all (·.1.isSome) = true := by rfl) (hks : (backToKw pos (keywordEach kws X.env)).filterMap (·.1) = ks := by rfl) (hlen : ∀ ρ h ds h', fs ρ h = .ok ds h' → ds.length = j) (hlen2 : ∀ ρ h ds h', gs ρ h = .ok ds h' → ds.length = ks.length)
    (hdb : (x == ("__debug__" : Str)) = false := by decide) (he : starEach (e :: es) X.env = (false, eval e X.env) :: starEach es X.env := by rfl)
    (hpl : ((backTo pos (starEach (e :: es) X.env)).any (·.1) || (backToKw pos (keywordEach kws X.env)).any (·.1.isNone)) = false := by rfl) :
    PE X (.Call (.Name x p) (e :: es) kws pos) (tD X.K X.mg W (eCall (mkO x G F) (aApp fs gs))) :=
  pick fun σ H Q h => ⟨_, pe_makeK MK Fo hr hg hm hb passF ha hkw hall hks hdb he hpl, by
    obtain ⟨Z, m, ρ, c, at', p⟩ := h
    show tDL X.K X.mg W fs σ H _
    have p' : Post X.K X.mg W σ Z m H (M.bind (fs ρ) (fun ds => M.bind (gs ρ) fun es => mkO x G F (ds ++ es)) c) Q := by
      have e : M.bind (fs ρ) (fun ds => M.bind (gs ρ) fun es => mkO x G F (ds ++ es)) c = eCall (mkO x G F) (aApp fs gs) ρ c := by
        unfold eCall aApp M.bind
        cases fs ρ c with
        | ok ds h1 =>
          dsimp only
          cases gs ρ h1 <;> rfl
        | _ => rfl
      rw [e]
      exact p
    refine ⟨Z, m, ρ, c, at', (PostG.bind p').imp fun vs H1 ⟨ds, m1, h1, ex1, hk1, rp1, e1, q1⟩ => ?_⟩
    refine ⟨Z, m1, ρ, h1, ⟨hk1, ex1.env at'.en⟩, (PostG.bind q1).imp fun zs H2 ⟨es', m2, h2, ex2, hk2, rp2, e2, q2⟩ => ?_⟩
    have hl1 := hlen _ _ _ _ e1
    have hl2 := hlen2 _ _ _ _ e2
    refine ⟨by rw [rp1.length]; exact hl1, by rw [rp2.length]; exact hl2, fun a dx ha hdx ne => ?_⟩
    refine mk_sp hk2 hm ha hdx ne (A.len _ _ (by rw [List.length_append]; omega)) (fun m' S' hm' hs' hx' => ?_) q2
    exact A.rep m' S' (.ref h2.length) (.ref a) ds es' vs zs hl1 hl2 (by unfold Rep; exact ⟨a, hx', rfl⟩) (RepL.mono hm' hs' _ _ (ex2.repL rp1)) (RepL.mono hm' hs' _ _ rp2)⟩
/-- C(e, ..); dd: the defaults -/
theorem se_mk {dvs : List V} {dd : List D} {dsv : List Value} (M : Mk X.K C f) (Fo : FnOk X.prog X.w X.K X.mg X.base (L2.CX X.prog X.w) k f fd ps (spF X.K X.mg n F)) (hr : Room (k + 1) X.A) (hm : X.mg x = some (.ref C)) (hb : Binds X.K fd ps dsv) (hd : Vals dvs dsv)
    (hdd : ∀ m S, RepL X.K X.mg m S dd dvs) (ha : PA X (e :: es) (tDL X.K X.mg W fs)) (hg : Gl X x := by rfl) (hlen : ∀ ρ h ds h', fs ρ h = .ok ds h' → ds.length + dd.length + 1 = n)
    (hdb : (x == ("__debug__" : Str)) = false := by decide) (he : starEach (e :: es) X.env = (false, eval e X.env) :: starEach es X.env := by rfl) (hpl : (backTo pos (starEach es X.env)).any (·.1) = false := by rfl) :
    PE X (.Call (.Name x p) (e :: es) [] pos) (tD X.K X.mg W (eCall (mkO x (fun s ds => s :: (ds ++ dd)) F) fs)) :=
  pick fun σ H Q h => ⟨_, pe_make M Fo hr hg hm hb hd passF ha hdb he hpl, by
    obtain ⟨Z, m, ρ, c, at', p⟩ := h
    show tDL X.K X.mg W fs σ H _
    refine ⟨Z, m, ρ, c, at', (PostG.bind p).imp fun vs H2 ⟨ds, m2, h2, ex2, hk2, rp2, e2, q2⟩ a dx ha hdx ne => ?_⟩
    have hl := hlen _ _ _ _ e2
    refine mk_sp hk2 hm ha hdx ne (by simp only [List.length_cons, List.length_append]; omega) (fun m' S' hm' hs' hx' => ?_) q2
    exact RepL.cons (by unfold Rep; exact ⟨a, hx', rfl⟩) ((RepL.mono hm' hs' _ _ rp2).append (hdd m' S'))⟩
theorem len_nil {ρ : Env} {h h' : CH} {ds : List D} (e : aNil ρ h = .ok ds h') : ds.length = 0 := by
  unfold aNil M.pure at e
  cases e
  rfl
theorem len_cons {f : ED} {n : Nat} (hf : ∀ ρ h ds h', fs ρ h = .ok ds h' → ds.length = n) {ρ : Env} {h h' : CH} {ds : List D} (e : aCons f fs ρ h = .ok ds h') : ds.length = n + 1 := by
  unfold aCons M.bind at e
  cases e1 : f ρ h with
  | ok d h1 =>
    rw [e1] at e
    dsimp only at e
    cases e2 : fs ρ h1 with
    | ok es h2 =>
      rw [e2] at e
      dsimp only at e
      unfold M.pure at e
      cases e
      rw [List.length_cons, hf _ _ _ _ e2]
    | _ => rw [e2] at e; cases e
  | _ => rw [e1] at e; cases e
end
/-- how many arguments there are -/
def LenA (fs : AD) (n : Nat) : Prop := ∀ ρ h ds h', fs ρ h = .ok ds h' → ds.length = n
theorem LenA.nil : LenA aNil 0 := fun _ _ _ _ e => len_nil e
theorem LenA.cons {f : ED} {fs : AD} {n : Nat} (h : LenA fs n) : LenA (aCons f fs) (n + 1) := fun _ _ _ _ e => len_cons h e
/-! ### arrangement -/
def perm {α : Type} (idx : List Nat) (xs : List α) : List α := idx.filterMap fun i => xs[i]?
theorem Vals.at_ {xs : List V} {us : List Value} (r : Vals xs us) : ∀ i : Nat, (xs[i]? = none ∧ us[i]? = none) ∨ ∃ x u, xs[i]? = some x ∧ us[i]? = some u ∧ RelV x u := by
  induction r with
  | nil => exact fun i => .inl ⟨by simp, by simp⟩
  | cons h t ih =>
    intro i
    cases i with
    | zero => exact .inr ⟨_, _, rfl, rfl, h⟩
    | succ i => simpa using ih i
theorem vals_perm {xs : List V} {us : List Value} (r : Vals xs us) : ∀ idx : List Nat, Vals (perm idx xs) (perm idx us)
  | [] => .nil
  | i :: idx => by
    have ih := vals_perm r idx
    unfold perm at *
    rw [List.filterMap_cons, List.filterMap_cons]
    rcases Vals.at_ r i with ⟨e1, e2⟩ | ⟨x, u, e1, e2, h⟩
    · rw [e1, e2]; exact ih
    · rw [e1, e2]; exact .cons h ih
section
variable {K : PySem.W.Frag} {mg : Str → Option Value} {m : List Addr} {S : Hp}
theorem repL_perm {xs : List D} {vs : List V} (r : RepL K mg m S xs vs) : ∀ idx : List Nat, RepL K mg m S (perm idx xs) (perm idx vs)
  | [] => RepL.nil
  | i :: idx => by
    have ih := repL_perm r idx
    unfold perm at *
    rw [List.filterMap_cons, List.filterMap_cons]
    cases e1 : xs[i]? with
    | some x =>
      obtain ⟨v, e2, h⟩ := RepL.get r e1
      rw [e2]
      exact RepL.cons h ih
    | none =>
      have : vs[i]? = none := by
        rw [List.getElem?_eq_none_iff] at *
        rw [r.length]
        exact e1
      rw [this]
      exact ih
end
theorem len_perm {α : Type} {xs : List α} : ∀ {idx : List Nat}, (∀ i ∈ idx, i < xs.length) → (perm idx xs).length = idx.length
  | [], _ => rfl
  | i :: idx, h => by
    have ih := len_perm (xs := xs) (idx := idx) fun j hj => h j (List.mem_cons_of_mem _ hj)
    unfold perm at *
    rw [List.filterMap_cons, List.getElem?_eq_getElem (h i List.mem_cons_self)]
    show _ + 1 = _ + 1
    rw [ih]
/-- self, j written values, the defaults dm of what lacks, the keywords' values; then in the parameters' order -/
def arrG (idx : List Nat) (j : Nat) (dm : List D) (self : D) (xs : List D) : List D := perm idx ((self :: xs.take j) ++ dm ++ xs.drop j)
/-- what a making of an instance asks (b: the level of __init__) -/
structure MkAt (P : Program) (w : World) (K : PySem.W.Frag) (mg : Str → Option Value) (base : Heap) (x : Str) (b j : Nat) (ks : List Str) (idx : List Nat) (dm : List D) (F : FD) : Prop where
  ex : ∃ (C f : Addr) (fd : FuncData) (ps : List Str) (g : List Value → List Value → List Value) (gV : List V → List V → List V), Mk K C f ∧ FnOk P w K mg base (L2.CX P w) b f fd ps (spF K mg idx.length F) ∧ mg x = some (.ref C) ∧ KBn K fd ps (j + 1) ks g gV ∧
    Arr K mg (arrG idx j dm) gV j ks.length idx.length
/-- .. by positional values alone -/
structure MkPos (P : Program) (w : World) (K : PySem.W.Frag) (mg : Str → Option Value) (base : Heap) (x : Str) (b n : Nat) (dd : List D) (F : FD) : Prop where
  ex : ∃ (C f : Addr) (fd : FuncData) (ps : List Str) (dvs : List V) (dsv : List Value), Mk K C f ∧ FnOk P w K mg base (L2.CX P w) b f fd ps (spF K mg n F) ∧ mg x = some (.ref C) ∧ Binds K fd ps dsv ∧ Vals dvs dsv ∧ ∀ m S, RepL K mg m S dd dvs
section
variable {X : Cx} {W : WX} {x : Str} {p pos : Pos} {e : Expr} {es : List Expr} {kws : List Keyword} {fs gs : AD} {ks : List Str} {b n j l : Nat} {F : FD} {idx : List Nat} {dm dd : List D}
theorem sm_K0 (MA : MkAt X.prog X.w X.K X.mg X.base x b 0 ks idx dm F) (hr : Room l X.A) (hkw : PK X kws (tDL X.K X.mg W fs)) (hlen : LenA fs ks.length) (hbl : b + 1 ≤ l := by decide) (hg : Gl X x := by rfl)
    (hall : (backToKw pos (keywordEach kws X.env)).all (·.1.isSome) = true := by rfl) (hks : (backToKw pos (keywordEach kws X.env)).filterMap (·.1) = ks := by rfl)
    (hdb : (x == ("__debug__" : Str)) = false := by decide) (hpl : ((backTo pos (starEach [] X.env)).any (·.1) || (backToKw pos (keywordEach kws X.env)).any (·.1.isNone)) = false := by rfl) :
    PE X (.Call (.Name x p) [] kws pos) (tD X.K X.mg W (eCall (mkO x (arrG idx 0 dm) F) fs)) := by
  obtain ⟨C, f, fd, ps, g, gV, M, Fo, hm, hb, A⟩ := MA.ex
  exact se_mkK0 M Fo (hr.mono hbl) hm hb A hkw hg hall hks hlen hdb hpl
theorem sm_K (MA : MkAt X.prog X.w X.K X.mg X.base x b j ks idx dm F) (hr : Room l X.A) (ha : PA X (e :: es) (tDL X.K X.mg W fs)) (hkw : PK X kws (tDL X.K X.mg W gs)) (hlen : LenA fs j) (hlen2 : LenA gs ks.length) (hbl : b + 1 ≤ l := by decide) (hg : Gl X x := by rfl)
    (hall : (backToKw pos (keywordEach kws X.env)).all (·.1.isSome) = true := by rfl) (hks : (backToKw pos (keywordEach kws X.env)).filterMap (·.1) = ks := by rfl)
    (hdb : (x == ("__debug__" : Str)) = false := by decide) (he : starEach (e :: es) X.env = (false, eval e X.env) :: starEach es X.env := by rfl)
    (hpl : ((backTo pos (starEach (e :: es) X.env)).any (·.1) || (backToKw pos (keywordEach kws X.env)).any (·.1.isNone)) = false := by rfl) :
    PE X (.Call (.Name x p) (e :: es) kws pos) (tD X.K X.mg W (eCall (mkO x (arrG idx j dm) F) (aApp fs gs))) := by
  obtain ⟨C, f, fd, ps, g, gV, M, Fo, hm, hb, A⟩ := MA.ex
  exact se_mkK M Fo (hr.mono hbl) hm hb A ha hkw hg hall hks hlen hlen2 hdb he hpl
theorem sm_P (MA : MkPos X.prog X.w X.K X.mg X.base x b n dd F) (hr : Room l X.A) (ha : PA X (e :: es) (tDL X.K X.mg W fs)) {q : Nat} (hlen : LenA fs q) (hq : q + dd.length + 1 = n := by rfl) (hbl : b + 1 ≤ l := by decide) (hg : Gl X x := by rfl)
    (hdb : (x == ("__debug__" : Str)) = false := by decide) (he : starEach (e :: es) X.env = (false, eval e X.env) :: starEach es X.env := by rfl) (hpl : (backTo pos (starEach es X.env)).any (·.1) = false := by rfl) :
    PE X (.Call (.Name x p) (e :: es) [] pos) (tD X.K X.mg W (eCall (mkO x (fun s ds => s :: (ds ++ dd)) F) fs)) := by
  obtain ⟨C, f, fd, ps, dvs, dsv, M, Fo, hm, hb, hd, hdd⟩ := MA.ex
  exact se_mk M Fo (hr.mono hbl) hm hb hd hdd ha hg (fun ρ h ds h' e => by rw [hlen ρ h ds h' e]; exact hq) hdb he hpl
end
section
variable {P : Program} {w : World} {K : PySem.W.Frag} {mg : Str → Option Value} {base : Heap} {x qual : Str} {st : Stmt} {f C : Addr} {fd : FuncData} {F : FD}
/-- MkAt of a class whose __init__ has keyword-only defaults alone: n = j + 1 positional values, ms the ones that lack -/
theorem mk_at {b j : Nat} {ks ps : List Str} {idx : List Nat} {dm : List D} {ms : List (Str × V)} {D0 : Addr} {oc doc pm cdv ct : Value} {od an : Option Addr} {osl : Array (Option Value)}
    (l : K.lookup f = some ⟨oc, od, .func (PySem.W.fnOf x qual (defArgs st) (defBody st) (defScope st) .none (.ref D0) doc pm an cdv ct), osl⟩) (c : PySem.W.codeIn K cdv qual = true) (kp : PySem.W.keepIn K (.ref f) = true)
    (M : Mk K C f) {cn : Str} (hC : mg cn = some (.ref C))
    (Fo : FnOk P w K mg base (L2.CX P w) b f (PySem.W.fnOf x qual (defArgs st) (defBody st) (defScope st) .none (.ref D0) doc pm an cdv ct) ps (spF K mg idx.length F))
    (hq : ∀ q ∈ ms, ∃ u, PySem.W.nsIn K D0 q.1 = some (some u) ∧ RelV q.2 u)
    (hidx : ∀ i ∈ idx, i < j + 1 + dm.length + ks.length) (hdm : ∀ m S, RepL K mg m S dm (ms.map (·.2)))
    (h : ∀ (doc pm : Value) (an : Option Addr) (cdv ct : Value) (us mv ws : List Value), us.length = j + 1 → mv.length = ms.length → ws.length = ks.length →
      KwChain D0 ((ms.map (·.1)).zip mv) (bindArgs (PySem.W.fnOf x qual (defArgs st) (defBody st) (defScope st) .none (.ref D0) doc pm an cdv ct) ⟨us, ks.zip ws⟩) (ps.zip (perm idx (us ++ mv ++ ws)))) :
    MkAt P w K mg base cn b j ks idx dm F := by
  obtain ⟨mv, hlm, rk, hks⟩ := kwd_vals (ms := ms) hq
  refine ⟨C, f, _, ps, fun us ws => perm idx (us ++ mv ++ ws), fun vs zs => perm idx (vs ++ ms.map (·.2) ++ zs), M, Fo, hC, ⟨fun s us ws X l1 l2 => BindsTo.of_looks fun M => KwChain.looks X hks (h doc pm an cdv ct us mv ws l1 hlm l2), fun r1 r2 => vals_perm ((r1.append rk).append r2) idx⟩, ⟨fun m S self v ds es vs zs h1 h2 r0 r1 r2 => ?_, fun self ds hl => ?_⟩⟩
  · unfold arrG
    rw [show (ds ++ es).take j = ds by rw [← h1, List.take_left], show (ds ++ es).drop j = es by rw [← h1, List.drop_left]]
    exact repL_perm (((RepL.cons r0 r1).append (hdm m S)).append r2) idx
  · unfold arrG
    refine len_perm fun i hi => ?_
    have := hidx i hi
    simp only [List.length_append, List.length_cons, List.length_take, List.length_drop]
    omega
end
/-- a default that is an empty tuple of the written part -/
theorem rep_tup0 {K : PySem.W.Frag} {mg : Str → Option Value} {m : List Addr} {S : Hp} {T : Addr} {od : Option Addr} {n : Nat} {sl : Array (Option Value)} (e : K.lookup T = some ⟨.type "tuple", od, .seq #[] n, sl⟩) : Rep K mg m S (.tup []) (.ref T) := by
  unfold Rep
  exact ⟨T, [], rfl, .inr ⟨_, #[], n, e, rfl, rfl, by simp, .nil⟩, RepL.nil⟩
end FK

/-! part: FKP -/
set_option Elab.async false
set_option linter.all false
set_option maxRecDepth 100000
set_option maxHeartbeats 4000000
/-! FKP: len(set(xs)), xs a list of tuples of ints. -/
namespace FK
open PySem PySem.Spec L2
def cardL : List (List Int) → Nat
  | [] => 0
  | k :: r => cardL r + if k ∈ r then 0 else 1
theorem nodup_len_le {α : Type} [DecidableEq α] : ∀ {xs ys : List α}, xs.Nodup → (∀ x ∈ xs, x ∈ ys) → xs.length ≤ ys.length
  | [], ys, _, _ => Nat.zero_le _
  | x :: xs, ys, nd, h => by
    rw [List.nodup_cons] at nd
    have hx := h x List.mem_cons_self
    have := nodup_len_le (xs := xs) (ys := ys.erase x) nd.2 fun y hy => (List.mem_erase_of_ne (fun (z : y = x) => nd.1 (by rw [← z]; exact hy))).mpr (h y (List.mem_cons_of_mem _ hy))
    rw [List.length_erase_of_mem hx] at this
    have := List.length_pos_of_mem hx
    rw [List.length_cons]
    omega
theorem cardL_of : ∀ (ks : List (List Int)), ∃ L : List (List Int), L.Nodup ∧ (∀ x, x ∈ L ↔ x ∈ ks) ∧ L.length = cardL ks
  | [] => ⟨[], List.nodup_nil, fun _ => Iff.rfl, rfl⟩
  | k :: r => by
    obtain ⟨L, h1, h2, h3⟩ := cardL_of r
    unfold cardL
    by_cases h : k ∈ r
    · rw [if_pos h]
      refine ⟨L, h1, fun x => ?_, h3⟩
      rw [h2 x, List.mem_cons]
      exact ⟨.inr, fun z => z.elim (fun z => z ▸ h) id⟩
    · rw [if_neg h]
      refine ⟨k :: L, List.nodup_cons.mpr ⟨fun z => h ((h2 k).mp z), h1⟩, fun x => ?_, by rw [List.length_cons, h3]⟩
      rw [List.mem_cons, List.mem_cons, h2 x]
theorem card_eq {L ks : List (List Int)} (nd : L.Nodup) (h1 : ∀ x ∈ L, x ∈ ks) (h2 : ∀ x ∈ ks, x ∈ L) : L.length = cardL ks := by
  obtain ⟨M, m1, m2, m3⟩ := cardL_of ks
  rw [← m3]
  exact Nat.le_antisymm (nodup_len_le nd fun x hx => (m2 x).mpr (h1 x hx)) (nodup_len_le m1 fun x hx => h2 x ((m2 x).mp hx))
theorem card_le : ∀ ks : List (List Int), cardL ks ≤ ks.length
  | [] => Nat.le_refl _
  | k :: r => by
    have := card_le r
    unfold cardL
    rw [List.length_cons]
    split <;> omega
theorem card_nodup : ∀ {ks : List (List Int)}, cardL ks = ks.length ↔ ks.Nodup
  | [] => ⟨fun _ => List.nodup_nil, fun _ => rfl⟩
  | k :: r => by
    have := card_le r
    have ih := card_nodup (ks := r)
    unfold cardL
    rw [List.nodup_cons, List.length_cons]
    by_cases h : k ∈ r
    · rw [if_pos h]
      exact ⟨fun z => by omega, fun z => absurd h z.1⟩
    · rw [if_neg h]
      exact ⟨fun z => ⟨h, ih.mp (by omega)⟩, fun z => by rw [ih.mpr z.2]⟩
/-- tuples of ints as lists of ints -/
def keysD : List D → Option (List (List Int))
  | [] => some []
  | .tup xs :: r => match intsD xs, keysD r with
    | some k, some ks => some (k :: ks)
    | _, _ => none
  | _ => none
def dLenSet (x : D) : M D := fun h => match lstOf h x with
  | some xs => match keysD xs with
    | some ks => if ks.length < 64 then .ok (.int (cardL ks)) h else .bad
    | none => .bad
  | none => .bad
section
variable {K : PySem.W.Frag} {mg : Str → Option Value} {Z m : List Addr} {H : Hp} {S : Hp}
theorem ints_rep : ∀ {xs : List D} {vs : List V} {k : List Int}, intsD xs = some k → RepL K mg m S xs vs → vs = k.map V.int
  | [], vs, k, e, r => by cases e; exact r.of_nil
  | d :: ds, vs, k, e, r => by
    cases d with
    | int i =>
      unfold intsD at e
      cases q : intsD ds with
      | none => rw [q] at e; cases e
      | some k' =>
        rw [q] at e
        cases e
        obtain ⟨v, t, rfl, a, b⟩ := r.of_cons
        obtain rfl := rep_int a
        rw [ints_rep q b]
        rfl
    | _ => cases e
theorem keys_rep : ∀ {xs : List D} {vs : List V} {ks : List (List Int)}, keysD xs = some ks → RepL K mg m (hide (Z ++ m) H) xs vs → ∃ ps : List (Addr × List Int), vs = ps.map (fun p => V.ref p.1) ∧ ps.map (·.2) = ks ∧ ∀ p ∈ ps, SqT K H p.1 (p.2.map V.int)
  | [], vs, ks, e, r => by cases e; exact ⟨[], r.of_nil, rfl, fun p h => by cases h⟩
  | d :: ds, vs, ks, e, r => by
    cases d with
    | tup xs =>
      unfold keysD at e
      cases q : intsD xs with
      | none => rw [q] at e; cases e
      | some k =>
        cases q2 : keysD ds with
        | none => rw [q, q2] at e; cases e
        | some ks' =>
          rw [q, q2] at e
          cases e
          obtain ⟨v, t, rfl, a, b⟩ := r.of_cons
          obtain ⟨ps, rfl, h2, h3⟩ := keys_rep q2 b
          unfold Rep at a
          obtain ⟨p, us, rfl, g, rr⟩ := a
          obtain rfl := ints_rep q rr
          refine ⟨(p, k) :: ps, rfl, by rw [List.map_cons, h2], fun x hx => ?_⟩
          rcases List.mem_cons.mp hx with rfl | hx
          · exact hide_sub.sqt g
          · exact h3 x hx
    | _ => cases e
end
open PyProof.Rows in
def tLenSetT (K : PySem.W.Frag) (ta : TE) : TE := fun σ H Q => ta σ H fun x H1 => ∃ (l : Addr) (ks : List (Addr × List Int)), x = V.ref l ∧ SqL K H1 l (ks.map fun p => V.ref p.1) ∧ (∀ p ∈ ks, SqT K H1 p.1 (p.2.map V.int)) ∧ ks.length < 64 ∧ Q (.int (cardL (ks.map (·.2)))) H1
section
variable {X : Cx} {W : WX}
open PyProof.Rows in
theorem pe_lenSetT {a : Expr} {ta : TE} {p p2 q pos : Pos} (hc : X.calm = true) (hu : X.A.units + 64 < cLine) (hg : Gl X "len") (hm : X.mg "len" = none) (hg2 : Gl X "set") (hm2 : X.mg "set" = none) (ha : PE X a ta)
    (na : starEach [a] X.env = (false, eval a X.env) :: starEach [] X.env := by rfl) : PE X (.Call (.Name "len" p) [.Call (.Name "set" p2) [a] [] q] [] pos) (tLenSetT X.K ta) := by
  refine ⟨fun pins s σ H Q I h => ?_⟩
  refine Call_ (ld_blt I hg hm PySem.boot_len ?_)
  refine PyProof.Rows.callWith_builtin1 (PyProof.Rows.args_cons ?_ rfl) rfl rfl
  refine Call_ (ld_blt I hg2 hm2 PyProof.Rows.boot_set ?_)
  refine PyProof.Rows.callWith_type1 (PyProof.Rows.args_cons (thn (ha.run pins s σ H _ I h) fun v s1 ⟨x, H1, I1, r1, q1⟩ => PyProof.Rows.args_nil ?_) na) na rfl
  obtain ⟨l, ks, rfl, hq, hk, hf, q1⟩ := q1
  cases r1
  obtain ⟨its, r, pl, hz⟩ := I1.list hq
  refine call_set_tups (P := X.prog) (w := X.w) ks (I1.ok.hd hc) pl.isList (by simpa using refs_of_vals r) (fun p hp => I1.isT (hk p hp)) hf (by omega) fun h' tk L es ep t R g k => ?_
  refine PyProof.Rows.args_nil ?_
  have I2 : Inv X pins σ H1 { s1 with heap := h', toks := tk } := I1.kept fun b o e => k b o e
  obtain ⟨o, ho, hex, hd⟩ := R.ob
  have hL : L.length = cardL (ks.map (·.2)) := by
    rw [← List.length_map (f := (·.2)) (as := L)]
    refine card_eq R.nd (fun x hx => ?_) (fun x hx => ?_)
    · obtain ⟨p, hp, rfl⟩ := List.mem_map.mp hx
      exact List.mem_map.mpr ⟨p, List.mem_of_mem_take (g.sub p hp), rfl⟩
    · obtain ⟨p, hp, rfl⟩ := List.mem_map.mp hx
      exact g.all p (by rw [List.take_length]; exact hp)
  have hsz := SetTR.size (s := { s1 with heap := h' }) R
  have hfw := R.few
  refine call_len_set ho hex hd (SetTR.fits (s := { s1 with heap := h' }) R) (by rw [hsz]; omega) ⟨.int (cardL (ks.map (·.2))), H1, I2.tok _, ⟨_, by rw [hsz, hL]⟩, q1⟩
theorem se_lenSet {k : Nat} {a : Expr} {f : ED} {p p2 q pos : Pos} (hc : X.calm = true) (hm : X.mg "len" = none) (hm2 : X.mg "set" = none) (hr : Room k X.A) (ha : PE X a (tD X.K X.mg W f)) (hg : Gl X "len" := by rfl) (hg2 : Gl X "set" := by rfl)
    (na : starEach [a] X.env = (false, eval a X.env) :: starEach [] X.env := by rfl) : PE X (.Call (.Name "len" p) [.Call (.Name "set" p2) [a] [] q] [] pos) (tD X.K X.mg W (e1 dLenSet f)) :=
  pick fun σ H Q h => ⟨_, pe_lenSetT hc hr.units hg hm hg2 hm2 ha na, den1 (r := fun x H1 Q => ∃ (l : Addr) (ks : List (Addr × List Int)), x = V.ref l ∧ SqL X.K H1 l (ks.map fun p => V.ref p.1) ∧ (∀ p ∈ ks, SqT X.K H1 p.1 (p.2.map V.int)) ∧ ks.length < 64 ∧ Q (.int (cardL (ks.map (·.2)))) H1) h fun v H Q ⟨Z, m, c, σ', x, hk, r, p⟩ => by
    unfold dLenSet at p
    split at p
    · rename_i xs ex
      split at p
      · rename_i ks ek
        split at p
        · rename_i hl
          obtain ⟨l, vs, rfl, g, rl⟩ := hk.rlstOf r ex
          obtain ⟨ps, rfl, h2, h3⟩ := keys_rep ek rl
          subst h2
          rw [List.length_map] at hl
          exact ⟨l, ps, rfl, SqL.of g, h3, hl, put_int hk p⟩
        · exact p.elim
      · exact p.elim
    · exact p.elim⟩
end
end FK

/-! part: FKQ -/
set_option Elab.async false
set_option linter.all false
set_option maxRecDepth 100000
set_option maxHeartbeats 4000000
/-! FKQ: methods called on instances. -/
namespace FK
open PySem PySem.Spec L2
/-- x is an instance of c without a field m -/
def isI (c m : Str) (x : D) (h : CH) : Bool := match x with
  | .ref n => match h[n]? with
    | some (.ins c' ns _) => decide (c' = c) && !ns.contains m
    | _ => false
  | .obj c' ns _ => decide (c' = c) && !ns.contains m
  | _ => false
def eMi (c m : Str) (call : List D → M D) (f : ED) (fs : AD) : ED := fun ρ => M.bind (f ρ) fun x h => if isI c m x h = true then M.bind (fs ρ) (fun ds => call (x :: ds)) h else .bad
theorem lookup_none {m : Str} : ∀ {fs : List (Str × V)}, (fs.map (·.1)).contains m = false → fs.lookup m = none
  | [], _ => rfl
  | p :: fs, h => by
    rw [List.map_cons, List.contains_cons, Bool.or_eq_false_iff] at h
    rw [List.lookup_cons, h.1]
    exact lookup_none h.2
/-- what a method's call asks -/
structure MetAt (P : Program) (w : World) (K : PySem.W.Frag) (mg : Str → Option Value) (base : Heap) (c m : Str) (k n : Nat) (F : FD) : Prop where
  ex : ∃ (C f : Addr) (fd : FuncData) (ps : List Str), mg c = some (.ref C) ∧ Cls K C ∧ Meth K C m f ∧ FnOk P w K mg base (L2.CX P w) k f fd ps (spF K mg n F) ∧ Binds K fd ps []
def tMethSD (C : Addr) (m : Str) (sp : Sp) (E : L2.St → XK) (ta : TE) (t : TA) : TE := fun σ H Q => ta σ H fun x H1 => ∃ a dx fs, x = V.ref a ∧ H1 a = some (.ins C dx fs) ∧ fs.lookup m = none ∧ t σ H1 fun vs H2 => sp (x :: (vs ++ [])) H2 Q (E σ)
section
variable {X : Cx} {CX : CXT} {k : Nat} {C f : Addr} {m : Str} {fd : FuncData} {ps : List Str} {sp : Sp} {E : L2.St → XK} {o e : Expr} {es : List Expr} {ta : TE} {t : TA} {apos pos : Pos}
theorem pe_methSD {pl : Sem Bool} (he : PE X o ta) (c : Cls X.K C) (hm : Meth X.K C m f) (F : FnOk X.prog X.w X.K X.mg X.base CX k f fd ps sp) (hr : Room k X.A) (hb : Binds X.K fd ps []) (hx : ∀ σ, PassesAt CX X σ (E σ)) (ha : PA X (e :: es) t)
    (hst : starEach (e :: es) X.env = (false, eval e X.env) :: starEach es X.env := by rfl) (hpl : (backTo pos (starEach es X.env)).any (·.1) = false := by rfl)
    (ht : eval (.Call (.Attribute o m apos) (e :: es) [] pos) X.env = (do
      let ov ← eval o X.env
      standAt apos.atName
      let (f, first) ← holding [ov] (getMethod ov m pl)
      callWith pos f first (backTo pos (starEach (e :: es) X.env)) (backToKw pos (keywordEach [] X.env))) := by rfl) :
    PE X (.Call (.Attribute o m apos) (e :: es) [] pos) (tMethSD C m sp E ta t) := by
  refine ⟨fun pins s σ H Q I h => ?_⟩
  refine PySem.W.methodCall_KW (pl := pl) (thn (he.run pins s σ H _ I h) fun u s1 ⟨x, H1, I1, rx, a, dx, fs, ex, ea, l, q⟩ => ?_) ht
  subst ex
  obtain rfl : u = Value.ref a := rx
  refine getmeth_ok I1 ea c hm l ?_
  refine PySem.W.callWith_K (first := [.ref a]) (h₀ := X.base) I.ok.mod.kin hm.kp (thn (ha.run pos pins s1 σ H1 _ I1 q) fun us s2 ⟨vs, H2, I2, r, q2⟩ => ⟨I2.kIn, ?_⟩) hst hpl
  exact run_fnSD (us := .ref a :: us) (vs := .ref a :: vs) F hr hb .nil (hx σ) I2 (.cons rfl r) q2
end
def tMethSD0 (C : Addr) (m : Str) (sp : Sp) (E : L2.St → XK) (ta : TE) : TE := fun σ H Q => ta σ H fun x H1 => ∃ a dx fs, x = V.ref a ∧ H1 a = some (.ins C dx fs) ∧ fs.lookup m = none ∧ sp (x :: []) H1 Q (E σ)
section
variable {X : Cx} {CX : CXT} {k : Nat} {C f : Addr} {m : Str} {fd : FuncData} {ps : List Str} {sp : Sp} {E : L2.St → XK} {o : Expr} {ta : TE} {apos pos : Pos}
theorem pe_methSD0 {pl : Sem Bool} (he : PE X o ta) (c : Cls X.K C) (hm : Meth X.K C m f) (F : FnOk X.prog X.w X.K X.mg X.base CX k f fd ps sp) (hr : Room k X.A) (hb : Binds X.K fd ps []) (hx : ∀ σ, PassesAt CX X σ (E σ))
    (ht : eval (.Call (.Attribute o m apos) [] [] pos) X.env = (do
      let ov ← eval o X.env
      standAt apos.atName
      let (f, first) ← holding [ov] (getMethod ov m pl)
      callWith pos f first (backTo pos (starEach [] X.env)) (backToKw pos (keywordEach [] X.env))) := by rfl) :
    PE X (.Call (.Attribute o m apos) [] [] pos) (tMethSD0 C m sp E ta) := by
  refine ⟨fun pins s σ H Q I h => ?_⟩
  refine PySem.W.methodCall_KW (pl := pl) (thn (he.run pins s σ H _ I h) fun u s1 ⟨x, H1, I1, rx, a, dx, fs, ex, ea, l, q⟩ => ?_) ht
  subst ex
  obtain rfl : u = Value.ref a := rx
  refine getmeth_ok I1 ea c hm l ?_
  exact PySem.W.callWith_K0 (first := [.ref a]) I1.kIn hm.kp (run_fnSD (us := [.ref a]) (vs := [.ref a]) F hr hb .nil (hx σ) I1 (.cons rfl .nil) q)
end
/-- an instance as it lies -/
theorem isI_ins {K : PySem.W.Frag} {mg : Str → Option Value} {Z m : List Addr} {H : Hp} {h : CH} (hk : HeapOk K mg Z m h H) {d : D} {v : V} (r : Rep K mg m (hide (Z ++ m) H) d v) {c a : Str} (e : isI c a d h = true) {C : Addr} (hC : mg c = some (.ref C)) : ∃ p dx fs, v = .ref p ∧ H p = some (.ins C dx fs) ∧ fs.lookup a = none := by
  unfold isI at e
  cases d with
  | ref n =>
    dsimp only at e
    cases q : h[n]? with
    | none => rw [q] at e; cases e
    | some c' =>
      rw [q] at e
      cases c' with
      | lst _ => cases e
      | tab _ => cases e
      | dS _ _ => cases e
      | dM _ _ _ => cases e
      | ins c2 ns xs =>
        dsimp only at e
        rw [Bool.and_eq_true] at e
        have e1 := of_decide_eq_true e.1
        subst e1
        unfold Rep at r
        obtain ⟨p, h1, rfl⟩ := r
        obtain ⟨C', dx, fs, g1, g2, rfl, _⟩ := hk.cell _ _ p q h1
        rw [hC] at g2
        cases g2
        exact ⟨p, dx, fs, rfl, g1, lookup_none (by simpa using e.2)⟩
  | obj c2 ns xs =>
    dsimp only at e
    rw [Bool.and_eq_true] at e
    have e1 := of_decide_eq_true e.1
    subst e1
    unfold Rep at r
    obtain ⟨p, C', dx, fs, rfl, g1, g2, rfl, _⟩ := r
    rw [hC] at g2
    cases g2
    exact ⟨p, dx, fs, rfl, (hide_some g1).2, lookup_none (by simpa using e.2)⟩
  | _ => cases e
section
variable {X : Cx} {W : WX} {o e : Expr} {es : List Expr} {f : ED} {fs : AD} {c m : Str} {k j n : Nat} {F : FD} {cl : Nat → FD → List D → M D} {apos pos : Pos}
theorem se_mi {pl : Sem Bool} (hc : CallOk cl) (tk : Takes X W) (MT : MetAt X.prog X.w X.K X.mg X.base c m k n F) (hr : Room j X.A) (he : PE X o (tD X.K X.mg W f)) (ha : PA X (e :: es) (tDL X.K X.mg W fs)) (hkj : k ≤ j := by decide)
    (hst : starEach (e :: es) X.env = (false, eval e X.env) :: starEach es X.env := by rfl) (hpl : (backTo pos (starEach es X.env)).any (·.1) = false := by rfl)
    (ht : eval (.Call (.Attribute o m apos) (e :: es) [] pos) X.env = (do
      let ov ← eval o X.env
      standAt apos.atName
      let (f, first) ← holding [ov] (getMethod ov m pl)
      callWith pos f first (backTo pos (starEach (e :: es) X.env)) (backToKw pos (keywordEach [] X.env))) := by rfl) :
    PE X (.Call (.Attribute o m apos) (e :: es) [] pos) (tD X.K X.mg W (eMi c m (cl n F) f fs)) := by
  obtain ⟨C, g, fd, ps, hC, hcls, hm, Fo, hb⟩ := MT.ex
  refine pick fun σ H Q ⟨Z, mm, ρ, h, at', p⟩ => ⟨_, pe_methSD (E := fun σ => L2.WE W σ) he hcls hm Fo (hr.mono hkj) hb (fun σ => passAt tk σ) ha hst hpl ht, ?_⟩
  refine ⟨Z, mm, ρ, h, at', (PostG.bind p).imp fun v H1 ⟨x, m1, h1, ex1, hk1, r1, _, q1⟩ => ?_⟩
  split at q1
  · rename_i hi
    obtain ⟨p, dx, fs', rfl, g1, g2⟩ := isI_ins hk1 r1 hi hC
    refine ⟨p, dx, fs', rfl, g1, g2, Z, m1, ρ, h1, ⟨hk1, ex1.env at'.en⟩, (PostG.bind q1).imp fun vs H2 ⟨ds, m2, h2, ex2, hk2, r2, _, q2⟩ => ?_⟩
    rw [List.append_nil]
    exact call_sp hc hk2 (RepL.cons (ex2.rep r1) r2) q2
  · exact q1.elim
theorem se_mi0 {pl : Sem Bool} (hc : CallOk cl) (tk : Takes X W) (MT : MetAt X.prog X.w X.K X.mg X.base c m k n F) (hr : Room j X.A) (he : PE X o (tD X.K X.mg W f)) (hkj : k ≤ j := by decide)
    (ht : eval (.Call (.Attribute o m apos) [] [] pos) X.env = (do
      let ov ← eval o X.env
      standAt apos.atName
      let (f, first) ← holding [ov] (getMethod ov m pl)
      callWith pos f first (backTo pos (starEach [] X.env)) (backToKw pos (keywordEach [] X.env))) := by rfl) :
    PE X (.Call (.Attribute o m apos) [] [] pos) (tD X.K X.mg W (eMi c m (cl n F) f aNil)) := by
  obtain ⟨C, g, fd, ps, hC, hcls, hm, Fo, hb⟩ := MT.ex
  refine pick fun σ H Q ⟨Z, mm, ρ, h, at', p⟩ => ⟨_, pe_methSD0 (E := fun σ => L2.WE W σ) he hcls hm Fo (hr.mono hkj) hb (fun σ => passAt tk σ) ht, ?_⟩
  refine ⟨Z, mm, ρ, h, at', (PostG.bind p).imp fun v H1 ⟨x, m1, h1, ex1, hk1, r1, _, q1⟩ => ?_⟩
  split at q1
  · rename_i hi
    obtain ⟨p, dx, fs', rfl, g1, g2⟩ := isI_ins hk1 r1 hi hC
    refine ⟨p, dx, fs', rfl, g1, g2, ?_⟩
    exact call_sp hc hk1 (RepL.cons r1 RepL.nil) q1
  · exact q1.elim
end
/-! equality of data with cells in them -/
def dEqF (x y : D) : M D := fun h => match fz h x, fz h y with
  | some a, some b => if a.dat = true ∧ b.dat = true ∧ min a.dep b.dep ≤ 60 then .ok (.bl (a.eqb b)) h else .bad
  | _, _ => .bad
def dNeF (x y : D) : M D := fun h => match fz h x, fz h y with
  | some a, some b => if a.dat = true ∧ b.dat = true ∧ min a.dep b.dep ≤ 60 then .ok (.bl (!a.eqb b)) h else .bad
  | _, _ => .bad
section
variable {X : Cx} {W : WX}
theorem op_dEqF (hu : X.A.units + 60 < cLine) : OpR X (compareOp .Eq) (rD2 X.K X.mg W dEqF) := by
  intro pins s σ H vx vy v u Q I rx ry ⟨Z, m, h, σ', x, y, hk, r1, r2, p⟩
  unfold dEqF at p
  split at p
  · rename_i a b e1 e2
    split at p
    · rename_i hz
      obtain ⟨d1, d2, d3⟩ := hz
      have r1' := (fz_rep (m' := []) hk e1 r1).1
      have r2' := (fz_rep (m' := []) hk e2 r2).1
      obtain ⟨as, q1⟩ := Dp.reads I _ _ v (Rep.dp hide_sub _ _ r1' d1) rx
      obtain ⟨bs, q2⟩ := Dp.reads I _ _ u (Rep.dp hide_sub _ _ r2' d2) ry
      exact SeqAt.compareEq_reads q1 q2 (Rep.lay _ _ r1' d1) (Rep.lay _ _ r2' d2) (by rw [D.dep_py _ d1, D.dep_py _ d2]; omega) ⟨.bl _, H, I, rfl, put_bl hk p⟩
    · exact p.elim
  · exact p.elim
theorem op_dNeF (hu : X.A.units + 60 < cLine) : OpR X (compareOp .NotEq) (rD2 X.K X.mg W dNeF) := by
  intro pins s σ H vx vy v u Q I rx ry ⟨Z, m, h, σ', x, y, hk, r1, r2, p⟩
  unfold dNeF at p
  split at p
  · rename_i a b e1 e2
    split at p
    · rename_i hz
      obtain ⟨d1, d2, d3⟩ := hz
      have r1' := (fz_rep (m' := []) hk e1 r1).1
      have r2' := (fz_rep (m' := []) hk e2 r2).1
      obtain ⟨as, q1⟩ := Dp.reads I _ _ v (Rep.dp hide_sub _ _ r1' d1) rx
      obtain ⟨bs, q2⟩ := Dp.reads I _ _ u (Rep.dp hide_sub _ _ r2' d2) ry
      exact SeqAt.compareNe_reads q1 q2 (Rep.lay _ _ r1' d1) (Rep.lay _ _ r2' d2) (by rw [D.dep_py _ d1, D.dep_py _ d2]; omega) ⟨.bl _, H, I, rfl, put_bl hk p⟩
    · exact p.elim
  · exact p.elim
theorem bo_eqF : Boolish dEqF := by
  intro x y h d h' e
  unfold dEqF at e
  split at e
  · split at e
    · cases e; exact ⟨_, rfl, rfl⟩
    · cases e
  · cases e
theorem bo_neF : Boolish dNeF := by
  intro x y h d h' e
  unfold dNeF at e
  split at e
  · split at e
    · cases e; exact ⟨_, rfl, rfl⟩
    · cases e
  · cases e
end
/-! min(list of ints) -/
def minI : Int → List Int → Int
  | a, [] => a
  | a, b :: r => minI (if b < a then b else a) r
theorem minI_le : ∀ (a : Int) (r : List Int), minI a r ≤ a ∧ (∀ y ∈ r, minI a r ≤ y) ∧ (minI a r = a ∨ minI a r ∈ r)
  | a, [] => ⟨Int.le_refl _, fun y h => (by cases h), .inl rfl⟩
  | a, b :: r => by
    obtain ⟨h1, h2, h3⟩ := minI_le (if b < a then b else a) r
    show minI (if b < a then b else a) r ≤ a ∧ (∀ y ∈ b :: r, minI (if b < a then b else a) r ≤ y) ∧ (minI (if b < a then b else a) r = a ∨ minI (if b < a then b else a) r ∈ b :: r)
    generalize hM : minI (if b < a then b else a) r = M at *
    have hc : (if b < a then b else a) ≤ a ∧ (if b < a then b else a) ≤ b ∧ ((if b < a then b else a) = a ∨ (if b < a then b else a) = b) := by
      by_cases q : b < a
      · rw [if_pos q]; exact ⟨by omega, Int.le_refl _, .inr rfl⟩
      · rw [if_neg q]; exact ⟨Int.le_refl _, by omega, .inl rfl⟩
    refine ⟨by omega, fun y hy => ?_, ?_⟩
    · rcases List.mem_cons.mp hy with hy | hy
      · rw [hy]; omega
      · exact h2 y hy
    · rcases h3 with h3 | h3
      · rcases hc.2.2 with q | q
        · exact .inl (h3.trans q)
        · exact .inr (by rw [h3, q]; exact List.mem_cons_self)
      · exact .inr (List.mem_cons_of_mem _ h3)
def dMinL (ds : List D) : M D := fun h => match ds with
  | [d] => match lstOf h d with
    | some xs => match intsD xs with
      | some (n :: r) => .ok (.int (minI n r)) h
      | _ => .bad
    | none => .bad
  | _ => .bad
section
variable {X : Cx} {W : WX} {p pos : Pos} {e : Expr} {es : List Expr} {fs : AD}
theorem call_dMinL (hc : X.calm = true) : CallR X (.builtin "min") (rDL X.K X.mg W dMinL) := by
  intro pins s σ H vs us Q I r ⟨Z, m, h, σ', ds, hk, rp, p⟩
  unfold dMinL at p
  split at p
  · obtain ⟨v, rfl, g⟩ := repL_one rp
    split at p
    · rename_i xs hx
      split at p
      · rename_i n rr hi
        obtain ⟨a, ws, rfl, g1, g2⟩ := hk.rlstOf g hx
        have := ints_rep hi g2
        subst this
        obtain ⟨m1, m2, m3⟩ := minI_le n rr
        refine cr_min hc pins s σ H _ us Q I r ⟨a, n :: rr, rfl, SqL.of g1, Nat.zero_lt_succ _, fun k hk1 hk2 => ?_⟩
        have : k = minI n rr := by
          have a1 : minI n rr ≤ k := by
            rcases List.mem_cons.mp hk1 with z | z
            · rw [z]; exact m1
            · exact m2 k z
          have a2 : k ≤ minI n rr := by
            rcases m3 with z | z
            · rw [z]; exact hk2 n List.mem_cons_self
            · exact hk2 _ (List.mem_cons_of_mem _ z)
          omega
        rw [this]
        exact put_int hk p
      · exact p.elim
    · exact p.elim
  · exact p.elim
theorem sb_minl (hc : X.calm = true) (hm : X.mg "min" = none) (ha : PA X (e :: es) (tDL X.K X.mg W fs)) (hg : Gl X "min" := by rfl) (he : starEach (e :: es) X.env = (false, eval e X.env) :: starEach es X.env := by rfl) (hpl : (backTo pos (starEach es X.env)).any (·.1) = false := by rfl) :
    PE X (.Call (.Name "min" p) (e :: es) [] pos) (tD X.K X.mg W (eCall dMinL fs)) := se_callB (call_dMinL hc) hg hm PyProof.Rows.boot_min ha (by decide) (by decide) he hpl
end
/-- a default that is a tuple of one text, of the written part -/
theorem rep_tup1 {K : PySem.W.Frag} {mg : Str → Option Value} {m : List Addr} {S : Hp} {T : Addr} {od : Option Addr} {n : Nat} {sl : Array (Option Value)} {x : Str} {tk : Tok} (e : K.lookup T = some ⟨.type "tuple", od, .seq #[.str x tk] n, sl⟩) (hx : PyData.strOk x = true) : Rep K mg m S (.tup [.str x]) (.ref T) := by
  unfold Rep
  exact ⟨T, [.str x], rfl, .inr ⟨_, #[.str x tk], n, e, rfl, rfl, by simp [sizeLine_eq], .cons ⟨_, rfl⟩ .nil⟩, RepL.cons (by unfold Rep; exact ⟨rfl, hx⟩) RepL.nil⟩
end FK

/-! part: FKV -/
set_option Elab.async false
set_option linter.all false
set_option maxRecDepth 100000
set_option maxHeartbeats 1000000
namespace FK
open PySem PySem.Spec L2
theorem looks_forIn {M : Model} {h : Heap} {α β : Type} {f : α → β → Sem (ForInStep β)} (g : β → α → β) : ∀ (l : List α) (b : β), (∀ pre x post, l = pre ++ x :: post → PySem.W.Looks M h (f x (pre.foldl g b)) (.yield (g (pre.foldl g b) x))) → PySem.W.Looks M h (forIn l b f) (l.foldl g b)
  | [], b, _ => by
    rw [List.forIn_nil]
    exact PySem.W.Looks.now
  | x :: l, b, st => by
    rw [List.forIn_cons]
    refine PySem.W.Looks.andThen (st [] x l rfl) ?_
    exact looks_forIn g l (g b x) fun pre y post e => st (x :: pre) y post (by rw [e]; rfl)
theorem lk_none {n : Str} {l : List (Str × Value)} : List.lookup n l = none ↔ n ∉ l.map (·.1) := by
  induction l with
  | nil => simp
  | cons p l ih =>
    rw [List.lookup_cons, List.map_cons, List.mem_cons]
    by_cases q : n = p.1
    · subst q; simp
    · rw [show (n == p.1) = false by simpa using q]
      simp [ih, q]
theorem lookup_some {n : Str} {l : List (Str × Value)} (h : n ∈ l.map (·.1)) : ∃ v, List.lookup n l = some v := by
  cases e : List.lookup n l with
  | none => exact absurd h (lk_none.mp e)
  | some v => exact ⟨v, rfl⟩
theorem zip_fst {ps : List Str} {us : List Value} (l : us.length = ps.length) : (ps.zip us).map (·.1) = ps := List.map_fst_zip (by omega)
theorem lookup_zip {n : Str} : ∀ {nm : List Str} {vs : List Value}, vs.length = nm.length → n ∈ nm → List.lookup n (nm.zip vs) = vs[nm.idxOf n]?
  | [], _, _, h => by cases h
  | m :: nm, [], l, _ => by cases l
  | m :: nm, v :: vs, l, h => by
    rw [List.zip_cons_cons, List.lookup_cons, List.idxOf_cons]
    by_cases q : n = m
    · subst q; simp
    · have q2 : (m == n) = false := by simpa using fun z : m = n => q z.symm
      have q3 : (n == m) = false := by simpa using q
      rw [q2, q3]
      have := lookup_zip (n := n) (nm := nm) (vs := vs) (by simpa using l) ((List.mem_cons.mp h).resolve_left q)
      simpa using this
theorem lookup_self : ∀ {la : List Str} {mv : List Value}, mv.length = la.length → la.Nodup → la.map (fun n => (n, ((la.zip mv).lookup n).getD .none)) = la.zip mv
  | [], [], _, _ => rfl
  | [], _ :: _, l, _ => by cases l
  | m :: nm, [], l, _ => by cases l
  | m :: nm, v :: vs, l, h => by
    obtain ⟨h1, h2⟩ := List.nodup_cons.mp h
    rw [List.map_cons, List.zip_cons_cons]
    have e1 : ((m, ((List.lookup m ((m, v) :: nm.zip vs)).getD Value.none)) : Str × Value) = (m, v) := by simp [List.lookup_cons]
    rw [e1, ← lookup_self (la := nm) (mv := vs) (by simpa using l) h2]
    congr 1
    refine List.map_congr_left fun n hn => ?_
    have q : (n == m) = false := by
      have : n ≠ m := fun z => h1 (z ▸ hn)
      simpa using this
    rw [List.lookup_cons, q, lookup_self (la := nm) (mv := vs) (by simpa using l) h2]
theorem fill_zip {F : Str → Option Value} : ∀ {ps : List Str} {vs : List Value} {idx : List Nat}, ps.length = idx.length → (∀ (i : Nat) n j, ps[i]? = some n → idx[i]? = some j → F n = vs[j]?) → (∀ n ∈ ps, ∃ v, F n = some v) → ps.filterMap (fun n => (F n).map (n, ·)) = ps.zip (perm idx vs)
  | [], _, _, _, _, _ => rfl
  | p :: ps, vs, [], l, _, _ => by cases l
  | p :: ps, vs, j :: idx, l, h, h2 => by
    obtain ⟨v, hv⟩ := h2 p List.mem_cons_self
    have e := h 0 p j rfl rfl
    have ih := fill_zip (F := F) (ps := ps) (vs := vs) (idx := idx) (by simpa using l) (fun i n j a b => h (i + 1) n j a b) fun n hn => h2 n (List.mem_cons_of_mem _ hn)
    rw [List.filterMap_cons, hv]
    show (p, v) :: _ = _
    rw [ih]
    rw [e] at hv
    unfold perm
    rw [List.filterMap_cons, hv]
    rfl
theorem binds_kw {K : PySem.W.Frag} {fd : FuncData} {D0 : Addr} {M : Model} {h : Heap} (X : K.In h) (ps0 ko ks la ps : List Str) (idx : List Nat) (us ws mv : List Value) (h1 : fd.params.posonlyargs = []) (h2 : fd.params.args.map (·.arg) = ps0) (h3 : fd.params.kwonlyargs.map (·.arg) = ko) (hv : fd.params.vararg = none) (hkw : fd.params.kwarg = none) (hd : fd.defaults = .none) (hk : fd.kwdefaults = .ref D0) (l1 : us.length = ps0.length) (l2 : ws.length = ks.length) (l3 : mv.length = la.length)
    (c1 : ps0 ++ ko = ps) (c2 : (ps0 ++ la ++ ks).Nodup) (c2' : ko.Nodup) (c3 : ∀ k ∈ ks, k ∈ ko) (c4 : ko.filter (fun k => !ks.contains k) = la) (c5 : ps.map (fun n => (ps0 ++ la ++ ks).idxOf n) = idx)
    (hq : ∀ q ∈ la.zip mv, PySem.W.nsIn K D0 q.1 = some (some q.2)) : PySem.W.Looks M h (bindArgs fd ⟨us, ks.zip ws⟩) (ps.zip (perm idx (us ++ mv ++ ws))) := by
  unfold bindArgs
  simp only [h1, h2, h3, hv, hkw, hd, hk, List.map_nil, List.nil_append, Option.isSome_none, Bool.false_eq_true, if_false]
  have d1 : (ps0 ++ ks).Nodup := by
    rw [List.append_assoc] at c2
    have := (List.nodup_append.mp c2)
    refine List.nodup_append.mpr ⟨this.1, (List.nodup_append.mp this.2.1).2.1, fun a ha b hb => this.2.2 a ha b (List.mem_append_right _ hb)⟩
  refine PySem.W.Looks.andThen (a := (ps0.zip us ++ ks.zip ws, [])) ?_ ?_
  · refine cast (congrArg (PySem.W.Looks M h _) ?_) (looks_forIn (M := M) (h := h) (fun (s : List (Str × Value) × List (Str × Value)) x => (s.1 ++ [x], s.2)) (ks.zip ws) (ps0.zip us, []) fun pre x post e => ?_)
    · have : ∀ (l : List (Str × Value)) (a b : List (Str × Value)), l.foldl (fun (s : List (Str × Value) × List (Str × Value)) x => (s.1 ++ [x], s.2)) (a, b) = (a ++ l, b) := by
        intro l
        induction l with
        | nil => intro a b; simp
        | cons x l ih => intro a b; rw [List.foldl_cons, ih]; simp
      exact this _ _ _
    · have fo : ∀ (l : List (Str × Value)) (a b : List (Str × Value)), l.foldl (fun (s : List (Str × Value) × List (Str × Value)) x => (s.1 ++ [x], s.2)) (a, b) = (a ++ l, b) := by
        intro l
        induction l with
        | nil => intro a b; simp
        | cons x l ih => intro a b; rw [List.foldl_cons, ih]; simp
      rw [fo]
      have hz := zip_fst l2
      rw [e, List.map_append, List.map_cons] at hz
      have hx : x.1 ∈ ks := by rw [← hz]; simp
      have hko : ko.contains x.1 = true := by simpa using c3 _ hx
      rw [← hz] at d1
      have no : List.lookup x.1 (ps0.zip us ++ pre) = none := lk_none.mpr fun z => by
        rw [List.map_append, zip_fst l1] at z
        obtain ⟨n1, n2, n3⟩ := List.nodup_append.mp d1
        rcases List.mem_append.mp z with z | z
        · exact n3 _ z x.1 (by simp) rfl
        · obtain ⟨m1, m2, m3⟩ := List.nodup_append.mp n2
          exact m3 _ z x.1 (by simp) rfl
      rw [if_pos (by rw [hko, Bool.or_true]), no]
      exact PySem.W.Looks.now
  refine PySem.W.Looks.andThen (a := none) (PySem.W.Looks.of_pure rfl) ?_
  dsimp only
  have z1 : ps0.filter (fun n => (List.lookup n (ps0.zip us ++ ks.zip ws)).isNone) = [] := List.filter_eq_nil_iff.mpr fun n hn => by
    obtain ⟨v, e⟩ := lookup_some (n := n) (l := ps0.zip us ++ ks.zip ws) (by rw [List.map_append, zip_fst l1]; exact List.mem_append_left _ hn)
    rw [e]
    simp
  have t1 : (decide (us.length > ps0.length) && (none : Option Arg).isNone) = false := by rw [l1]; simp
  rw [if_neg (by rw [t1]; decide)]
  simp only [Option.getD_none, List.drop_nil, List.length_nil, Nat.sub_zero, List.take_length, List.zip_nil_right, z1, List.isEmpty_nil, Bool.not_true, Bool.false_eq_true, if_false, List.forIn_nil, pure_bind]
  obtain ⟨S1, hS1⟩ : ∃ S1, ps0.zip us ++ ks.zip ws = S1 := ⟨_, rfl⟩
  rw [hS1]
  have k1 : S1.map (·.1) = ps0 ++ ks := by rw [← hS1, List.map_append, zip_fst l1, zip_fst l2]
  have fo : ∀ (l : List Str) (a : List (Str × Value)) (b : List Str), l.foldl (fun (s : List (Str × Value) × List Str) n => if ks.contains n = true then s else (s.1 ++ [(n, ((la.zip mv).lookup n).getD .none)], s.2)) (a, b) = (a ++ (l.filter (fun k => !ks.contains k)).map (fun n => (n, ((la.zip mv).lookup n).getD .none)), b) := by
    intro l
    induction l with
    | nil => intro a b; simp
    | cons x l ih =>
      intro a b
      rw [List.foldl_cons]
      by_cases q : ks.contains x = true
      · rw [if_pos q, ih, List.filter_cons_of_neg (by rw [q]; decide)]
      · rw [if_neg q, ih, List.filter_cons_of_pos (by simpa using q)]
        simp
  have dla : la.Nodup := by rw [← c4]; exact c2'.filter _
  refine PySem.W.Looks.andThen (a := (S1 ++ la.zip mv, [])) ?_ ?_
  · refine cast (congrArg (PySem.W.Looks M h _) ?_) (looks_forIn (M := M) (h := h) (fun (s : List (Str × Value) × List Str) n => if ks.contains n = true then s else (s.1 ++ [(n, ((la.zip mv).lookup n).getD .none)], s.2)) ko (S1, []) fun pre x post e => ?_)
    · rw [fo, c4, lookup_self l3 dla]
    · rw [fo]
      have px : x ∉ pre := fun z => by
        rw [e] at c2'
        exact (List.nodup_append.mp c2').2.2 _ z x (by simp) rfl
      by_cases q : ks.contains x = true
      · obtain ⟨v, ev⟩ := lookup_some (n := x) (l := S1 ++ (pre.filter (fun k => !ks.contains k)).map (fun n => (n, ((la.zip mv).lookup n).getD .none))) (by
          rw [List.map_append, k1]
          exact List.mem_append_left _ (List.mem_append_right _ (by simpa using q)))
        dsimp only
        rw [ev, if_pos q]
        exact PySem.W.Looks.now
      · have xla : x ∈ la := by rw [← c4, e]; exact List.mem_filter.mpr ⟨by simp, by simpa using q⟩
        have no : List.lookup x (S1 ++ (pre.filter (fun k => !ks.contains k)).map (fun n => (n, ((la.zip mv).lookup n).getD .none))) = none := lk_none.mpr fun z => by
          rw [List.map_append, k1, List.map_map] at z
          rcases List.mem_append.mp z with z | z
          · rcases List.mem_append.mp z with z | z
            · exact (List.nodup_append.mp (List.nodup_append.mp c2).1).2.2 _ z x xla rfl
            · exact q (by simpa using z)
          · obtain ⟨y, hy, hy2⟩ := List.mem_map.mp z
            cases hy2
            exact px (List.mem_filter.mp hy).1
        dsimp only
        rw [no, if_neg q]
        obtain ⟨v, hv⟩ := lookup_some (n := x) (l := la.zip mv) (by rw [zip_fst l3]; exact xla)
        have hm : (x, v) ∈ la.zip mv := by
          have := List.lookup_eq_some_iff.mp hv
          obtain ⟨l1, l2, e, _⟩ := this
          rw [e]; simp
        rw [if_pos (show (none : Option Value).isNone = true from rfl), hv]
        exact PySem.W.Looks.andThen (PySem.W.looks_nsIn X (hq _ hm)) PySem.W.Looks.now
  dsimp only
  simp only [List.isEmpty_nil, Bool.not_true, Bool.false_eq_true, if_false]
  rw [c1]
  refine PySem.W.Looks.of_pure (congrArg pure ?_)
  have nm : (ps0.zip us ++ la.zip mv ++ ks.zip ws) = (ps0 ++ la ++ ks).zip (us ++ mv ++ ws) := by
    rw [List.zip_append (by simp [l1, l3]), List.zip_append l1.symm]
  have sw : ∀ n, List.lookup n (S1 ++ la.zip mv) = List.lookup n ((ps0 ++ la ++ ks).zip (us ++ mv ++ ws)) := fun n => by
    rw [← nm, ← hS1, List.lookup_append, List.lookup_append, List.lookup_append, List.lookup_append]
    by_cases q : n ∈ ks
    · have : List.lookup n (la.zip mv) = none := lk_none.mpr fun z => by
        rw [zip_fst l3] at z
        exact (List.nodup_append.mp c2).2.2 _ (List.mem_append_right _ z) n q rfl
      rw [this]
      simp
    · have : List.lookup n (ks.zip ws) = none := lk_none.mpr fun z => by
        rw [zip_fst l2] at z
        exact q z
      rw [this]
      simp
  have inn : ∀ n ∈ ps, n ∈ ps0 ++ la ++ ks := fun n hn => by
    rw [← c1] at hn
    rcases List.mem_append.mp hn with z | z
    · exact List.mem_append_left _ (List.mem_append_left _ z)
    · by_cases q : n ∈ ks
      · exact List.mem_append_right _ q
      · refine List.mem_append_left _ (List.mem_append_right _ ?_)
        rw [← c4]
        exact List.mem_filter.mpr ⟨z, by simpa using q⟩
  have ll : (us ++ mv ++ ws).length = (ps0 ++ la ++ ks).length := by simp [l1, l2, l3]
  refine fill_zip (by rw [← c5, List.length_map]) (fun i n j e1 e2 => ?_) (fun n hn => ?_)
  · rw [sw, lookup_zip ll (inn n (List.mem_of_getElem? e1))]
    rw [← c5, List.getElem?_map, e1] at e2
    cases e2
    rfl
  · obtain ⟨v, e⟩ := lookup_some (n := n) (l := (ps0 ++ la ++ ks).zip (us ++ mv ++ ws)) (by rw [zip_fst ll]; exact inn n hn)
    exact ⟨v, by rw [sw, e]⟩
section
variable {P : Program} {w : World} {K : PySem.W.Frag} {mg : Str → Option Value} {base : Heap} {x qual : Str} {st : Stmt} {f C : Addr} {fd : FuncData} {F : FD}
/-- MkAt of a class whose __init__ has keyword-only defaults alone, by names that are compared once -/
theorem mk_at2 {b j : Nat} {ks ps : List Str} {idx : List Nat} {dm : List D} {ms : List (Str × V)} {D0 : Addr} {oc doc pm cdv ct : Value} {od an : Option Addr} {osl : Array (Option Value)} (ps0 ko la : List Str)
    (l : K.lookup f = some ⟨oc, od, .func (PySem.W.fnOf x qual (defArgs st) (defBody st) (defScope st) .none (.ref D0) doc pm an cdv ct), osl⟩) (c : PySem.W.codeIn K cdv qual = true) (kp : PySem.W.keepIn K (.ref f) = true)
    (M : Mk K C f) {cn : Str} (hC : mg cn = some (.ref C))
    (Fo : FnOk P w K mg base (L2.CX P w) b f (PySem.W.fnOf x qual (defArgs st) (defBody st) (defScope st) .none (.ref D0) doc pm an cdv ct) ps (spF K mg idx.length F))
    (hq : ∀ q ∈ ms, ∃ u, PySem.W.nsIn K D0 q.1 = some (some u) ∧ RelV q.2 u)
    (hidx : ∀ i ∈ idx, i < j + 1 + dm.length + ks.length) (hdm : ∀ m S, RepL K mg m S dm (ms.map (·.2)))
    (h1 : (defArgs st).posonlyargs = []) (h2 : (defArgs st).args.map (·.arg) = ps0) (h3 : (defArgs st).kwonlyargs.map (·.arg) = ko) (h4 : (defArgs st).vararg = none) (h5 : (defArgs st).kwarg = none) (h6 : ps0.length = j + 1) (h7 : ms.map (·.1) = la)
    (c0 : ps0 ++ ko = ps ∧ (ps0 ++ la ++ ks).Nodup ∧ ko.Nodup ∧ (∀ k ∈ ks, k ∈ ko) ∧ ko.filter (fun k => !ks.contains k) = la ∧ ps.map (fun n => (ps0 ++ la ++ ks).idxOf n) = idx) :
    MkAt P w K mg base cn b j ks idx dm F := by
  obtain ⟨mv, hlm, rk, hks⟩ := kwd_vals (ms := ms) hq
  obtain ⟨c1, c2, c3, c4, c5, c6⟩ := c0
  refine ⟨C, f, _, ps, fun us ws => perm idx (us ++ mv ++ ws), fun vs zs => perm idx (vs ++ ms.map (·.2) ++ zs), M, Fo, hC, ⟨fun s us ws X l1 l2 => BindsTo.of_looks fun M => binds_kw (D0 := D0) X ps0 ko ks la ps idx us ws mv h1 h2 h3 h4 h5 rfl rfl (by rw [h6]; exact l1) l2 (by rw [hlm, ← h7, List.length_map]) c1 c2 c3 c4 c5 c6 (by rw [← h7]; exact hks), fun r1 r2 => vals_perm ((r1.append rk).append r2) idx⟩, ⟨fun m S self v ds es vs zs h1 h2 r0 r1 r2 => ?_, fun self ds hl => ?_⟩⟩
  · unfold arrG
    rw [show (ds ++ es).take j = ds by rw [← h1, List.take_left], show (ds ++ es).drop j = es by rw [← h1, List.drop_left]]
    exact repL_perm (((RepL.cons r0 r1).append (hdm m S)).append r2) idx
  · unfold arrG
    refine len_perm fun i hi => ?_
    have := hidx i hi
    simp only [List.length_append, List.length_cons, List.length_take, List.length_drop]
    omega
end
end FK

/-! part: FKW -/
set_option Elab.async false
set_option linter.all false
set_option maxRecDepth 100000
set_option maxHeartbeats 4000000
/-! FKW: sorted, min of data. -/
namespace FK
open PySem PySem.Spec L2
open PySem.W (EachIs AllAlike Sortable dataLe dataLt)
mutual
theorem D.flat_dat : ∀ d : D, d.flat = true → d.dat = true
  | .non, _ => rfl
  | .bl _, _ => rfl
  | .int _, _ => rfl
  | .str _, _ => rfl
  | .tup xs, h => by
    show D.datL xs = true
    exact D.flatL_dat xs (by simpa [D.flat] using h)
  | .lst _, h => by simp [D.flat] at h
  | .scr _, h => by simp [D.flat] at h
  | .obj _ _ _, h => by simp [D.flat] at h
  | .ref _, h => by simp [D.flat] at h
theorem D.flatL_dat : ∀ ds : List D, D.flatL ds = true → D.datL ds = true
  | [], _ => rfl
  | d :: ds, h => by
    have h' : d.flat = true ∧ D.flatL ds = true := by simpa [D.flatL] using h
    show (D.dat d && D.datL ds) = true
    rw [D.flat_dat d h'.1, D.flatL_dat ds h'.2]
    rfl
end
mutual
theorem reads_flat {h : Heap} : ∀ (d : D) (u : Value) (as : List Addr), d.flat = true → Reads h u d.py as → as = []
  | .non, u, as, _, r => by
    have r : Reads h u .none as := r
    cases r; rfl
  | .bl b, u, as, _, r => by
    have r : Reads h u (.bool b) as := r
    cases r; rfl
  | .int i, u, as, _, r => by
    have r : Reads h u (.int i) as := r
    cases r; rfl
  | .str x, u, as, _, r => by
    have r : Reads h u (.str x) as := r
    cases r; rfl
  | .tup xs, u, as, f, r => by
    have r : Reads h u (.tuple (D.pyL xs)) as := r
    cases r with
    | tuple _ _ _ q => exact readsL_flat xs _ _ (by simpa [D.flat] using f) q
  | .lst _, _, _, f, _ => by simp [D.flat] at f
  | .scr _, _, _, f, _ => by simp [D.flat] at f
  | .obj _ _ _, _, _, f, _ => by simp [D.flat] at f
  | .ref _, _, _, f, _ => by simp [D.flat] at f
theorem readsL_flat {h : Heap} : ∀ (ds : List D) (us : List Value) (as : List Addr), D.flatL ds = true → ReadsAll h us (D.pyL ds) as → as = []
  | [], us, as, _, r => by
    have r : ReadsAll h us [] as := r
    cases r; rfl
  | d :: ds, us, as, f, r => by
    have r : ReadsAll h us (d.py :: D.pyL ds) as := r
    have f' : d.flat = true ∧ D.flatL ds = true := by simpa [D.flatL] using f
    cases r with
    | cons h1 h2 => rw [reads_flat d _ _ f'.1 h1, readsL_flat ds _ _ f'.2 h2]; rfl
end
theorem flatL_of {ds : List D} {d : D} (h : D.flatL ds = true) (hd : d ∈ ds) : d.flat = true := by
  induction ds with
  | nil => cases hd
  | cons x xs ih =>
    have h' : x.flat = true ∧ D.flatL xs = true := by simpa [D.flatL] using h
    rcases List.mem_cons.mp hd with rfl | hd
    · exact h'.1
    · exact ih h'.2 hd
theorem depL_of {ds : List D} {d : D} (hd : d ∈ ds) : d.dep ≤ D.depL ds := by
  induction ds with
  | nil => cases hd
  | cons x xs ih =>
    show d.dep ≤ max (D.dep x) (D.depL xs)
    rcases List.mem_cons.mp hd with rfl | hd
    · omega
    · have := ih hd; omega
/-- the values us stand for the data ds -/
def RU (K : PySem.W.Frag) (mg : Str → Option Value) (m : List Addr) (S : Hp) (u : Value) (d : D) : Prop := ∃ v, RelV v u ∧ Rep K mg m S d v
section
variable {K : PySem.W.Frag} {mg : Str → Option Value} {m : List Addr} {S : Hp}
theorem each_of : ∀ {ds : List D} {vs : List V} {us : List Value}, RepL K mg m S ds vs → Vals vs us → EachIs (RU K mg m S) us ds
  | [], vs, us, r, q => by
    obtain rfl := r.of_nil
    cases q
    exact .nil
  | d :: ds, vs, us, r, q => by
    obtain ⟨v, t, rfl, a, b⟩ := r.of_cons
    cases q with
    | cons h1 h2 => exact .cons ⟨v, h1, a⟩ (each_of b h2)
theorem of_each : ∀ {ds : List D} {us : List Value}, EachIs (RU K mg m S) us ds → ∃ vs, Vals vs us ∧ RepL K mg m S ds vs
  | _, _, .nil => ⟨[], .nil, RepL.nil⟩
  | _, _, .cons ⟨v, h1, h2⟩ t => by
    obtain ⟨vs, q1, q2⟩ := of_each t
    exact ⟨v :: vs, .cons h1 q1, RepL.cons h2 q2⟩
end
theorem each_memR {α β : Type} {R R' : α → β → Prop} : ∀ {us : List α} {ds : List β}, EachIs R us ds → (∀ u d, d ∈ ds → R u d → R' u d) → EachIs R' us ds
  | _, _, .nil, _ => .nil
  | _, _, .cons h t, f => .cons (f _ _ List.mem_cons_self h) (each_memR t fun u d hd r => f u d (List.mem_cons_of_mem _ hd) r)
/-- data that can be sorted -/
structure SortOk (ks : List D) : Prop where
  flat : D.flatL ks = true
  dep : D.depL ks ≤ 20
  alike : AllAlike (ks.map D.py)
  sortable : Sortable (ks.map D.py)
/-- by the keys k -/
def leK (k : D → D) : D → D → Bool := dataLe false fun d => (k d).py
def sortD (k : D → D) (xs : List D) : List D := xs.mergeSort (leK k)
open Classical in
noncomputable def dSort (ds : List D) : M D := fun h =>
  match ds with
  | [x] => match lstOf h x with
    | some xs => if SortOk xs ∧ xs.length ≤ 1000000 then .ok (.lst (sortD (fun d => d) xs)) h else .bad
    | none => .bad
  | _ => .bad
/-- the sorted list: a cell -/
noncomputable def dSortC (ds : List D) : M D := fun h =>
  match dSort ds h with
  | .ok (.lst xs) _ => .ok (.ref h.length) (h ++ [.lst xs])
  | .ok _ _ => .bad
  | .exc c h => .exc c h
  | .bad => .bad
section
variable {X : Cx} {W : WX}
theorem sorted_V (hu : X.A.units + 60 < cLine) {pins : List (Addr × Obj)} {s : Shared} {σ : L2.St} {H : Hp} {Z m : List Addr} {h : CH} {Q : VK} {a : Addr} {vs : List V} {xs : List D} (I : Inv X pins σ H s) (hk : HeapOk X.K X.mg Z m h H)
    (g1 : H a = some (.lst vs)) (g2 : RepL X.K X.mg m (hide (Z ++ m) H) xs vs) (ok : SortOk xs) (hl : xs.length ≤ 1000000)
    (q : ∀ q out, H q = none → RepL X.K X.mg m (hide (Z ++ m) H) (sortD (fun d => d) xs) out → Q (.ref q) (upd H q (.lst out))) :
    wpAny (model X.prog X.w) X.A (call (.builtin "sorted") [.ref a]) (EP X pins σ Q) X.xe s := by
  obtain ⟨its, rv, pl, hz⟩ := I.list (SqL.of g1)
  have e : EachIs (RU X.K X.mg m (hide (Z ++ m) H)) its xs := each_of g2 rv
  have er : EachIs (fun v d => ∃ as, Reads s.heap v d.py as) its xs := each_memR e fun u d hd ⟨v, r1, r2⟩ => Dp.reads I d.py v u (Rep.dp hide_sub d v r2 (D.flat_dat d (flatL_of ok.flat hd))) r1
  have hs := sizeLine_eq
  refine PySem.W.sorted_data (R := RU X.K X.mg m (hide (Z ++ m) H)) (enc := D.py) pl.isList e er ok.alike ok.sortable (by omega) (fun d hd => ?_) fun out hlen ho => ?_
  · have h1 := ok.dep
    have h2 := depL_of hd
    rw [D.dep_py d (D.flat_dat d (flatL_of ok.flat hd))]
    omega
  · obtain ⟨ws, w1, w2⟩ := of_each ho
    obtain ⟨ep, he'⟩ := PyProof.Rows.sortedAll_at s.heap its out.toArray
    refine ⟨.ref (s.heap.objs.size + 1), upd H (s.heap.objs.size + 1) (.lst ws), I.laid (t' := s.toks) (fun _ _ => PyProof.Rows.sortedAll_old) (Nat.le_succ _) ⟨?_, out, ep, w1, he'⟩, rfl, q _ ws (I.hok.fresh (Nat.le_succ _)) w2⟩
    rw [w1.length, hlen]; omega
theorem call_dSort (hu : X.A.units + 60 < cLine) : CallR X (.builtin "sorted") (rDL X.K X.mg W dSort) := by
  intro pins s σ H vs us Q I r ⟨Z, m, h, σ', ds, hk, rp, p⟩
  unfold dSort at p
  split at p
  · obtain ⟨v, rfl, g⟩ := repL_one rp
    split at p
    · rename_i xs hx
      split at p
      · rename_i hc
        obtain ⟨a, ws, rfl, g1, g2⟩ := hk.rlstOf g hx
        obtain ⟨u, rfl, ru⟩ := vals1 r
        obtain rfl : u = Value.ref a := ru
        exact sorted_V hu I hk g1 g2 hc.1 hc.2 fun q out hq ro => p _ m _ (Ext.laid hk hq) (hk.laid hq) (by
          unfold Rep
          exact ⟨q, out, rfl, hk.seen hq, (Ext.laid hk hq).repL ro⟩)
      · exact p.elim
    · exact p.elim
  · exact p.elim
theorem call_dSortC (hu : X.A.units + 60 < cLine) : CallR X (.builtin "sorted") (rDL X.K X.mg W dSortC) := by
  intro pins s σ H vs us Q I r ⟨Z, m, h, σ', ds, hk, rp, p⟩
  unfold dSortC dSort at p
  split at p
  · rename_i xs0 h0 e0
    split at e0
    · obtain ⟨v, rfl, g⟩ := repL_one rp
      split at e0
      · rename_i xs hx
        split at e0
        · rename_i hc
          cases e0
          obtain ⟨a, ws, rfl, g1, g2⟩ := hk.rlstOf g hx
          obtain ⟨u, rfl, ru⟩ := vals1 r
          obtain rfl : u = Value.ref a := ru
          exact sorted_V hu I hk g1 g2 hc.1 hc.2 fun q out hq ro => put_cell hk ro p q hq
        · cases e0
      · cases e0
    · cases e0
  · exact p.elim
  · rename_i e0
    split at e0
    · split at e0
      · split at e0 <;> cases e0
      · cases e0
    · cases e0
  · exact p.elim
end
end FK

/-! part: FKX -/
set_option Elab.async false
set_option linter.all false
set_option maxRecDepth 100000
set_option maxHeartbeats 4000000
/-! FKX: sorted by a lambda of one parameter. -/
namespace FK
open PySem PySem.Spec L2
open PyProof.Rows (envOfC)
open PySem.W (EachIs AllAlike Sortable dataLe dataLt KeyPure kla_obj kla_fn TabsAt tabIn)
/-! ### the lambda is made -/
section
variable {X : Cx} {pins : List (Addr × Obj)} {σ : L2.St} {H : Hp} {s : Shared}
theorem lam_make {c P : Addr} {params : Arguments} {body : Expr} {scope : Scope} {pos : Pos} {E : Value → Shared → Prop} {Q : Value → Shared → Prop} {ps : Array Value} (I : Inv X pins σ H s) (TB : LamX.TabB X.base X.mg c P) (hcode : X.env.code = .ref c)
    (hP : H P = some (.tbl ps)) (ht : TriplesOk ps.toList) (ha : ∀ (pos : Pos) (cv : Value), codeAmong pos ps.toList = some cv → ∃ c', cv = .ref c' ∧ H c' = some (LamX.CodeO c' (X.env.qual ++ "<lambda>")))
    (hdef : defaultsOf params X.env = ([], [])) (hclo : cloFrom X.env.cells scope.names [] = []) (hfree : ∀ y ∈ scope.names, y.2 = .free → ∃ c, X.env.cells.lookup y.1 = some c)
    (h : ∀ (f c' : Addr) (pm ctv : Value) (H1 : Hp) (s' : Shared), Inv X pins σ H1 s' →
      (H1 = H ∨ (H c' = none ∧ ∃ l : Pos, H1 = upd (upd H c' (LamX.CodeO c' (X.env.qual ++ "<lambda>"))) P (.tbl (ps ++ #[rawInt l.line, rawInt l.col, .ref c'])))) →
      s'.heap.get? f = some (kla_obj "<lambda>" (X.env.qual ++ "<lambda>") params body scope [] pm c' ctv) → H1 c' = some (LamX.CodeO c' (X.env.qual ++ "<lambda>")) → Q (.ref f) s') :
    wpAny (model X.prog X.w) X.A (eval (.Lambda params body scope pos) X.env) Q E s := by
  refine PySem.W.kla_eval hdef ?_
  have bP : s.heap.BuiltinsAt X.mg P := TB.bm.keeps I.bk
  have hP' : s.heap.get? P = some { cls := .none, data := .fields ps } := I.hok P _ hP
  have hcl := closure_ok hfree
  rw [hclo] at hcl
  cases hc : codeAmong pos ps.toList with
  | none =>
    refine PySem.W.kla_makeFunction (mg := X.mg) (c := c) (P := P) (ps := ps) hcl I.ok.glob (I.mod.glob.keeps I.bk) hcode (TB.code.keeps I.bk) hP' ht hc TB.gP bP fun c' ctv h' tk hx hge hlt hrec htb => ?_
    obtain ⟨c2, oc, vs, t, e2, hoc, hd, hv⟩ := hrec
    cases e2
    have nC : H c' = none := I.hok.fresh hge
    have I1 := LamX.inv_table (t' := tk) (more := #[rawInt pos.line, rawInt pos.col, .ref c']) (h' := h'.push (kla_obj "<lambda>" (X.env.qual ++ "<lambda>") params body scope [] ((X.mg "__name__").getD .none) c' ctv)) I hP
      (fun b o hb e => Heap.get?_push_of_some _ (hx b o hb e)) (Heap.get?_push_of_some _ htb) hge ⟨oc, vs, t, Heap.get?_push_of_some _ hoc, hd, hv⟩
    have nPc : P ≠ c' := ne_of_none hP nC
    have com : upd (upd H P (.tbl (ps ++ #[rawInt pos.line, rawInt pos.col, .ref c']))) c' (LamX.CodeO c' (X.env.qual ++ "<lambda>")) = upd (upd H c' (LamX.CodeO c' (X.env.qual ++ "<lambda>"))) P (.tbl (ps ++ #[rawInt pos.line, rawInt pos.col, .ref c'])) := by
      funext b
      unfold upd
      by_cases h1 : b = c'
      · subst h1; rw [if_pos rfl, if_neg (Ne.symm nPc), if_pos rfl]
      · rw [if_neg h1, if_neg h1]
    rw [com] at I1
    exact h h'.objs.size c' ((X.mg "__name__").getD .none) ctv _ _ I1 (.inr ⟨nC, pos, rfl⟩) (Heap.get?_push_size _ rfl) (by rw [upd_ne (Ne.symm nPc), upd_same])
  | some cv =>
    obtain ⟨c', e, hco⟩ := ha pos cv hc
    subst e
    refine PySem.W.kla_makeFunctionHit (mg := X.mg) (c := c) (P := P) (ps := ps) hcl I.ok.glob (I.mod.glob.keeps I.bk) hcode (TB.code.keeps I.bk) hP' ht hc bP fun ctv h' tk hx hsz => ?_
    have I1 : Inv X pins σ H { s with heap := h'.push (kla_obj "<lambda>" (X.env.qual ++ "<lambda>") params body scope [] ((X.mg "__name__").getD .none) c' ctv), toks := tk } := I.kept fun b o e => Heap.get?_push_of_some _ (hx b o e)
    exact h h'.objs.size c' ((X.mg "__name__").getD .none) ctv H _ I1 (.inl rfl) (Heap.get?_push_size _ rfl) hco
end
/-! ### it is called -/
section
variable {prog : Program} {w : World} {A : Around}
theorem lam_turn {f c' : Addr} {qual : Str} {params : Arguments} {body : Expr} {scope : Scope} {pm ctv v : Value} {x : Str} {s : Shared} {k : PyData} (hroom : A.depth < recursionLimit)
    (hf : s.heap.get? f = some (kla_obj "<lambda>" qual params body scope [] pm c' ctv)) (hcode : ∃ (oc : Obj) (vs : Array Value) (t : Tok), s.heap.get? c' = some oc ∧ oc.data = .fields vs ∧ vs[1]? = some (.str qual t)) (hlim : s.heap.NoLimit)
    (hk : scope.kind = .function) (hco : scope.isCoroutine = false) (hgen : scope.isGenerator = false) (hnc : ∀ y ∈ scope.names, y.2 ≠ .cell) (hx : scope.names.lookup x = some .local)
    (hbind : bindArgs (kla_fn "<lambda>" qual params body scope [] pm (.ref c') ctv) ⟨[v], []⟩ = pure [(x, v)])
    (hb : ∀ (env : PySem.Env) (h1 : Heap) (tk : Nat), env.scope = scope → h1.Ns env.locals (fun y => [(x, v)].reverse.lookup y) → (∀ b o, s.heap.get? b = some o → h1.get? b = some o) →
      wpAny (model prog w) (A.deeper env) (eval body env) (KeyPure k { s with heap := h1, toks := tk }) (fun _ _ => False) { s with heap := h1, toks := tk }) :
    wpAny (model prog w) A (call (.ref f) [v]) (KeyPure k s) (fun _ _ => False) s := by
  obtain ⟨oc, vs, t, hoc, hdc, hvc⟩ := hcode
  refine wpAny_call (PySem.W.kla_callFunE hroom hf rfl hco hgen rfl ⟨c', oc, vs, t, rfl, hoc, hdc, hvc⟩ ?_)
  rw [hbind]
  refine wpAny_pure (wpAny_newFunctionEnv hnc (fun y hy => by rw [List.mem_singleton.mp hy]; exact hx) (fun h₁ hns hsb => ⟨hlim.fresh _ hsb, ?_⟩) hk)
  have kp : ∀ b o, s.heap.get? b = some o → h₁.get? b = some o := fun b o e => hsb.extBut b o (Nat.ne_of_lt (Heap.lt_size e)) (Heap.get?_push_of_some _ e)
  refine PySem.W.kla_codeExpr (wpAny_mono (hb _ h₁ _ rfl hns kp) (fun u s2 hq => ?_) fun _ _ z => z.elim)
  obtain ⟨h2, tk2, e, k2, r2⟩ := hq
  subst e
  exact ⟨h2, tk2, rfl, fun b o e => k2 b o (kp b o e), r2⟩
/-- its parameter, read -/
theorem lam_name {env : PySem.Env} {x : Str} {v : Value} {p : Pos} {h1 : Heap} {s : Shared} {E : Value → Shared → Prop} {Q : Value → Shared → Prop} (hk : env.scope.kind = .function) (hx : env.scope.names.lookup x = some .local) (hns : h1.Ns env.locals (fun y => [(x, v)].reverse.lookup y)) (hh : s.heap = h1)
    (hd : (x == ("__debug__" : Str)) = false) (q : Q v s) : wpAny (model prog w) A (eval (.Name x p) env) Q E s := by
  subst hh
  exact wpAny_Name (wpAny_loadName_local hk hx hns (by simp [List.lookup]) q) hd
end
/-- what a lambda's body makes of its parameter -/
def LamBody (X : Cx) (scope : Scope) (x : Str) (body : Expr) (kf : D → M D) : Prop :=
  ∀ (d kd : D) (h : CH) (Z m : List Addr) (H : Hp) (u : Value) (pins : List (Addr × Obj)) (σ : L2.St) (s : Shared), kf d h = .ok kd h → kd.flat = true → HeapOk X.K X.mg Z m h H → RU X.K X.mg m (hide (Z ++ m) H) u d → Inv X pins σ H s →
    ∀ (A : Around) (env : PySem.Env) (h1 : Heap) (tk : Nat), env.scope = scope → h1.Ns env.locals (fun y => [(x, u)].reverse.lookup y) → (∀ b o, s.heap.get? b = some o → h1.get? b = some o) →
      wpAny (model X.prog X.w) A (eval body env) (KeyPure kd.py { s with heap := h1, toks := tk }) (fun _ _ => False) { s with heap := h1, toks := tk }
section
variable {X : Cx} {scope : Scope} {x : Str}
theorem lam_fld {cs : List Str} {a : Str} {p p2 : Pos} (ht : ∀ c ∈ cs, AttrOk X.K X.mg c a) (hk : scope.kind = .function) (hx : scope.names.lookup x = some .local) (hd : (x == ("__debug__" : Str)) = false := by decide)
    (hb : ∀ env : PySem.Env, attributeBase (.Name x p) a env (eval (.Name x p) env) = eval (.Name x p) env := by intro _; rfl) : LamBody X scope x (.Attribute (.Name x p) a p2) (dFld cs a) := by
  intro d kd h Z m H u pins σ s e hf hk' ru I A env h1 tk es hns kp
  subst es
  obtain ⟨v, rv, r⟩ := ru
  have main : ∃ q C dx fs w, v = .ref q ∧ H q = some (.ins C dx fs) ∧ Cls X.K C ∧ NoAttr X.K C a ∧ fs.lookup a = some w ∧ Rep X.K X.mg m (hide (Z ++ m) H) kd w := by
    unfold dFld at e
    split at e
    · split at e
      · rename_i cl ns xs ec
        split at e
        · rename_i hc
          split at e
          · rename_i d' ed
            cases e
            unfold Rep at r
            obtain ⟨q, g1, rfl⟩ := r
            obtain ⟨C, dx, fs, g2, g3, rfl, g5⟩ := hk'.cell _ _ q ec g1
            obtain ⟨u, e2, r2⟩ := rep_look g5 ed
            obtain ⟨k1, k2⟩ := ht cl hc C g3
            exact ⟨q, C, dx, fs, u, rfl, g2, k1, k2, e2, r2⟩
          · cases e
        · cases e
      · cases e
    · rename_i cl ns xs
      split at e
      · rename_i hc
        split at e
        · rename_i d' ed
          cases e
          unfold Rep at r
          obtain ⟨q, C, dx, fs, rfl, g2, g3, rfl, g5⟩ := r
          obtain ⟨u, e2, r2⟩ := rep_look g5 ed
          obtain ⟨k1, k2⟩ := ht cl hc C g3
          exact ⟨q, C, dx, fs, u, rfl, (hide_some g2).2, k1, k2, e2, r2⟩
        · cases e
      · cases e
    · cases e
  obtain ⟨q, C, dx, fs, w, rfl, g2, k1, k2, e2, r2⟩ := main
  obtain rfl : u = Value.ref q := rv
  obtain ⟨mA, O, rA, _, _, _⟩ := ins_get I.hok g2
  obtain ⟨uw, hu, ruw⟩ := RelO.some_of (v := w) (o := mA a) (by rw [← e2]; exact rA a)
  have O1 : ObjM h1 q dx C mA := ⟨kp _ _ O.obj, (by obtain ⟨o, es', ep, ho, rr⟩ := O.ns; exact ⟨o, es', ep, kp _ _ ho, rr⟩), O.ne⟩
  refine attr_of (hb env) (lam_name hk hx hns rfl hd ?_)
  refine get_map (s := { s with heap := h1, toks := tk }) (I.kIn.keeps kp) O1 (k1.get a) k1.hd k2 hu (handed_of ruw) ?_
  obtain ⟨as, rd⟩ := Dp.reads I kd.py w uw (Rep.dp hide_sub kd w r2 (D.flat_dat kd hf)) ruw
  obtain rfl := reads_flat kd uw as hf rd
  exact ⟨h1, tk + 1, rfl, fun _ _ e => e, PyProof.Rows.Reads.keeps kp rd⟩
/-- x[i] of a tuple -/
def dIdxT (i : Int) (d : D) : M D := fun h => match d with
  | .tup xs => match atI xs i with
    | some k => .ok k h
    | none => .bad
  | _ => .bad
theorem lam_idx {i : Int} {j : Nat} {p p2 cp : Pos} (hk : scope.kind = .function) (hx : scope.names.lookup x = some .local) (hd : (x == ("__debug__" : Str)) = false := by decide)
    (hs : PlainIx (.Constant (.int i) j cp) := by exact fun _ _ => rfl) : LamBody X scope x (.Subscript (.Name x p) (.Constant (.int i) j cp) p2) (dIdxT i) := by
  intro d kd h Z m H u pins σ s e hf hk' ru I A env h1 tk es hns kp
  subst es
  obtain ⟨v, rv, r⟩ := ru
  unfold dIdxT at e
  split at e
  · rename_i xs
    split at e
    · rename_i k ek
      cases e
      obtain ⟨q, vs, rfl, g, rl⟩ := rep_tup r
      obtain rfl : u = Value.ref q := rv
      obtain ⟨its, rr, pl, hz⟩ := I.tuple (hide_sub.sqt g)
      obtain ⟨j', a1, a2, a3, a4, a5⟩ := atI_get ek
      obtain ⟨w, e2, r2⟩ := rl.get a2
      obtain ⟨uw, ew, ruw⟩ := rr.get e2
      have hl := rr.length
      have hl2 := rl.length
      have hn := line63
      have pl1 : PyProof.Rows.IsTup h1 q its.toArray := by
        obtain ⟨ob, e3, rest⟩ := pl
        exact ⟨ob, kp _ _ e3, rest⟩
      obtain ⟨as, rd⟩ := Dp.reads I kd.py w uw (Rep.dp hide_sub kd w r2 (D.flat_dat kd hf)) ruw
      obtain rfl := reads_flat kd uw as hf rd
      have fin : KeyPure kd.py { s with heap := h1, toks := tk } uw { s with heap := h1, toks := tk + 1 } := ⟨h1, tk + 1, rfl, fun _ _ e => e, PyProof.Rows.Reads.keeps kp rd⟩
      refine PyProof.Rows.Subscript_ (lam_name hk hx hns rfl hd (wpAny_Constant_int ?_))
      exact PyProof.Rows.subscriptTail_builtinR (s := { s with heap := h1, toks := tk + 1 }) (x := uw) pl1.typeIs PyProof.Rows.slot_tuple_getitem.lookup
        (PyProof.Rows.getItem_tuple (j := j') (Q := fun r s' => r = uw ∧ KeyPure kd.py { s with heap := h1, toks := tk } r s') pl1 (by omega) (by omega) (by rw [List.size_toArray, ← hl, hl2]; exact a1) (by simpa using ew) ⟨rfl, fin⟩) (hs _ _)
    · cases e
  · cases e
/-- the keys of data -/
def keyOf (kf : D → M D) (h : CH) (d : D) : D := match kf d h with
  | .ok k _ => k
  | _ => .non
def KeysOk (kf : D → M D) (h : CH) (xs : List D) : Prop := ∀ d ∈ xs, kf d h = .ok (keyOf kf h d) h
def HasTab (q : Str) (h : CH) : Prop := ∃ n : Nat, h[n]? = some (.tab q)
open Classical in
/-- sorted(xs, key=kf), in the def q -/
noncomputable def dSortK (q : Str) (kf : D → M D) (x : D) : M D := fun h => match lstOf h x with
  | some xs => if HasTab q h ∧ KeysOk kf h xs ∧ SortOk (xs.map (keyOf kf h)) ∧ xs.length ≤ 1000000 then .ok (.lst (sortD (keyOf kf h) xs)) h else .bad
  | none => .bad
end
theorem tD_imp {K : PySem.W.Frag} {mg : Str → Option Value} {W : WX} {f : ED} {σ : L2.St} {H : Hp} {Q Q' : VK} (h : tD K mg W f σ H Q) (i : ∀ v H, Q v H → Q' v H) : tD K mg W f σ H Q' := by
  obtain ⟨Z, m, ρ, c, at', p⟩ := h
  exact ⟨Z, m, ρ, c, at', p.imp i⟩
section
variable {X : Cx} {W : WX}
theorem se_sortK {q x : Str} {c P : Addr} {k : Nat} {kf : D → M D} {f : ED} {e : Expr} {params : Arguments} {body : Expr} {scope : Scope} {lpos kpos p pos : Pos} (hm : X.mg "sorted" = none) (T0 : tabIn X.K q = some (c, P)) (TB : LamX.TabB X.base X.mg c P) (hr : Room (k + 1) X.A) (he : PE X e (tD X.K X.mg W f)) (LB : LamBody X scope x body kf)
    (hk : scope.kind = .function) (hx : scope.names.lookup x = some .local) (hcode : X.env.code = .ref c := by rfl) (hqual : X.env.qual = q ++ ".<locals>." := by rfl) (hco : scope.isCoroutine = false := by rfl) (hgen : scope.isGenerator = false := by rfl) (hnc : ∀ y ∈ scope.names, y.2 ≠ .cell := by decide) (hnf : ∀ y ∈ scope.names, y.2 ≠ .free := by decide)
    (hdef : defaultsOf params X.env = ([], []) := by rfl) (hclo : cloFrom X.env.cells scope.names [] = [] := by rfl)
    (hbind : ∀ (qq : Str) (pm cv ctv v : Value), bindArgs (kla_fn "<lambda>" qq params body scope [] pm cv ctv) ⟨[v], []⟩ = pure [(x, v)] := by intro _ _ _ _ _; rfl)
    (hg : Gl X "sorted" := by rfl)
    (hst : starEach [e] X.env = (false, eval e X.env) :: starEach [] X.env := by rfl)
    (hs1 : backTo pos (starEach [e] X.env) = (false, eval e X.env) :: backTo pos (starEach [] X.env) := by rfl) (hpl : (backTo pos (starEach [e] X.env)).any (·.1) = false := by rfl)
    (hall : (backToKw pos (keywordEach [⟨some "key", .Lambda params body scope lpos, kpos⟩] X.env)).all (·.1.isSome) = true := by rfl) (hnone : (backToKw pos (keywordEach [⟨some "key", .Lambda params body scope lpos, kpos⟩] X.env)).any (·.1.isNone) = false := by rfl) (hks : (backToKw pos (keywordEach [⟨some "key", .Lambda params body scope lpos, kpos⟩] X.env)).filterMap (·.1) = [("key" : Str)] := by rfl) :
    PE X (.Call (.Name "sorted" p) [e] [⟨some "key", .Lambda params body scope lpos, kpos⟩] pos) (tD X.K X.mg W (e1 (dSortK q kf) f)) := by
  refine ⟨fun pins s σ H Q I h => ?_⟩
  have h2 := den1 (r := rD1 X.K X.mg W (dSortK q kf)) h fun _ _ _ q => q
  refine wpAny_Call_Name_kw (ld_blt I hg hm PyProof.Rows.boot_sorted ?_)
  refine PyProof.Rows.callWith_kw (thn ((pa_cons he pa_nil hst).run pos pins s σ H (fun vs H1 => ∃ v, vs = [v] ∧ rD1 X.K X.mg W (dSortK q kf) v H1 Q) I ?_) fun us s1 ⟨vs, H1, I1, r1, v, ev, q1⟩ => ?_) hs1 hpl hall hnone
  · exact tD_imp h2 fun v H1 q => ⟨v, rfl, q⟩
  subst ev
  obtain ⟨u, rfl, ru⟩ := vals1 r1
  obtain ⟨Z, m, h, σ', d, hkH, rd, p⟩ := q1
  unfold dSortK at p
  split at p
  · rename_i xs hxs
    split at p
    · rename_i hc
      obtain ⟨⟨n, hn⟩, hkeys, hso, hlen⟩ := hc
      obtain ⟨a, vs, rfl, g1, g2⟩ := hkH.rlstOf rd hxs
      obtain rfl : u = Value.ref a := ru
      obtain ⟨aP, hmP, cr⟩ := hkH.at hn
      obtain ⟨c0, ps, t0, hP, htr, hcs⟩ := cr
      rw [T0] at t0
      cases t0
      have hnm : q ++ ".<locals>." ++ "<lambda>" = X.env.qual ++ "<lambda>" := by rw [hqual]
      rw [hnm] at hcs
      have hcs' : ∀ (pos : Pos) (cv : Value), codeAmong pos ps.toList = some cv → ∃ c', cv = .ref c' ∧ H1 c' = some (LamX.CodeO c' (X.env.qual ++ "<lambda>")) := fun pos cv hcv => let ⟨c', e1, e2⟩ := hcs pos cv hcv; ⟨c', e1, (hide_some e2).2⟩
      show wpAny _ _ (evalAll [do let v ← eval (.Lambda params body scope lpos) X.env; standAt pos; pure v]) _ _ s1
      refine wpAny_evalAll_cons (wpAny_bind (lam_make I1 TB hcode hP htr hcs' hdef hclo (fun y hy z => absurd z (hnf y hy)) fun f c' pm ctv H2 s2 I2 hH ho hco' => wpAny_bind (wpAny_standAt (wpAny_pure (wpAny_evalAll_nil ?_)))))
      rw [hks]
      -- the heap behind the lambda's making
      have hk2 : Ext Z m H1 m H2 ∧ HeapOk X.K X.mg Z m h H2 ∧ H2 a = some (.lst vs) := by
        rcases hH with rfl | ⟨nC, l, rfl⟩
        · exact ⟨Ext.refl, hkH, g1⟩
        · have e1 := Ext.laid (o := LamX.CodeO c' (X.env.qual ++ "<lambda>")) hkH nC
          have k1 := hkH.laid (o := LamX.CodeO c' (X.env.qual ++ "<lambda>")) nC
          have hP1 : upd H1 c' (LamX.CodeO c' (X.env.qual ++ "<lambda>")) P = some (.tbl ps) := by rw [upd_ne (ne_of_none hP nC)]; exact hP
          have e2 := Ext.setc (o := .tbl (ps ++ #[rawInt l.line, rawInt l.col, .ref c'])) k1 hmP hP1
          have eL : (ps ++ #[rawInt l.line, rawInt l.col, .ref c']).toList = ps.toList ++ [rawInt l.line, rawInt l.col, .ref c'] := by simp
          have k2 := k1.setc (o := .tbl (ps ++ #[rawInt l.line, rawInt l.col, .ref c'])) (c := .tab q) hmP hP1 ⟨c, _, T0, upd_same, by rw [eL]; exact PySem.TriplesOk_snoc _ _ _ _ htr, fun pos' cv hcv => by
            rw [eL] at hcv
            rw [hnm]
            rcases LamX.among_app (pos := l) _ htr hcv with z | z
            · obtain ⟨c2, e3, e4⟩ := hcs pos' cv z
              exact ⟨c2, e3, e2.st _ _ (e1.st _ _ e4)⟩
            · exact ⟨c', z, e2.st _ _ (hkH.seen nC)⟩⟩
          have hs : h.set n (.tab q) = h := by
            refine List.ext_getElem? fun j => ?_
            by_cases z : j = n
            · subst z
              rw [List.getElem?_set_self (List.getElem?_eq_some_iff.mp hn).1, hn]
            · rw [List.getElem?_set_ne (Ne.symm z)]
          rw [hs] at k2
          refine ⟨e1.trans e2, k2, ?_⟩
          have n1 : a ≠ P := fun z => by rw [z, hP] at g1; cases g1
          rw [upd_ne n1, upd_ne (ne_of_none g1 nC)]
          exact g1
      obtain ⟨ex2, hkH2, g1'⟩ := hk2
      have g2' := ex2.repL g2
      obtain ⟨its, rv, pl, hz⟩ := I2.list (SqL.of g1')
      have ee : EachIs (RU X.K X.mg m (hide (Z ++ m) H2)) its xs := each_of g2' rv
      have hs := sizeLine_eq
      have hrd := hr.dp
      have hru := hr.un
      have mapK : xs.map (fun d => (keyOf kf h d).py) = (xs.map (keyOf kf h)).map D.py := by rw [List.map_map]; rfl
      refine PySem.W.sorted_key_data (b := false) (R := RU X.K X.mg m (hide (Z ++ m) H2)) (fun d => (keyOf kf h d).py) pl.isList ee (by rw [mapK]; exact hso.alike) (by rw [mapK]; exact hso.sortable) (by omega) (fun d hd => ?_) (PyProof.Rows.ksk_s1 _ _) (fun _ => PyProof.Rows.ksk_l1 _ _) (fun _ => PyProof.Rows.ksk_t1 _ _) (fun v d hR hd h3 tk3 kp3 => ?_) fun out cc h3 tk3 kp3 hn3 hD hlo ho3 => ?_
      · have hmem : keyOf kf h d ∈ xs.map (keyOf kf h) := List.mem_map.mpr ⟨d, hd, rfl⟩
        have h1 := hso.dep
        have h2 := depL_of hmem
        rw [D.dep_py _ (D.flat_dat _ (flatL_of hso.flat hmem))]
        omega
      · have hmem : keyOf kf h d ∈ xs.map (keyOf kf h) := List.mem_map.mpr ⟨d, hd, rfl⟩
        obtain ⟨⟨oc, vs', t, hoc, hdc, hvc⟩, _, _⟩ := I2.hok c' _ hco'
        refine lam_turn (s := { s2 with heap := h3, toks := tk3 }) (by show X.A.depth < recursionLimit; omega) (kp3 _ _ ho) ⟨oc, vs', t, kp3 _ _ hoc, hdc, hvc⟩ (I2.nolimit.keeps kp3) hk hco hgen hnc hx (hbind _ _ _ _ _) fun env h1 tk es hns kp => ?_
        exact LB d _ h Z m H2 v pins σ s2 (hkeys d hd) (flatL_of hso.flat hmem) hkH2 hR I2 _ env h1 tk es hns fun b o e => kp b o (kp3 b o e)
      · obtain ⟨ws, w1, w2⟩ := of_each ho3
        have hq : H2 (s2.heap.objs.size + 1) = none := I2.hok.fresh (Nat.le_succ _)
        refine ⟨.ref (s2.heap.objs.size + 1), upd H2 (s2.heap.objs.size + 1) (.lst ws), I2.laid (t' := tk3) kp3 (Nat.le_succ _) ⟨?_, out, cc, w1, hD⟩, rfl, ?_⟩
        · rw [w1.length, hlo]; omega
        · refine p _ m _ (ex2.trans (Ext.laid hkH2 hq)) (hkH2.laid hq) ?_
          unfold Rep
          exact ⟨_, ws, rfl, hkH2.seen hq, (Ext.laid hkH2 hq).repL w2⟩
    · exact p.elim
  · exact p.elim
end
end FK

/-! part: FKY -/
set_option Elab.async false
set_option linter.all false
set_option maxRecDepth 100000
set_option maxHeartbeats 4000000
/-! FKY: dicts: by texts, by tuples of ints and bools. -/
namespace FK
open PySem PySem.Spec L2
open PyProof.Rows (envOfC)
/-! ### by texts -/
def eNewS : ED := fun _ h => .ok (.ref h.length) (h ++ [.dS [] []])
def eNewM : ED := fun _ h => .ok (.ref h.length) (h ++ [.dM false [] []])
open Classical in
noncomputable def setNs (k : Str) (ks : List Str) : List Str := if k ∈ ks then ks else ks ++ [k]
open Classical in
noncomputable def setXs (k : Str) (d : D) (ks : List Str) (xs : List D) : List D := if k ∈ ks then (ks.zip xs).map (fun p => if p.1 = k then d else p.2) else xs ++ [d]
noncomputable def sSetS (ed ek ev : ED) : SD := sE ev fun d => sE ed fun x => sE ek fun y ρ h =>
  match x, y with
  | .ref n, .str k => match h[n]? with
    | some (.dS ks xs) => if ks.length < 1000000 then .ok .nx ρ (h.set n (.dS (setNs k ks) (setXs k d ks xs))) else .bad
    | _ => .bad
  | _, _ => .bad
def dListS (ds : List D) : M D := fun h => match ds with
  | [.ref n] => match h[n]? with
    | some (.dS ks _) => .ok (.lst (ks.map .str)) h
    | _ => .bad
  | _ => .bad
section
variable {K : PySem.W.Frag} {mg : Str → Option Value} {m : List Addr} {S : Hp}
theorem zip_any {k : Str} : ∀ {ks : List Str} {vs : List V}, vs.length = ks.length → ((((ks.map Sum.inr).zip vs : List (Key × V)).any fun kv => decide (kv.1 = Sum.inr k)) = true ↔ k ∈ ks)
  | [], vs, _ => by simp
  | c :: ks, [], h => by simp at h
  | c :: ks, v :: vs, h => by
    have ih := zip_any (k := k) (ks := ks) (vs := vs) (by simpa using h)
    simp only [List.map_cons, List.zip_cons_cons, List.any_cons, Bool.or_eq_true, decide_eq_true_eq, List.mem_cons]
    rw [ih]
    constructor
    · rintro (z | z)
      · exact .inl (Sum.inr.inj z).symm
      · exact .inr z
    · rintro (z | z)
      · exact .inl (by rw [z])
      · exact .inr z
theorem zip_put {k : Str} {v : V} {d : D} (q : Rep K mg m S d v) : ∀ {ks : List Str} {vs : List V} {xs : List D}, vs.length = ks.length → RepL K mg m S xs vs →
    (((ks.map Sum.inr).zip vs : List (Key × V)).map fun kv => if kv.1 = Sum.inr k then (kv.1, v) else kv) = (ks.map Sum.inr).zip ((ks.zip vs).map fun p => if p.1 = k then v else p.2) ∧ ((ks.zip vs).map fun p => if p.1 = k then v else p.2).length = ks.length ∧ RepL K mg m S ((ks.zip xs).map fun p => if p.1 = k then d else p.2) ((ks.zip vs).map fun p => if p.1 = k then v else p.2)
  | [], vs, xs, _, r => by simp; exact RepL.nil
  | c :: ks, [], xs, h, r => by simp at h
  | c :: ks, v' :: vs, xs, h, r => by
    cases xs with
    | nil => have := r.length; simp at this
    | cons x xs =>
      obtain ⟨v2, t, e, r1, r2⟩ := r.of_cons
      cases e
      obtain ⟨h1, h2, h3⟩ := zip_put (k := k) q (ks := ks) (vs := vs) (xs := xs) (by simpa using h) r2
      simp only [List.map_cons, List.zip_cons_cons]
      rw [h1]
      by_cases hc : c = k
      · subst hc
        rw [if_pos rfl, if_pos rfl, if_pos rfl]
        exact ⟨rfl, by rw [List.length_cons, h2, List.length_cons], RepL.cons q h3⟩
      · rw [if_neg (fun z => hc (Sum.inr.inj z)), if_neg hc, if_neg hc]
        exact ⟨rfl, by rw [List.length_cons, h2, List.length_cons], RepL.cons r1 h3⟩
theorem dS_put {k : Str} {v : V} {d : D} (q : Rep K mg m S d v) {ks : List Str} {vs : List V} {xs : List D} (h : vs.length = ks.length) (r : RepL K mg m S xs vs) :
    ∃ ws, putK ((ks.map Sum.inr).zip vs : List (Key × V)) (Sum.inr k) v = ((setNs k ks).map Sum.inr).zip ws ∧ ws.length = (setNs k ks).length ∧ RepL K mg m S (setXs k d ks xs) ws := by
  unfold putK setNs setXs
  by_cases hk : k ∈ ks
  · rw [if_pos ((zip_any h).mpr hk), if_pos hk, if_pos hk]
    exact ⟨_, zip_put q h r⟩
  · rw [if_neg (fun z => hk ((zip_any h).mp z)), if_neg hk, if_neg hk]
    refine ⟨vs ++ [v], ?_, by rw [List.length_append, List.length_append, h]; rfl, r.append (RepL.one q)⟩
    rw [List.map_append, List.zip_append (by rw [List.length_map, h])]
    rfl
end
section
variable {X : Cx} {W : WX} {o i e : Expr} {f fi fe : ED} {pos pos' : Pos}
theorem se_newS : PE X (.Dict [] [] pos) (tD X.K X.mg W eNewS) :=
  pick fun σ H Q ⟨Z, m, ρ, h, at', p⟩ => ⟨_, pe_dnewK, fun q hq => by
    have ex := Ext.cell (o := .dK []) at'.hk hq
    refine p _ (m ++ [q]) _ ex (at'.hk.new hq ⟨[], upd_same, rfl, RepL.nil, fun _ z => nomatch z⟩) ?_
    unfold Rep
    exact ⟨q, by rw [← at'.hk.len]; simp, rfl⟩⟩
theorem ss_setS (hr : X.A.units + 60 < cLine) (ho : PE X o (tD X.K X.mg W f)) (hi : PE X i (tD X.K X.mg W fi)) (hv : PE X e (tD X.K X.mg W fe)) (hs : swapsWith e (some (.Subscript o i pos')) pos.line X.env = pure false := by rfl) :
    PS X (.Assign [.Subscript o i pos'] e pos) (tDS X.K X.mg W (sSetS f fi fe)) :=
  pickS fun σ H E ⟨Z, m, ρ, h, at', p⟩ => ⟨_, ps_dput (by omega) ho hi hv hs, Z, m, ρ, h, at', (PostS.ofE at' p).imp fun y H1 ⟨d, m1, h1, ex1, at1, r1, q1⟩ => ⟨Z, m1, ρ, h1, at1, (PostS.ofE at1 q1).imp fun x H2 ⟨dx, m2, h2, ex2, at2, r2, q2⟩ => ⟨Z, m2, ρ, h2, at2, (PostS.ofE at2 q2).imp fun yk H3 ⟨dk, m3, h3, ex3, at3, r3, q3⟩ => by
    cases dx with
    | ref n =>
      cases dk with
      | str k =>
        dsimp only at q3
        split at q3
        · rename_i ks xs ec
          split at q3
          · rename_i hl
            have r2' := ex3.rep r2
            unfold Rep at r2'
            obtain ⟨a, g1, rfl⟩ := r2'
            obtain ⟨rfl, hk⟩ := rep_str r3
            obtain ⟨vs, g2, g3, g4, g5⟩ := at3.hk.cell _ _ a ec g1
            have hs := sizeLine_eq
            refine ⟨a, _, rfl, DPut.k (k := Sum.inr k) g2 ?_, ?_⟩
            · rw [List.length_zip, List.length_map]; omega
            · have ex := Ext.setc (o := .dK (putK ((ks.map Sum.inr).zip vs) (Sum.inr k) y)) at3.hk g1 g2
              obtain ⟨ws, w1, w2, w3⟩ := dS_put (k := k) (ex.rep (ex3.rep (ex2.rep r1))) g3 (ex.repL g4)
              refine q3 σ m3 _ ex (at3.hk.setc (c := .dS (setNs k ks) (setXs k d ks xs)) g1 g2 ⟨ws, by rw [upd_same, w1], w2, w3, fun c hc => ?_⟩) (ex.env at3.en)
              unfold setNs at hc
              split at hc
              · exact g5 c hc
              · rcases List.mem_append.mp hc with z | z
                · exact g5 c z
                · rw [List.mem_singleton.mp z]; exact hk
          · exact q3.elim
        · exact q3.elim
      | _ => exact q3.elim
    | _ => exact q3.elim⟩⟩⟩
theorem call_dListS (hc : X.calm = true) : CallR X (.type "list") (rDL X.K X.mg W dListS) := by
  intro pins s σ H vs us Q I r ⟨Z, m, h, σ', ds, hk, rp, p⟩
  unfold dListS at p
  split at p
  · obtain ⟨v, rfl, g⟩ := repL_one rp
    split at p
    · rename_i ks xs hx
      unfold Rep at g
      obtain ⟨a, g1, rfl⟩ := g
      obtain ⟨ws, g2, g3, g4, g5⟩ := hk.cell _ _ a hx g1
      refine call_list_dK hc pins s σ H _ us Q I r ⟨a, _, rfl, g2, ?_⟩
      have e : (((ks.map Sum.inr).zip ws : List (Key × V)).map fun kv => kV kv.1) = ks.map V.str := by
        have : ∀ {ks : List Str} {ws : List V}, ws.length = ks.length → (((ks.map Sum.inr).zip ws : List (Key × V)).map fun kv => kV kv.1) = ks.map V.str := by
          intro ks
          induction ks with
          | nil => intro ws _; simp
          | cons c ks ih =>
            intro ws hl
            cases ws with
            | nil => simp at hl
            | cons w ws =>
              simp only [List.map_cons, List.zip_cons_cons]
              rw [ih (by simpa using hl)]
              rfl
        exact this g3
      rw [e]
      have rl : RepL X.K X.mg m (hide (Z ++ m) H) (ks.map D.str) (ks.map V.str) := by
        clear g2 g3 e hx p
        induction ks with
        | nil => exact RepL.nil
        | cons c ks ih =>
          refine RepL.cons ?_ (ih fun k hk => g5 k (List.mem_cons_of_mem _ hk))
          unfold Rep
          exact ⟨rfl, g5 c List.mem_cons_self⟩
      exact put_lst hk rl p
    · exact p.elim
  · exact p.elim
theorem sb_listS {es : List Expr} {fs : AD} {p : Pos} (hc : X.calm = true) (hm : X.mg "list" = none) (ha : PA X (e :: es) (tDL X.K X.mg W fs)) (hg : Gl X "list" := by rfl) (he : starEach (e :: es) X.env = (false, eval e X.env) :: starEach es X.env := by rfl) (hpl : (backTo pos (starEach es X.env)).any (·.1) = false := by rfl) :
    PE X (.Call (.Name "list" p) (e :: es) [] pos) (tD X.K X.mg W (eCall dListS fs)) := se_callTy (call_dListS hc) hg hm PyProof.Rows.boot_list ha (by decide) (by decide) he hpl
end
end FK

/-! part: FKZ -/
set_option Elab.async false
set_option linter.all false
set_option maxRecDepth 100000
set_option maxHeartbeats 4000000
/-! FKZ: dicts by tuples of ints and bools. -/
namespace FK
open PySem PySem.Spec L2
open PyProof.Rows (envOfC)
def nk (ns : List Int) : NestedKey := .tup (ns.map .num)
theorem nums_inj : ∀ {a b : List Int}, a.map NestedKey.num = b.map NestedKey.num → a = b
  | [], [], _ => rfl
  | [], _ :: _, h => by simp at h
  | _ :: _, [], h => by simp at h
  | x :: a, y :: b, h => by
    rw [List.map_cons, List.map_cons, List.cons.injEq] at h
    rw [NestedKey.num.inj h.1, nums_inj h.2]
theorem nk_inj {a b : List Int} (h : nk a = nk b) : a = b := nums_inj (NestedKey.tup.inj h)
theorem nk_hashes (w : World) : ∀ ns : List Int, NestedKey.hashes w (ns.map .num) = ns.map hashInt
  | [] => rfl
  | n :: ns => by
    show NestedKey.hash w (.num n) :: NestedKey.hashes w (ns.map .num) = hashInt n :: ns.map hashInt
    rw [nk_hashes w ns]
    rfl
theorem nk_hash (P : Program) (w : World) (ns : List Int) : (nestedKind P w).hash (nk ns) = hM ns := by
  show NestedKey.hash w (.tup (ns.map .num)) = _
  rw [NestedKey.hash, nk_hashes]
  rfl
theorem nk_depth (ns : List Int) : (nk ns).depth ≤ 8 := by
  have h : ∀ ns : List Int, NestedKey.depthAll (ns.map .num) = 0 := by
    intro ns
    induction ns with
    | nil => rfl
    | cons n ns ih =>
      show max (NestedKey.depth (.num n)) (NestedKey.depthAll (ns.map .num)) = 0
      rw [ih]; rfl
  show NestedKey.depthAll (ns.map .num) + 1 ≤ 8
  rw [h]; omega
section
variable {K : PySem.W.Frag} {mg : Str → Option Value} {m : List Addr} {S : Hp} {P : Program} {w : World}
/-- the dict's keys and values, with their tuples -/
def YsR (K : PySem.W.Frag) (mg : Str → Option Value) (m : List Addr) (S : Hp) : List D → List D → List (NestedKey × Addr × Value) → Prop
  | [], [], ys => ys = []
  | k :: ks, x :: xs, ys => ∃ (b : Addr) (vs : List V) (kd : List D) (ns : List Int) (v : V) (u : Value) (r : List (NestedKey × Addr × Value)), ys = (nk ns, b, u) :: r ∧ k = .tup kd ∧ numsM kd = some ns ∧ SqT K S b vs ∧ RepL K mg m S kd vs ∧ RelV v u ∧ Rep K mg m S x v ∧ YsR K mg m S ks xs r
  | _, _, _ => False
theorem ys_of : ∀ {ks xs : List D} {es : List DictEntry}, EntR K mg m S ks xs es → ∃ ys, YsR K mg m S ks xs ys ∧ es = ys.map (entryOfKey (nestedKind P w))
  | [], [], es, h => ⟨[], rfl, h⟩
  | k :: ks, x :: xs, es, h => by
    obtain ⟨b, vs, kd, ns, v, u, r, h1, h2, h3, h4, h5, h6, h7, h8⟩ := h
    obtain ⟨ys, q1, q2⟩ := (ys_of h8 : ∃ ys, YsR K mg m S ks xs ys ∧ r = ys.map (entryOfKey (nestedKind P w)))
    refine ⟨(nk ns, b, u) :: ys, ⟨b, vs, kd, ns, v, u, ys, rfl, h2, h3, h4, h5, h6, h7, q1⟩, ?_⟩
    rw [h1, q2, List.map_cons]
    unfold entryOfKey
    rw [nk_hash]
  | [], _ :: _, es, h => h.elim
  | _ :: _, [], es, h => h.elim
theorem of_ys : ∀ {ks xs : List D} {ys : List (NestedKey × Addr × Value)}, YsR K mg m S ks xs ys → EntR K mg m S ks xs (ys.map (entryOfKey (nestedKind P w)))
  | [], [], ys, h => by rw [show ys = [] from h]; rfl
  | k :: ks, x :: xs, ys, h => by
    obtain ⟨b, vs, kd, ns, v, u, r, h1, h2, h3, h4, h5, h6, h7, h8⟩ := h
    refine ⟨b, vs, kd, ns, v, u, _, ?_, h2, h3, h4, h5, h6, h7, of_ys h8⟩
    rw [h1, List.map_cons]
    show entryOfKey (nestedKind P w) (nk ns, b, u) :: _ = _
    unfold entryOfKey
    rw [nk_hash]
  | [], _ :: _, ys, h => h.elim
  | _ :: _, [], ys, h => h.elim
theorem ys_snoc {k x : D} {b : Addr} {vs : List V} {kd : List D} {ns : List Int} {v : V} {u : Value} (h2 : k = .tup kd) (h3 : numsM kd = some ns) (h4 : SqT K S b vs) (h5 : RepL K mg m S kd vs) (h6 : RelV v u) (h7 : Rep K mg m S x v) :
    ∀ {ks xs : List D} {ys : List (NestedKey × Addr × Value)}, YsR K mg m S ks xs ys → YsR K mg m S (ks ++ [k]) (xs ++ [x]) (ys ++ [(nk ns, b, u)])
  | [], [], ys, h => by
    rw [show ys = [] from h]
    exact ⟨b, vs, kd, ns, v, u, [], rfl, h2, h3, h4, h5, h6, h7, rfl⟩
  | k' :: ks, x' :: xs, ys, h => by
    obtain ⟨b', vs', kd', ns', v', u', r, g1, g2, g3, g4, g5, g6, g7, g8⟩ := h
    exact ⟨b', vs', kd', ns', v', u', r ++ [(nk ns, b, u)], by rw [g1]; rfl, g2, g3, g4, g5, g6, g7, ys_snoc h2 h3 h4 h5 h6 h7 g8⟩
  | [], _ :: _, ys, h => h.elim
  | _ :: _, [], ys, h => h.elim
theorem ys_keys : ∀ {ks xs : List D} {ys : List (NestedKey × Addr × Value)}, YsR K mg m S ks xs ys → ys.map (·.1) = (ks.map nsOf).map nk
  | [], [], ys, h => by rw [show ys = [] from h]; rfl
  | k :: ks, x :: xs, ys, h => by
    obtain ⟨b, vs, kd, ns, v, u, r, h1, h2, h3, h4, h5, h6, h7, h8⟩ := h
    subst h2
    rw [h1, List.map_cons, List.map_cons, List.map_cons, ys_keys h8]
    show nk ns :: _ = nk ((numsM kd).getD []) :: _
    rw [h3]; rfl
  | [], _ :: _, ys, h => h.elim
  | _ :: _, [], ys, h => h.elim
theorem ys_len : ∀ {ks xs : List D} {ys : List (NestedKey × Addr × Value)}, YsR K mg m S ks xs ys → ys.length = ks.length := fun h => by
  have := congrArg List.length (ys_keys h)
  simpa using this
end
/-- the value under a key -/
def findM (ns : List Int) : List D → List D → Option D
  | k :: ks, x :: xs => if nsOf k = ns then some x else findM ns ks xs
  | _, _ => none
section
variable {K : PySem.W.Frag} {mg : Str → Option Value} {m : List Addr} {S : Hp}
theorem ys_find {ns : List Int} : ∀ {ks xs : List D} {ys : List (NestedKey × Addr × Value)}, YsR K mg m S ks xs ys → match findM ns ks xs with
    | some d => ∃ b u v, atKey ys (nk ns) = some (b, u) ∧ RelV v u ∧ Rep K mg m S d v
    | none => atKey ys (nk ns) = none
  | [], [], ys, h => by rw [show ys = [] from h]; rfl
  | k :: ks, x :: xs, ys, h => by
    obtain ⟨b, vs, kd, ns', v, u, r, h1, h2, h3, h4, h5, h6, h7, h8⟩ := h
    subst h2 h1
    have e : nsOf (.tup kd) = ns' := by show (numsM kd).getD [] = ns'; rw [h3]; rfl
    have ih := ys_find (ns := ns) h8
    unfold findM
    by_cases hn : nsOf (.tup kd) = ns
    · rw [if_pos hn]
      refine ⟨b, u, v, ?_, h6, h7⟩
      unfold atKey
      rw [List.find?_cons, decide_eq_true (by show nk ns' = nk ns; rw [← e, hn])]
      rfl
    · rw [if_neg hn]
      have ne : ¬ nk ns' = nk ns := fun z => hn (by rw [e]; exact nk_inj z)
      have e2 : atKey ((nk ns', b, u) :: r) (nk ns) = atKey r (nk ns) := by
        unfold atKey
        rw [List.find?_cons, decide_eq_false (show ¬ (nk ns', b, u).1 = nk ns from ne)]
      rw [e2]
      exact ih
  | [], _ :: _, ys, h => h.elim
  | _ :: _, [], ys, h => h.elim
/-- a key's tuple, read -/
theorem nested_all {h : Heap} : ∀ {kd : List D} {ns : List Int} {vs : List V} {us : List Value}, numsM kd = some ns → RepL K mg m S kd vs → Vals vs us → NestedAll h (ns.map .num) us
  | [], ns, vs, us, e, r, q => by
    cases e
    obtain rfl := r.of_nil
    cases q
    exact .nil
  | d :: kd, ns, vs, us, e, r, q => by
    obtain ⟨v, t, rfl, r1, r2⟩ := r.of_cons
    cases q with
    | cons q1 q2 =>
      cases d with
      | int i =>
        unfold numsM at e
        cases e2 : numsM kd with
        | none => rw [e2] at e; cases e
        | some ns' =>
          rw [e2] at e
          cases e
          obtain rfl := rep_int r1
          obtain ⟨tk, rfl⟩ := q1
          exact .cons (.int i tk) (nested_all e2 r2 q2)
      | bl b =>
        unfold numsM at e
        cases e2 : numsM kd with
        | none => rw [e2] at e; cases e
        | some ns' =>
          rw [e2] at e
          cases e
          obtain rfl := rep_bl r1
          have q1 : _ = Value.bool b := q1
          subst q1
          exact .cons (.bool rfl) (nested_all e2 r2 q2)
      | _ => cases e
end
section
variable {X : Cx} {pins : List (Addr × Obj)} {σ : L2.St} {s : Shared} {H : Hp} {Z m : List Addr} {h : CH}
theorem key_is (I : L2.Inv X pins σ H s) {b : Addr} {vs : List V} {kd : List D} {ns : List Int} (g : SqT X.K (hide (Z ++ m) H) b vs) (r : RepL X.K X.mg m (hide (Z ++ m) H) kd vs) (e : numsM kd = some ns) : (nestedKind X.prog X.w).is s.heap (nk ns) b := by
  obtain ⟨its, rv, pl, hz⟩ := I.tuple (hide_sub.sqt g)
  obtain ⟨o, e1, e2, n, e3⟩ := pl
  exact ⟨.tup e1 e2 e3 (nested_all e r (by simpa using rv)), nk_depth ns⟩
theorem ys_is (I : L2.Inv X pins σ H s) : ∀ {ks xs : List D} {ys : List (NestedKey × Addr × Value)}, YsR X.K X.mg m (hide (Z ++ m) H) ks xs ys → ∀ y ∈ ys, (nestedKind X.prog X.w).is s.heap y.1 y.2.1
  | [], [], ys, h, y, hy => by rw [show ys = [] from h] at hy; cases hy
  | k :: ks, x :: xs, ys, h, y, hy => by
    obtain ⟨b, vs, kd, ns, v, u, r, h1, h2, h3, h4, h5, h6, h7, h8⟩ := h
    subst h1
    rcases List.mem_cons.mp hy with rfl | hy
    · exact key_is I h4 h5 h3
    · exact ys_is I h8 y hy
  | [], _ :: _, ys, h, y, hy => h.elim
  | _ :: _, [], ys, h, y, hy => h.elim
/-- the dict as it lies -/
theorem dm_at (I : L2.Inv X pins σ H s) {b : Bool} {ks xs : List D} {a : Addr} (cr : CellR X.K X.mg m (hide (Z ++ m) H) H a (.dM b ks xs)) :
    ∃ (o : Obj) (es : Array DictEntry) (ep : Nat) (ys : List (NestedKey × Addr × Value)), H a = some (if b = true then .frz o (.ext fun h => h.get? a = some o) else .ext fun h => h.get? a = some o) ∧ (a == sysModules) = false ∧ s.heap.get? a = some o ∧ o.ExactDict ∧ o.data = .dict es ep ∧ es.toList = ys.map (entryOfKey (nestedKind X.prog X.w)) ∧
      YsR X.K X.mg m (hide (Z ++ m) H) ks xs ys ∧ (ks.map nsOf).Nodup ∧ s.heap.DictOfH (nestedKind X.prog X.w) a ys := by
  obtain ⟨o, es, ep, h1, h2, h3, h4, h5, h6⟩ := cr
  obtain ⟨ys, q1, q2⟩ := ys_of (P := X.prog) (w := X.w) h5
  have ho : s.heap.get? a = some o := by
    have x := I.hok a _ h1
    cases b with
    | true => exact x.1
    | false => exact x.1
  refine ⟨o, es, ep, ys, h1, h2, ho, h3, h4, q2, q1, h6, o, es, ep, ho, h3, h4, q2, ys_is I q1, ?_⟩
  rw [ys_keys q1]
  exact List.Pairwise.map _ (fun x y hxy z => hxy (nk_inj z)) h6
end
def isM (h : CH) (x : D) : Bool := match x with
  | .ref n => match h[n]? with
    | some (.dM _ _ _) => true
    | _ => false
  | _ => false
/-- a dict's method -/
def eMd (op : D → List D → M D) (f : ED) (fs : AD) : ED := fun ρ => M.bind (f ρ) fun x h => if isM h x = true then M.bind (fs ρ) (op x) h else .bad
/-- d.setdefault(k, l) -/
def dSetd (x : D) (ds : List D) : M D := fun h => match x, ds with
  | .ref n, [.tup kd, l] => match h[n]? with
    | some (.dM b ks xs) => match numsM kd with
      | some ns => if ks.length < 1000000 then (match findM ns ks xs with
        | some d => .ok d h
        | none => if b = false then .ok l (h.set n (.dM false (ks ++ [.tup kd]) (xs ++ [l]))) else .bad) else .bad
      | none => .bad
    | _ => .bad
  | _, _ => .bad
/-- d[k] -/
def dIdxM (x k : D) : M D := fun h => match x, k with
  | .ref n, .tup kd => match h[n]? with
    | some (.dM _ ks xs) => match numsM kd with
      | some ns => match findM ns ks xs with
        | some d => .ok d h
        | none => .bad
      | none => .bad
    | _ => .bad
  | _, _ => .bad
section
variable {X : Cx} {W : WX} {o i e : Expr} {es : List Expr} {f fi : ED} {fs : AD} {pos apos cpos : Pos}
theorem se_newM : PE X (.Dict [] [] pos) (tD X.K X.mg W eNewM) := by
  refine ⟨fun pins s σ H Q I ⟨Z, m, ρ, h, at', p⟩ => ?_⟩
  refine wpAny_Dict_empty ?_
  have hq : H s.heap.objs.size = none := I.hok.fresh (Nat.le_refl _)
  have he : (s.heap.push { cls := .type "dict", data := .dict #[] }).get? s.heap.objs.size = some { cls := .type "dict", data := .dict #[] } := Heap.get?_push_size _ rfl
  have ex := Ext.cell (o := .ext fun h => h.get? s.heap.objs.size = some { cls := .type "dict", data := .dict #[] }) at'.hk hq
  refine ⟨.ref s.heap.objs.size, upd H s.heap.objs.size (.ext fun h => h.get? s.heap.objs.size = some { cls := .type "dict", data := .dict #[] }), I.laid (t' := s.toks) (fun _ _ q => Heap.get?_push_of_some _ q) (Nat.le_refl _) ⟨he, ⟨_, he⟩, fun h1 h2 a b => b _ a⟩, rfl, ?_⟩
  refine p _ (m ++ [s.heap.objs.size]) _ ex (at'.hk.new hq ⟨_, #[], 0, upd_same, beq_eq_false_iff_ne.mpr (Ne.symm (Nat.ne_of_lt I.big)), ⟨rfl, rfl, rfl⟩, rfl, rfl, List.nodup_nil⟩) ?_
  unfold Rep
  exact ⟨_, by rw [← at'.hk.len]; simp, rfl⟩
theorem run_setd (hr : X.A.units + 60 < cLine) {pins : List (Addr × Obj)} {s : Shared} {σ : L2.St} {H : Hp} {Z m : List Addr} {h : CH} {x : D} {ds : List D} {v : V} {vs : List V} {u : Value} {us : List Value} {Q : VK} (I : L2.Inv X pins σ H s) (hk : HeapOk X.K X.mg Z m h H)
    (r1 : Rep X.K X.mg m (hide (Z ++ m) H) x v) (r2 : RepL X.K X.mg m (hide (Z ++ m) H) ds vs) (rv : RelV v u) (rvs : Vals vs us) (p : Post X.K X.mg W σ Z m H (dSetd x ds h) Q) :
    wpAny (model X.prog X.w) X.A (call (.builtin "dict.setdefault") (u :: us)) (EP X pins σ Q) X.xe s := by
  unfold dSetd at p
  split at p
  · rename_i n kd l
    split at p
    · rename_i b ks xs ec
      split at p
      · rename_i ns en
        unfold Rep at r1
        obtain ⟨a, g1, rfl⟩ := r1
        obtain rfl : u = Value.ref a := rv
        obtain ⟨vk, vl, rfl, rk, rl⟩ := repL_two r2
        obtain ⟨bk, kvs, rfl, gk, gkl⟩ := rep_tup rk
        obtain ⟨uk, ul, rfl, ek, el⟩ := rvs.two
        obtain rfl : uk = Value.ref bk := ek
        obtain ⟨o, es, ep, ys, h1, h2, h3, h4, h5, h6, h7, h8, h9⟩ := dm_at I (hk.cell _ _ a ec g1)
        have hkey := key_is I gk gkl en
        have hf := ys_find (ns := ns) h7
        have hs := sizeLine_eq
        have hroom : (nestedKind X.prog X.w).room X.A.in1 := by show X.A.units + 1 + 8 < cLine; omega
        have hyl := ys_len h7
        have hno : (.ext fun h : Heap => h.get? a = some o : HO) = HO.ext fun h => h.get? a = some o := rfl
        split at p
        · rename_i hl
          cases ef : findM ns ks xs with
          | some d =>
            rw [ef] at p hf
            obtain ⟨b0, u0, v0, a1, a2, a3⟩ := hf
            have hlen : ys.length ≤ sizeLine := by omega
            refine call_setdefault_heap (knd := nestedKind X.prog X.w) (k := nk ns) (xs := ys) hroom hkey h2 h9 (fun q hq => ?_) (fun hn => ?_) hlen
            · rw [a1] at hq
              cases hq
              exact ⟨v0, H, I.tok _, a2, put_old hk a3 p⟩
            · rw [a1] at hn; cases hn
          | none =>
            rw [ef] at p hf
            dsimp only at p hf
            split at p
            · rename_i hb
              subst hb
              rw [if_neg Bool.false_ne_true] at h1
              refine call_setdefault_heap (knd := nestedKind X.prog X.w) (k := nk ns) (xs := ys) hroom hkey h2 h9 (fun q hq => ?_) (fun hn h' hm' hsb => ?_) (by omega)
              · rw [hf] at hq; cases hq
              · rw [storedH_new hf] at hm'
                obtain ⟨o', es', ep', k1, k2, k3, k4, k5, k6⟩ := hm'
                have I' : L2.Inv X pins σ (upd H a (.ext fun h => h.get? a = some o')) { s with heap := h', toks := s.toks + (nestedKind X.prog X.w).draws (nk ns) } :=
                  d_write I (by rw [h1]; exact trivial) hsb ⟨_, k1⟩ ⟨k1, ⟨_, k1⟩, fun h1 h2 a b => b _ a⟩
                have ex := Ext.setc (o := .ext fun h => h.get? a = some o') hk g1 h1
                refine ⟨vl, _, I', el, p vl m _ ex (hk.setc (c := .dM false (ks ++ [.tup kd]) (xs ++ [l])) g1 h1 ⟨o', es', ep', by rw [upd_same, if_neg Bool.false_ne_true], h2, k2, k3, ?_, ?_⟩) (ex.rep rl)⟩
                · rw [k4]
                  have h7' : YsR X.K X.mg m (hide (Z ++ m) H) (ks ++ [.tup kd]) (xs ++ [l]) (ys ++ [(nk ns, bk, ul)]) := ys_snoc rfl en gk gkl el rl h7
                  exact EntR.mono ex.pre ex.st (of_ys h7')
                · rw [List.map_append, List.nodup_append]
                  refine ⟨h8, by simp, fun x hx y hy z => ?_⟩
                  have hy' : y = ns := by
                    have : y = nsOf (.tup kd) := by simpa using hy
                    rw [this]; show (numsM kd).getD [] = ns; rw [en]; rfl
                  subst z
                  rw [hy'] at hx
                  have hm2 : nk ns ∈ ys.map (·.1) := by rw [ys_keys h7]; exact List.mem_map.mpr ⟨_, hx, rfl⟩
                  obtain ⟨y0, hy0, ey0⟩ := List.mem_map.mp hm2
                  have : (ys.find? fun x => decide (x.1 = nk ns)) = none := by
                    cases q : (ys.find? fun x => decide (x.1 = nk ns)) with
                    | none => rfl
                    | some z => unfold atKey at hf; rw [q] at hf; cases hf
                  rw [List.find?_eq_none] at this
                  exact this y0 hy0 (decide_eq_true ey0)
            · exact p.elim
        · exact p.elim
      · exact p.elim
    · exact p.elim
  · exact p.elim
theorem se_setd (hr : X.A.units + 60 < cLine) (ho : PE X o (tD X.K X.mg W f)) (ha : PA X (e :: es) (tDL X.K X.mg W fs))
    (hbase : attributeBase o "setdefault" X.env (eval o X.env) = eval o X.env := by rfl)
    (hfew : ((backTo cpos (starEach (e :: es) X.env)).all (fun x => !x.1) && (backToKw cpos (keywordEach [] X.env)).all (fun x => x.1.isSome)
      && decide ((e :: es).length + ([] : List Keyword).length + (if ([] : List Keyword).isEmpty then 0 else 1) < 30)) = true := by rfl)
    (hline : (apos.endLine == cpos.line) = true := by rfl) (hs : starEach (e :: es) X.env = (false, eval e X.env) :: starEach es X.env := by rfl) (hplain : (backTo cpos (starEach es X.env)).any (·.1) = false := by rfl) :
    PE X (.Call (.Attribute o "setdefault" apos) (e :: es) [] cpos) (tD X.K X.mg W (eMd dSetd f fs)) := by
  refine ⟨fun pins s σ H Q I h => ?_⟩
  have h2 : tD X.K X.mg W f σ H (fun v H1 => ∃ Z m ρ h x, At X.K X.mg Z m ρ h σ H1 ∧ Rep X.K X.mg m (hide (Z ++ m) H1) x v ∧ Post X.K X.mg W σ Z m H1 (if isM h x = true then M.bind (fs ρ) (dSetd x) h else .bad) Q) := by
    obtain ⟨Z, m, ρ, c, at', p⟩ := h
    exact ⟨Z, m, ρ, c, at', (PostG.bind p).imp fun v H1 ⟨x, m1, h1, ex1, hk1, r1, _, q1⟩ => ⟨Z, m1, ρ, h1, x, ⟨hk1, ex1.env at'.en⟩, r1, q1⟩⟩
  refine wpAny_Call_method_late hbase hfew hline rfl (thn (ho.run pins s σ H _ I h2) fun v s1 ⟨xv, H1, I1, r1, Z, m, ρ, hh, x, at1, rx, q⟩ => ?_)
  split at q
  · rename_i hM
    unfold isM at hM
    split at hM
    · rename_i n
      split at hM
      · rename_i b ks xs ec
        have rx' := rx
        unfold Rep at rx'
        obtain ⟨a, g1, rfl⟩ := rx'
        obtain rfl : v = Value.ref a := r1
        obtain ⟨od, _, _, _, _, _, ho1, hx1, _⟩ := dm_at I1 (at1.hk.cell _ _ a ec g1)
        refine ⟨"dict", "dict.setdefault", PySem.F.plainAttrs_dict, PySem.F.slot_dict_setdefault, PySem.F.type_dict_setdefault, ⟨od, ho1, hx1.1⟩, fun a' e' => ?_, ?_⟩
        · cases e'
          exact ⟨od, ho1, hx1.2.1⟩
        · have hA := ha.run cpos pins s1 σ H1 (fun vs H2 => ∃ Z m h ds, HeapOk X.K X.mg Z m h H2 ∧ Rep X.K X.mg m (hide (Z ++ m) H2) (.ref n) (.ref a) ∧ RepL X.K X.mg m (hide (Z ++ m) H2) ds vs ∧ Post X.K X.mg W σ Z m H2 (dSetd (.ref n) ds h) Q) I1
            ⟨Z, m, ρ, hh, at1, (PostG.bind q).imp fun vs H2 ⟨ds, m2, h2, ex2, hk2, r2, _, q2⟩ => ⟨Z, m2, h2, ds, hk2, ex2.rep rx, r2, q2⟩⟩
          rw [hs] at hA ⊢
          refine Calls.callWith_builtin (by show (false || (backTo cpos (starEach es X.env)).any (·.1)) = false; rw [hplain]; rfl) (Calls.evalArgs_plain ?_)
          exact thn hA fun us s2 ⟨vs, H2, I2, r2, Z2, m2, h2, ds, k2, q1, q2, q3⟩ => run_setd hr I2 k2 q1 q2 rfl r2 q3
      · cases hM
    · cases hM
  · exact q.elim
theorem se_idxM (hr : X.A.units + 60 < cLine) (ho : PE X o (tD X.K X.mg W f)) (hi : PE X i (tD X.K X.mg W fi)) (hs : NoSl i := by exact fun _ _ => rfl) : PE X (.Subscript o i pos) (tD X.K X.mg W (e2 dIdxM f fi)) := by
  refine ⟨fun pins s σ H Q I h => ?_⟩
  have h2 := den2 (r := rD2 X.K X.mg W dIdxM) h fun _ _ _ _ q => q
  refine subD_of PySem.F.slot_dict_getitem.lookup hs (thn (ho.run pins s σ H _ I h2) fun u s1 ⟨x, H1, I1, rx, q1⟩ => thn (hi.run pins s1 σ H1 _ I1 q1) fun iv s2 ⟨y, H2, I2, ry, Z, m, h, σ', dx, dk, hk, r1, r2, p⟩ => ?_)
  unfold dIdxM at p
  split at p
  · rename_i n kd
    split at p
    · rename_i b ks xs ec
      split at p
      · rename_i ns en
        unfold Rep at r1
        obtain ⟨a, g1, rfl⟩ := r1
        obtain rfl : u = Value.ref a := rx
        obtain ⟨bk, kvs, rfl, gk, gkl⟩ := rep_tup r2
        obtain rfl : iv = Value.ref bk := ry
        obtain ⟨o', es', ep', ys, h1, h2, h3, h4, h5, h6, h7, h8, h9⟩ := dm_at I2 (hk.cell _ _ a ec g1)
        have hf := ys_find (ns := ns) h7
        split at p
        · rename_i d ef
          rw [ef] at hf
          obtain ⟨b0, u0, v0, a1, a2, a3⟩ := hf
          refine ⟨⟨o', h3, h4.1⟩, wpAny_getItem_heap (knd := nestedKind X.prog X.w) (k := nk ns) (xs := ys) (by show X.A.units + 1 + 8 < cLine; omega) (key_is I2 gk gkl en) h9 a1 ?_⟩
          exact ⟨v0, H2, I2.tok _, a2, put_old hk a3 p⟩
        · exact p.elim
      · exact p.elim
    · exact p.elim
  · exact p.elim
end

/-! ### for k in d -/
def Itm (d : Addr) (o : Obj) (es : Array DictEntry) : It :=
  ⟨fun i H => H d = some (.frz o (.ext fun h => h.get? d = some o)) ∧ i < es.size, fun i H x H' => H' = H ∧ ∃ (en : DictEntry) (b : Addr), es[i]? = some en ∧ en.key = .ref b ∧ x = .ref b, fun i H => H d = some (.frz o (.ext fun h => h.get? d = some o)) ∧ es.size ≤ i⟩
theorem turn_keysM {P : Program} {w : World} {K : PySem.W.Frag} {tg : Expr} {d : Addr} {o : Obj} {es : Array DictEntry} {ep : Nat} (it : Addr) (hod : o.data = .dict es ep) (hkeys : ∀ (i : Nat) (en : DictEntry), es[i]? = some en → ∃ b : Addr, en.key = .ref b) :
    Turn P w K tg (Itm d o es) [it] it (fun i h => h.IsKeyIter it d i es.size ep) where
  mem := by simp
  obj := fun i h st b hb => by
    have e : b = it := by simpa using hb
    subst e
    obtain ⟨oi, e, c, dd⟩ := st
    exact ⟨oi, e, fun v z => by rw [dd] at z; cases z⟩
  keep := fun i h h' st k => st.at fun oi e => k it (by simp) oi e
  item := by
    intro X hP hw hK hc i pins s σ H E I hf st hg
    subst hP hw hK
    obtain ⟨hd, hi⟩ := hg
    obtain ⟨f0, f1, f2, f3, f4, f5⟩ := hf it (by simp)
    have hgd : s.heap.get? d = some o := (I.hok d _ hd).1
    have hen : es[i]? = some es[i] := Array.getElem?_eq_getElem hi
    obtain ⟨b, hb⟩ := hkeys i _ hen
    refine next_key_item st hgd hod rfl hen fun h' st' sb => ?_
    have I1 : L2.Inv X pins σ H { s with heap := h' } := I.turned (t' := s.toks) (fun b ob hb e => (sb.2 b hb).trans e) f0 f1 f3 f4 f5
    obtain ⟨oi, e, c, dd⟩ := id st'
    refine ⟨es[i].key, rfl, go_of (s := { s with heap := h' }) e c dd (by decide) ⟨.ref b, H, I1, hb, ⟨rfl, _, b, hen, hb, rfl⟩, st', fun b hb => (hf b hb).1⟩⟩
  done := by
    intro X hP hw hK hc i pins s σ H E I hf st hg
    subst hP hw hK
    obtain ⟨hd, hi⟩ := hg
    obtain ⟨f0, f1, f2, f3, f4, f5⟩ := hf it (by simp)
    have hgd : s.heap.get? d = some o := (I.hok d _ hd).1
    exact next_key_end (I.ok.hd hc) st hgd hod rfl hi fun h' eb => ⟨rfl, I.turned (t' := s.toks) (fun b ob hb e => eb b ob hb e) f0 f1 f3 f4 f5⟩
  self := fun A i s Q E st h => wpAny_pyIter_keyiter st h
def iM (f : ED) : ITD := fun ρ => M.bind (f ρ) fun d h => match d with
  | .ref n => match h[n]? with
    | some (.dM _ ks xs) => .ok (ks, none) (h.set n (.dM true ks xs))
    | _ => .bad
  | _ => .bad
section
variable {K : PySem.W.Frag} {mg : Str → Option Value} {m : List Addr} {S : Hp}
theorem ent_len : ∀ {ks xs : List D} {es : List DictEntry}, EntR K mg m S ks xs es → es.length = ks.length
  | [], [], es, h => by rw [show es = [] from h]; rfl
  | k :: ks, x :: xs, es, h => by
    obtain ⟨b, vs, kd, ns, v, u, r, h1, h2, h3, h4, h5, h6, h7, h8⟩ := h
    rw [h1, List.length_cons, List.length_cons, ent_len h8]
  | [], _ :: _, es, h => h.elim
  | _ :: _, [], es, h => h.elim
theorem ent_get : ∀ {ks xs : List D} {es : List DictEntry} {i : Nat} {d : D}, EntR K mg m S ks xs es → ks[i]? = some d → ∃ (e : DictEntry) (b : Addr), es[i]? = some e ∧ e.key = .ref b ∧ Rep K mg m S d (.ref b)
  | [], [], es, i, d, h, e => by simp at e
  | k :: ks, x :: xs, es, 0, d, h, e => by
    obtain ⟨b, vs, kd, ns, v, u, r, h1, h2, h3, h4, h5, h6, h7, h8⟩ := h
    have e : k = d := by simpa using e
    subst e h2
    refine ⟨_, b, by rw [h1]; rfl, rfl, ?_⟩
    unfold Rep
    exact ⟨b, vs, rfl, h4, h5⟩
  | k :: ks, x :: xs, es, i + 1, d, h, e => by
    obtain ⟨b, vs, kd, ns, v, u, r, h1, h2, h3, h4, h5, h6, h7, h8⟩ := h
    obtain ⟨e2, b2, q1, q2, q3⟩ := ent_get (i := i) (d := d) h8 (by simpa using e)
    exact ⟨e2, b2, by rw [h1]; exact q1, q2, q3⟩
  | [], _ :: _, es, i, d, h, e => h.elim
  | _ :: _, [], es, i, d, h, e => h.elim
end
section
variable {X : Cx} {W : WX} {tg e : Expr} {f : ED}
theorem si_dictM (he : PE X e (tD X.K X.mg W f)) : PI X tg e (tDI X.K X.mg W (iM f)) := by
  refine ⟨fun pins s σ H R I ⟨Z, m, ρ, h, at', p⟩ => ?_⟩
  unfold iM M.bind at p
  have h2 : tD X.K X.mg W f σ H (fun v H1 => ∃ m1 h1 d, Ext Z m H m1 H1 ∧ HeapOk X.K X.mg Z m1 h1 H1 ∧ Rep X.K X.mg m1 (hide (Z ++ m1) H1) d v ∧ f ρ h = .ok d h1) := by
    refine ⟨Z, m, ρ, h, at', ?_⟩
    cases e1 : f ρ h with
    | ok d h1 => exact fun v m1 H1 ex hk r => ⟨m1, h1, d, ex, hk, r, rfl⟩
    | exc c h1 => rw [e1] at p; exact p
    | bad => rw [e1] at p; exact p
  refine thn (he.run pins s σ H _ I h2) fun u s1 ⟨x, H1, I1, rx, m1, h1, d, ex, hk, r, e1⟩ => ?_
  rw [e1] at p
  dsimp only at p
  cases d with
  | ref n =>
    dsimp only at p
    cases ec : h1[n]? with
    | none => rw [ec] at p; exact p.elim
    | some c =>
      cases c with
      | dM b ks xs =>
        rw [ec] at p
        dsimp only at p
        unfold Rep at r
        obtain ⟨a, g1, rfl⟩ := r
        obtain rfl : u = Value.ref a := rx
        have cr := hk.cell _ _ a ec g1
        obtain ⟨o, es, ep, c1, c2, c3, c4, c5, c6⟩ := cr
        -- the dict is locked
        have lk : ∃ H2, L2.Inv X pins σ H2 s1 ∧ Ext Z m1 H1 m1 H2 ∧ HeapOk X.K X.mg Z m1 (h1.set n (.dM true ks xs)) H2 ∧ H2 a = some (.frz o (.ext fun h => h.get? a = some o)) := by
          cases b with
          | true =>
            rw [if_pos rfl] at c1
            refine ⟨H1, I1, Ext.refl, ?_, c1⟩
            have hs : h1.set n (.dM true ks xs) = h1 := by
              refine List.ext_getElem? fun j => ?_
              by_cases z : j = n
              · subst z
                rw [List.getElem?_set_self (List.getElem?_eq_some_iff.mp ec).1, ec]
              · rw [List.getElem?_set_ne (Ne.symm z)]
            rw [hs]; exact hk
          | false =>
            rw [if_neg Bool.false_ne_true] at c1
            obtain ⟨od, I2⟩ := I1.lock c1 trivial
            have g2 : s1.heap.get? a = some od := (I2.hok a _ upd_same).1
            have g3 : s1.heap.get? a = some o := (I1.hok a _ c1).1
            have eo : od = o := Option.some.inj (g2.symm.trans g3)
            subst eo
            have ex2 := Ext.setc (o := .frz od (.ext fun h => h.get? a = some od)) hk g1 c1
            exact ⟨_, I2, ex2, hk.setc (c := .dM true ks xs) g1 c1 ⟨od, es, ep, by rw [upd_same, if_pos rfl], c2, c3, c4, EntR.mono ex2.pre ex2.st c5, c6⟩, upd_same⟩
        obtain ⟨H2, I2, ex2, hk2, c7⟩ := lk
        have g3 : s1.heap.get? a = some o := (I2.hok a _ c7).1
        have c5' := EntR.mono ex2.pre ex2.st c5
        have hl := ent_len c5
        have hl2 : es.size = ks.length := by rw [← hl]; simp
        refine iter_keys c2 g3 c3 c4 (pi_one (tk := s1.toks) I2 _ (turn_keysM _ c4 fun i en hi => ?_) ⟨_, Heap.get?_push_size _ rfl, rfl, rfl⟩ (p _ m1 H2 (ex.trans ex2) hk2 ⟨fun Z' m' h' H' i d pre st fr _ _ hd => ?_, fun Z' m' h' H' pre st fr _ _ => ⟨fr _ _ _ c7, by rw [hl2]; exact Nat.le_refl _⟩⟩))
        · have hi' : i < ks.length := by
            rw [← hl2]
            exact (Array.getElem?_eq_some_iff.mp hi).1
          obtain ⟨e2, b2, q1, q2, q3⟩ := ent_get c5 (List.getElem?_eq_getElem hi')
          rw [Array.getElem?_toList, hi] at q1
          cases q1
          exact ⟨b2, q2⟩
        · obtain ⟨e2, b2, q1, q2, q3⟩ := ent_get c5' hd
          refine ⟨⟨fr _ _ _ c7, by rw [hl2]; exact (List.getElem?_eq_some_iff.mp hd).1⟩, fun x H'' y => ?_⟩
          obtain ⟨rfl, en, b3, z1, z2, rfl⟩ := y
          rw [Array.getElem?_toList, z1] at q1
          cases q1
          rw [z2] at q2
          cases q2
          exact ⟨rfl, Rep.mono pre st _ _ q3⟩
      | _ => rw [ec] at p; exact p.elim
  | _ => exact p.elim
end
end FK

/-! part: FKT -/
set_option Elab.async false
set_option linter.all false
set_option maxRecDepth 100000
set_option maxHeartbeats 4000000
/-! FKT: min of data; defs with tables; the end of a law with tables. -/
namespace PySem
section
variable {prog : Program} {w : World} {A : Around} {R : Result → Shared → Prop} {I : Addr} {fp wr : List Addr} {n : Nat} {P : Nat → Value → Prop} {St : Nat → Heap → Prop}
/-- the comparison, in states that bear all of h0 -/
def CmpG (prog : Program) (w : World) (A : Around) (h0 : Heap) (P : Nat → Value → Prop) (bt : Nat → Nat → Bool) : Prop :=
  ∀ i j vi vj (s : Shared) (Q : Value → Shared → Prop) (E : Value → Shared → Prop), (∀ b o, h0.get? b = some o → s.heap.get? b = some o) → P i vi → P j vj → Q (.bool (bt i j)) s → wpAny (model prog w) A (richCompare .Lt vi vj) Q E s
theorem minG_loop {h0 : Heap} (W : Walks prog w A.in1 I fp wr n P St) (bt : Nat → Nat → Bool) (hcmp : CmpG prog w A.in1 h0 P bt) (S : Addr) (hSf : S ∉ fp) (hI : ∀ b o, h0.get? b = some o → b ∉ wr ∧ b ≠ S) :
    ∀ (k j : Nat) (s : Shared) (vb : Value) (c : Nat), (∀ b o, h0.get? b = some o → s.heap.get? b = some o) → n - (j + 1) = k → j + 1 ≤ n → St (j + 1) s.heap → P (argBest bt j) vb →
    s.heap.get? S = some { cls := .type "list", dict := none, data := .seq #[vb, vb] c, slots := #[] } →
    (∀ v h' tk, P (argBest bt (n - 1)) v → (∀ b o, b ∉ wr → b ≠ S → s.heap.get? b = some o → h'.get? b = some o) → R (.ok (.ret v)) { s with heap := h', toks := tk }) →
    codeAny (model prog w) A (.builtin "min.loop" ⟨[.ref I, .none, .ref S], []⟩) R s := by
  have hSw : S ∉ wr := fun h => hSf (W.sub _ h)
  have hname : (toString "min" ++ toString ".loop" : String) = "min.loop" := by decide
  intro k
  induction k with
  | zero =>
    intro j s vb c hg hk hj hst hPb hS hR
    have hin : j + 1 = n := by omega
    refine codeAny_builtin F.entry_min_loop ?_
    rw [Around.under_plainId F.plain_min_loop _]
    show wpAny _ A.in1 (seqItems? (.ref S) >>= _) _ _ s
    refine wpAny_bind (wpAny_seqItems hS rfl ?_)
    show wpAny _ A.in1 (tryCatch (pyNext (.ref I)) _ >>= _) _ _ s
    refine wpAny_bind (wpAny_tryCatch (W.done s _ _ (hin ▸ hst) fun h' tk hk' => ?_))
    have hS' := hk' S _ hSw hS
    show wpAny _ A.in1 (updateSeq S (fun _ => #[]) >>= _) _ _ _
    refine wpAny_bind ?_
    refine wpAny_updateSeq hS' rfl (wpAny_bind (wpAny_letGo (wpAny_pure ?_)))
    refine hR vb _ tk (by rw [← hin]; exact hPb) fun b o hbw hbS e => (Heap.get?_update_other _ _ (Ne.symm hbS)).trans (hk' b o hbw e)
  | succ k ih =>
    intro j s vb c hg hk hj hst hPb hS hR
    have hlt : j + 1 < n := by omega
    refine codeAny_builtin F.entry_min_loop ?_
    rw [Around.under_plainId F.plain_min_loop _]
    show wpAny _ A.in1 (seqItems? (.ref S) >>= _) _ _ s
    refine wpAny_bind (wpAny_seqItems hS rfl ?_)
    show wpAny _ A.in1 (tryCatch (pyNext (.ref I)) _ >>= _) _ _ s
    refine wpAny_bind (wpAny_tryCatch (W.item (j + 1) s _ _ hlt hst fun v h' tk hP hst' hk' => ?_))
    have hS' := hk' S _ hSw hS
    have hg' : ∀ b o, h0.get? b = some o → h'.get? b = some o := fun b o e => hk' b o (hI b o e).1 (hg b o e)
    show wpAny _ A.in1 (tryCatch (holding [v, v] (richCompare .Lt v vb >>= _)) _ >>= _) _ _ _
    refine wpAny_bind (wpAny_tryCatch (wpAny_holding (wpAny_bind (hcmp (j + 1) (argBest bt j) v vb _ _ _ hg' hP hPb ?_))))
    refine wpAny_bind (wpAny_holding (wpAny_truthy_bool ?_))
    refine wpAny_bind (wpAny_letGo (wpAny_pure ?_))
    cases hb : bt (j + 1) (argBest bt j) with
    | true =>
      simp only [if_true]
      refine wpAny_bind ?_
      refine wpAny_updateSeq hS' rfl (wpAny_bind (wpAny_letGo ?_))
      rw [hname]
      refine wpAny_pure ⟨plainId_quiet F.plain_min_loop _, ih (j + 1) _ v _ (fun b o e => (Heap.get?_update_other _ _ (Ne.symm (hI b o e).2)).trans (hg' b o e)) (by omega) hlt (W.frame _ _ _ hst' fun b hbf o e => ?_) (by simp only [argBest, hb, if_true]; exact hP) (Heap.get?_update_self _ hS' rfl)
        fun v' h'' tk'' hP' hk'' => ?_⟩
      · exact (Heap.get?_update_other _ _ (fun h : S = b => hSf (by rw [h]; exact hbf))).trans e
      · exact hR v' h'' tk'' hP' fun b o hbw hbS e => hk'' b o hbw hbS ((Heap.get?_update_other _ _ (Ne.symm hbS)).trans (hk' b o hbw e))
    | false =>
      simp only [Bool.false_eq_true, if_false]
      refine wpAny_bind (wpAny_letGo ?_)
      rw [hname]
      refine wpAny_pure ⟨plainId_quiet F.plain_min_loop _, ih (j + 1) _ vb c hg' (by omega) hlt hst' (by simp only [argBest, hb, Bool.false_eq_true, if_false]; exact hPb) hS' fun v' h'' tk'' hP' hk'' => ?_⟩
      exact hR v' h'' tk'' hP' fun b o hbw hbS e => hk'' b o hbw hbS (hk' b o hbw e)
theorem minG_first {h0 : Heap} (W : Walks prog w A.in1 I fp wr n P St) (bt : Nat → Nat → Bool) (hcmp : CmpG prog w A.in1 h0 P bt) (S : Addr) (hSf : S ∉ fp) (hI : ∀ b o, h0.get? b = some o → b ∉ wr ∧ b ≠ S) (hn : 0 < n) {s : Shared} {c : Nat} (hg : ∀ b o, h0.get? b = some o → s.heap.get? b = some o) (hst : St 0 s.heap)
    (hS : s.heap.get? S = some { cls := .type "list", dict := none, data := .seq #[] c, slots := #[] })
    (hR : ∀ v h' tk, P (argBest bt (n - 1)) v → (∀ b o, b ∉ wr → b ≠ S → s.heap.get? b = some o → h'.get? b = some o) → R (.ok (.ret v)) { s with heap := h', toks := tk }) :
    codeAny (model prog w) A (.builtin "min.loop" ⟨[.ref I, .none, .ref S], []⟩) R s := by
  have hSw : S ∉ wr := fun h => hSf (W.sub _ h)
  have hname : (toString "min" ++ toString ".loop" : String) = "min.loop" := by decide
  refine codeAny_builtin F.entry_min_loop ?_
  rw [Around.under_plainId F.plain_min_loop _]
  show wpAny _ A.in1 (seqItems? (.ref S) >>= _) _ _ s
  refine wpAny_bind (wpAny_seqItems hS rfl ?_)
  show wpAny _ A.in1 (tryCatch (pyNext (.ref I)) _ >>= _) _ _ s
  refine wpAny_bind (wpAny_tryCatch (W.item 0 s _ _ hn hst fun v h' tk hP hst' hk' => ?_))
  have hS' := hk' S _ hSw hS
  show wpAny _ A.in1 (updateSeq S (fun _ => #[v, v]) >>= _) _ _ _
  refine wpAny_bind ?_
  refine wpAny_updateSeq hS' rfl ?_
  rw [hname]
  refine wpAny_pure ⟨plainId_quiet F.plain_min_loop _, minG_loop W bt hcmp S hSf hI _ 0 _ v _ (fun b o e => (Heap.get?_update_other _ _ (Ne.symm (hI b o e).2)).trans (hk' b o (hI b o e).1 (hg b o e))) rfl hn (W.frame _ _ _ hst' fun b hbf o e => ?_) hP (Heap.get?_update_self _ hS' rfl) fun v' h'' tk'' hP' hk'' => ?_⟩
  · exact (Heap.get?_update_other _ _ (fun h : S = b => hSf (by rw [h]; exact hbf))).trans e
  · exact hR v' h'' tk'' hP' fun b o hbw hbS e => hk'' b o hbw hbS ((Heap.get?_update_other _ _ (Ne.symm hbS)).trans (hk' b o hbw e))
end
section
variable {prog : Program} {w : World} {A : Around} {E : Value → Shared → Prop} {s : Shared}
theorem call_minG {x : Value} {Q : Value → Shared → Prop}
    (h : wpAny (model prog w) A.in1 (pyIter x) (fun it s₂ => ∃ I fp wr n P St bt h0, it = .ref I ∧ Walks prog w A.in1 I fp wr n P St ∧ St 0 s₂.heap ∧ (∀ b ∈ fp, b < s₂.heap.objs.size) ∧ 0 < n ∧ CmpG prog w A.in1 h0 P bt ∧ (∀ b o, h0.get? b = some o → b ∉ wr ∧ s₂.heap.get? b = some o) ∧
      ∀ v h' tk, P (argBest bt (n - 1)) v → (∀ b o, b ∉ wr → s₂.heap.get? b = some o → h'.get? b = some o) → Q v { s₂ with heap := h', toks := tk }) E s) :
    wpAny (model prog w) A (call (.builtin "min") [x]) Q E s := by
  have hname : (toString "min" ++ toString ".loop" : String) = "min.loop" := by decide
  refine call_function_tree F.kind_min F.plain_min F.entry_min (F.args_min1 _) ?_
  show wpAny _ A.in1 (Builtin.Builtins.bindParams "min" ["key", "default"] 0 ⟨[], []⟩ >>= _) _ _ s
  refine wpAny_bind (wpAny_of_eq (show Builtin.Builtins.bindParams "min" ["key", "default"] 0 ⟨[], []⟩ = pure [none, none] from rfl) ?_)
  refine wpAny_bind (wpAny_pure ?_)
  refine wpAny_bind (wpAny_mono h (fun it s₂ h₂ => ?_) fun _ _ e => e)
  obtain ⟨I, fp, wr, n, P, St, bt, h0, rfl, W, hst, hfp, hn, hcmp, hg, hQ⟩ := h₂
  refine wpAny_bind (wpAny_newObj_type ?_)
  have hSf : s₂.heap.objs.size ∉ fp := fun hm => Nat.lt_irrefl _ (hfp _ hm)
  rw [hname]
  refine wpAny_pure ⟨plainId_quiet F.plain_min_loop _, minG_first W bt hcmp s₂.heap.objs.size hSf (fun b o e => ⟨(hg b o e).1, Nat.ne_of_lt (Heap.lt_size (hg b o e).2)⟩) hn (fun b o e => Heap.get?_push_of_some _ (hg b o e).2) (W.frame _ _ _ hst fun b _ o e => Heap.get?_push_of_some _ e) (Heap.get?_push_size _ rfl) fun v h' tk hP hk => ?_⟩
  exact hQ v h' tk hP fun b o hbw e => hk b o hbw (Nat.ne_of_lt (Heap.lt_size e)) (Heap.get?_push_of_some _ e)
end
end PySem
namespace FK
open PySem PySem.Spec L2
open PyProof.Rows (envOfC)
open PySem.W (EachIs AllAlike Sortable dataLe dataLt tabIn)
/-- the first least -/
def bestD (lt : D → D → Bool) : D → List D → D
  | b, [] => b
  | b, x :: xs => bestD lt (if lt x b = true then x else b) xs
def ltD (x y : D) : Bool := dataLt x.py y.py
theorem best_at (lt : D → D → Bool) (x0 : D) : ∀ (xs : List D) (all : List D) (j : Nat) (b : D), all = x0 :: (all.drop 1) → all.drop (j + 1) = xs → all[PySem.argBest (fun i j => lt (all.getD i .non) (all.getD j .non)) j]? = some b →
    all[PySem.argBest (fun i j => lt (all.getD i .non) (all.getD j .non)) (j + xs.length)]? = some (bestD lt b xs)
  | [], all, j, b, _, _, h => h
  | x :: xs, all, j, b, h0, h1, h2 => by
    have hx : all[j + 1]? = some x := by
      have := congrArg (fun l => l[0]?) h1
      simpa [List.getElem?_drop] using this
    have h3 : all.drop (j + 1 + 1) = xs := by
      have := congrArg (List.drop 1) h1
      simpa [List.drop_drop] using this
    have h4 : all[PySem.argBest (fun i j => lt (all.getD i .non) (all.getD j .non)) (j + 1)]? = some (if lt x b = true then x else b) := by
      show all[if lt (all.getD (j + 1) .non) (all.getD (PySem.argBest _ j) .non) = true then j + 1 else PySem.argBest _ j]? = _
      rw [List.getD_eq_getElem?_getD, List.getD_eq_getElem?_getD, hx, h2]
      show all[if lt x b = true then j + 1 else PySem.argBest _ j]? = _
      by_cases hl : lt x b = true
      · rw [if_pos hl, if_pos hl]; exact hx
      · rw [if_neg hl, if_neg hl]; exact h2
    have := best_at lt x0 xs all (j + 1) _ h0 h3 h4
    rw [show j + (x :: xs).length = j + 1 + xs.length from by rw [List.length_cons]; omega]
    exact this
open Classical in
/-- min of a list of data -/
noncomputable def dMinD (ds : List D) : M D := fun h => match ds with
  | [d] => match lstOf h d with
    | some (x :: xs) => if SortOk (x :: xs) ∧ (x :: xs).length ≤ 1000000 then .ok (bestD ltD x xs) h else .bad
    | _ => .bad
  | _ => .bad
section
variable {X : Cx} {W : WX}
theorem call_dMinD (hc : X.calm = true) (hu : X.A.units + 60 < cLine) : CallR X (.builtin "min") (rDL X.K X.mg W dMinD) := by
  intro pins s σ H vs us Q I r ⟨Z, m, h, σ', ds, hk, rp, p⟩
  unfold dMinD at p
  split at p
  · obtain ⟨v, rfl, g⟩ := repL_one rp
    split at p
    · rename_i x xs hx
      split at p
      · rename_i hok
        obtain ⟨hso, hlen⟩ := hok
        obtain ⟨a, ws, rfl, g1, g2⟩ := hk.rlstOf g hx
        obtain ⟨u, rfl, ru⟩ := vals1 r
        obtain rfl : u = Value.ref a := ru
        obtain ⟨its, rv, pl, hz⟩ := I.list (SqL.of g1)
        have hl1 := g2.length
        have hl2 := rv.length
        have at_ : ∀ (i : Nat) (u : Value), its.toArray[i]? = some u → ∃ d v, (x :: xs)[i]? = some d ∧ RelV v u ∧ Rep X.K X.mg m (hide (Z ++ m) H) d v ∧ d ∈ x :: xs := fun i u hu => by
          have hi : i < (x :: xs).length := by
            have := (Array.getElem?_eq_some_iff.mp hu).1
            rw [List.size_toArray] at this
            omega
          obtain ⟨v, e1, e2⟩ := g2.get (List.getElem?_eq_getElem hi)
          obtain ⟨u', e3, e4⟩ := rv.get e1
          have hu' : its[i]? = some u := by simpa using hu
          rw [hu'] at e3
          cases e3
          exact ⟨_, v, List.getElem?_eq_getElem hi, e4, e2, List.getElem_mem hi⟩
        have rds : ∀ (d : D) (v : V) (u : Value), d ∈ x :: xs → RelV v u → Rep X.K X.mg m (hide (Z ++ m) H) d v → ∃ as, Reads s.heap u d.py as := fun d v u hd r1 r2 => Dp.reads I d.py v u (Rep.dp hide_sub d v r2 (D.flat_dat d (flatL_of hso.flat hd))) r1
        have hlt : a < s.heap.objs.size := by
          obtain ⟨_, e, _⟩ := pl.isList
          exact Heap.lt_size e
        refine call_minG (wpAny_pyIter_list pl.isList ?_)
        refine ⟨s.heap.objs.size, [s.heap.objs.size, a], [s.heap.objs.size], its.toArray.size, _, _, fun i j => ltD ((x :: xs).getD i .non) ((x :: xs).getD j .non), s.heap, rfl, Walks.list (A := X.A.in1) (I.ok.hd hc) _ a (Nat.ne_of_lt hlt) its.toArray, ⟨⟨_, Heap.get?_push_size _ rfl, rfl, rfl⟩, pl.isList.push _⟩, fun b hb => ?_, ?_, fun i j vi vj s2 Q2 E2 hg hi hj hq => ?_, fun b o e => ⟨fun z => ?_, Heap.get?_push_of_some _ e⟩, fun v h' tk hv hkk => ?_⟩
        · show b < (s.heap.push _).objs.size
          rw [Heap.size_push]
          rcases List.mem_cons.mp hb with rfl | hb
          · exact Nat.lt_succ_self _
          · rw [List.mem_singleton.mp hb]; exact Nat.lt_succ_of_lt hlt
        · rw [List.size_toArray, ← hl2, hl1]; exact Nat.zero_lt_succ _
        · obtain ⟨di, v1, a1, a2, a3, a4⟩ := at_ i vi hi
          obtain ⟨dj, v2, b1, b2, b3, b4⟩ := at_ j vj hj
          obtain ⟨as1, c1⟩ := rds di v1 vi a4 a2 a3
          obtain ⟨as2, c2⟩ := rds dj v2 vj b4 b2 b3
          have e1 : (x :: xs).getD i .non = di := by rw [List.getD_eq_getElem?_getD, a1]; rfl
          have e2 : (x :: xs).getD j .non = dj := by rw [List.getD_eq_getElem?_getD, b1]; rfl
          dsimp only at hq
          rw [e1, e2] at hq
          have nn : di.py ≠ .none := by
            rcases hso.sortable with z | z
            · obtain ⟨y, r, e⟩ := z di.py (List.mem_map.mpr ⟨di, a4, rfl⟩)
              rw [e]; exact fun z => by cases z
            · exact (z di.py (List.mem_map.mpr ⟨di, a4, rfl⟩)).1
          have hd1 := hso.dep
          have hd2 := depL_of a4
          have hd3 : di.py.depth = di.dep := D.dep_py di (D.flat_dat di (flatL_of hso.flat a4))
          exact PySem.W.rcLt_alike di.py dj.py X.A.in1 s2 vi vj as1 as2 (PyProof.Rows.Reads.keeps hg c1) (PyProof.Rows.Reads.keeps hg c2) (hso.alike _ (List.mem_map.mpr ⟨di, a4, rfl⟩) _ (List.mem_map.mpr ⟨dj, b4, rfl⟩)) nn (by show X.A.units + 1 + min di.py.depth dj.py.depth < cLine; omega) X.prog X.w _ _ hq
        · rw [List.mem_singleton.mp z] at e
          exact absurd (Heap.lt_size e) (Nat.lt_irrefl _)
        · have hb := best_at ltD x xs (x :: xs) 0 x rfl rfl rfl
          obtain ⟨d, v', e1, e2, e3, _⟩ := at_ _ _ hv
          have hn : its.toArray.size - 1 = 0 + xs.length := by
            rw [List.size_toArray, ← hl2, hl1, List.length_cons]; omega
          rw [hn, hb] at e1
          cases e1
          have kp : ∀ b o, s.heap.get? b = some o → h'.get? b = some o := fun b o e => hkk b o (fun z => by
            rw [List.mem_singleton.mp z] at e
            exact absurd (Heap.lt_size e) (Nat.lt_irrefl _)) (Heap.get?_push_of_some _ e)
          exact ⟨v', H, I.kept kp, e2, put_old hk e3 p⟩
      · exact p.elim
    · exact p.elim
  · exact p.elim
theorem sb_minD {p pos : Pos} {e : Expr} {es : List Expr} {fs : AD} (hc : X.calm = true) (hu : X.A.units + 60 < cLine) (hm : X.mg "min" = none) (ha : PA X (e :: es) (tDL X.K X.mg W fs)) (hg : Gl X "min" := by rfl) (he : starEach (e :: es) X.env = (false, eval e X.env) :: starEach es X.env := by rfl) (hpl : (backTo pos (starEach es X.env)).any (·.1) = false := by rfl) :
    PE X (.Call (.Name "min" p) (e :: es) [] pos) (tD X.K X.mg W (eCall dMinD fs)) := se_callB (call_dMinD hc hu) hg hm PyProof.Rows.boot_min ha (by decide) (by decide) he hpl
theorem sb_sort {p pos : Pos} {e : Expr} {es : List Expr} {fs : AD} (hu : X.A.units + 60 < cLine) (hm : X.mg "sorted" = none) (ha : PA X (e :: es) (tDL X.K X.mg W fs)) (hg : Gl X "sorted" := by rfl) (he : starEach (e :: es) X.env = (false, eval e X.env) :: starEach es X.env := by rfl) (hpl : (backTo pos (starEach es X.env)).any (·.1) = false := by rfl) :
    PE X (.Call (.Name "sorted" p) (e :: es) [] pos) (tD X.K X.mg W (eCall dSort fs)) := se_callB (call_dSort hu) hg hm PyProof.Rows.boot_sorted ha (by decide) (by decide) he hpl
theorem sb_sortC {p pos : Pos} {e : Expr} {es : List Expr} {fs : AD} (hu : X.A.units + 60 < cLine) (hm : X.mg "sorted" = none) (ha : PA X (e :: es) (tDL X.K X.mg W fs)) (hg : Gl X "sorted" := by rfl) (he : starEach (e :: es) X.env = (false, eval e X.env) :: starEach es X.env := by rfl) (hpl : (backTo pos (starEach es X.env)).any (·.1) = false := by rfl) :
    PE X (.Call (.Name "sorted" p) (e :: es) [] pos) (tD X.K X.mg W (eCall dSortC fs)) := se_callB (call_dSortC hu) hg hm PyProof.Rows.boot_sorted ha (by decide) (by decide) he hpl
end
/-! ### defs with tables -/
theorem tab_code {K : PySem.W.Frag} {x : Str} {a c P : Addr} {oc : Value} {od : Option Addr} {fd : FuncData} {sl : Array (Option Value)} (n : PySem.W.nsIn K mainGlobals x = some (some (.ref a))) (l : K.lookup a = some ⟨oc, od, .func fd, sl⟩) (t : tabIn K x = some (c, P)) : fd.code = .ref c := by
  unfold tabIn at t
  rw [n] at t
  dsimp only at t
  rw [l] at t
  dsimp only at t
  split at t
  · rename_i c2 hc
    split at t
    · split at t
      · cases t; exact hc
      · cases t
    · cases t
  · cases t
theorem tab_mk {K : PySem.W.Frag} {x : Str} {a c P : Addr} {oc e : Value} {od dd : Option Addr} {fd : FuncData} {sl sl2 : Array (Option Value)} {vs : Array Value} (n : PySem.W.nsIn K mainGlobals x = some (some (.ref a))) (l : K.lookup a = some ⟨oc, od, .func fd, sl⟩) (hc : fd.code = .ref c) (g : K.lookup c = some ⟨e, dd, .fields vs, sl2⟩) (v : vs[11]? = some (.ref P)) : tabIn K x = some (c, P) := by
  unfold tabIn
  rw [n]
  dsimp only
  rw [l]
  dsimp only
  rw [hc]
  dsimp only
  rw [g]
  dsimp only
  rw [v]
section
variable {P : Program} {w : World} {K : PySem.W.Frag} {mg : Str → Option Value} {base : Heap}
theorem fn_okT {x qual : Str} {st : Stmt} {f c : Addr} {fd : FuncData} {N ps : List Str} {k : Nat} {body : SD} (F : Fun K x qual st f fd) (hcode : fd.code = .ref c) (S : FnScope N ps (defScope st))
    (hbody : ∀ (A : Around) (outer : List PySem.Env) (s : Shared) (H : Hp) (E : XK), Room k (A.deeper (envOfC qual (defScope st) s.heap.objs.size f (.ref c))) →
      PSs (cxOf (L2.CX P w) P w K mg base N qual (defScope st) f (.ref c) A outer s H E) (defBody st) (tDS K mg (WE E) body)) : FnOk P w K mg base (L2.CX P w) (k + 1) f fd ps (spF K mg ps.length (fnD N.length body)) := by
  obtain ⟨oc, od, kV, doc, pm, an, cdv, ct, osl, rfl, lk, hcd⟩ := F.ex
  have ec : cdv = .ref c := hcode
  subst ec
  refine fn_of lk hcd S (fun vs H Q E ⟨Z, m, h, ds, hk, r, e, p⟩ => r.length.trans e) (fun A outer s H vs Q E hr ⟨Z, m, h, ds, hk, r, e, p⟩ => ⟨_, hbody A outer s H E hr, Z, m, ds.map some ++ List.replicate (N.length - vs.length) none, h, ⟨hk, ?_⟩, ?_⟩)
  · exact REnv.start (ds := ds) (N.length - vs.length) r
  · unfold fnD at p
    rw [r.length]
    cases q : body (ds.map some ++ List.replicate (N.length - ds.length) none) h with
    | ok fl ρ' h' =>
      rw [q] at p
      cases fl with
      | rt d => exact p
      | nx => exact fun σ' m' H' ex hk' en => p _ m' H' ex hk' mk_non
      | bk => exact p.elim
      | ct => exact p.elim
    | exc c ρ' h' => rw [q] at p; exact fun σ' m' H' cls ex hk' en hc => p m' H' cls ex hk' hc
    | bad => rw [q] at p; exact p
end
/-- the tables of the defs tq -/
def TabsOf (K : PySem.W.Frag) : List Str → List (Addr × Addr) → Prop
  | [], [] => True
  | t :: ts, p :: ps => tabIn K t = some p ∧ TabsOf K ts ps
  | _, _ => False
theorem TabsOf.len {K : PySem.W.Frag} : ∀ {ts : List Str} {ps : List (Addr × Addr)}, TabsOf K ts ps → ps.length = ts.length
  | [], [], _ => rfl
  | t :: ts, p :: ps, h => by rw [List.length_cons, List.length_cons, TabsOf.len h.2]
  | [], _ :: _, h => h.elim
  | _ :: _, [], h => h.elim
theorem TabsOf.at {K : PySem.W.Frag} : ∀ {ts : List Str} {ps : List (Addr × Addr)} {i : Nat} {t : Str} {p : Addr × Addr}, TabsOf K ts ps → ts[i]? = some t → ps[i]? = some p → tabIn K t = some p
  | t :: ts, p :: ps, 0, t', p', h, e1, e2 => by
    cases (show some t = some t' from e1)
    cases (show some p = some p' from e2)
    exact h.1
  | t :: ts, p :: ps, i + 1, t', p', h, e1, e2 => TabsOf.at (i := i) h.2 (by simpa using e1) (by simpa using e2)
  | [], [], _, _, _, _, e, _ => by simp at e
  | [], _ :: _, _, _, _, h, _, _ => h.elim
  | _ :: _, [], _, _, _, h, _, _ => h.elim
theorem TabsOf.mem {K : PySem.W.Frag} {ts : List Str} {ps : List (Addr × Addr)} (h : TabsOf K ts ps) {p : Addr × Addr} (hp : p ∈ ps) : ∃ t ∈ ts, tabIn K t = some p := by
  obtain ⟨i, hi, e⟩ := List.mem_iff_getElem.mp hp
  have hi2 : i < ts.length := by rw [← h.len]; exact hi
  exact ⟨ts[i], List.getElem_mem hi2, h.at (List.getElem?_eq_getElem hi2) (by rw [List.getElem?_eq_getElem hi, e])⟩
/-- the end of a law whose defs make lambdas -/
theorem law_walkT {l : PySem.W.OpenLaw} {k : Nat} {q : Program} {loose : List Str} {XP : (Str → Option Value) → Heap → Prop} {YP : World → Heap → Prop} {d : DefRec} {K : Params → PySem.W.Frag} {x : Str} {F : FD} (tq : List Str) (hn : l.most = some 63) (hdf : d.params.defaults = []) (hr : Room k callerA)
    (hrec : ∀ t ∈ tq, ((PyProof.Rows.recsOf q).any fun e => e.name == t) = true)
    (hY : ∀ (w : World) (h : Heap), YP w h → (K w.params).In h)
    (hF : ∀ (w : World) (mg : Str → Option Value) (fa : Addr) (h : Heap), (K w.params).In h → h.Ns mainGlobals mg → mg d.name = some (.ref fa) →
      ∃ cs : List (Addr × Addr), TabsOf (K w.params) tq cs ∧ (∀ p ∈ cs, (K w.params).lookup p.2 = none) ∧ (cs.map (·.2)).Nodup ∧
      ∃ fd : FuncData, (∀ (s : Shared) (u : Value), BindsTo s fd ⟨[u], []⟩ [(x, u)]) ∧ ∀ base : Heap, (K w.params).In base → base.Ns mainGlobals mg → (∀ p ∈ cs, LamX.TabB base mg p.1 p.2) → FnOk l.prog w (K w.params) mg base (L2.CX l.prog w) k fa fd [x] (spF (K w.params) mg 1 F))
    (hT : ∀ ns : List Int, ns.length ≤ 63 → ∃ h, F [scrD ns] (tq.map .tab) = .ok (.bl true) h) :
    PySem.W.WalkO q loose XP YP l.row.toRowW d [] (fun f vs => PySem.call f vs) := by
  refine Att.attach_callB hn hdf fun w s₀ s₁ mg mb fa o pm cd doc a vs ns G Y ho hd hcd hmg hobj hints hlen hbits hg => ?_
  have KX := hY w _ Y
  obtain ⟨cs, hts, hnone, hnd, fd, hb, hF⟩ := hF w mg fa _ KX G.T.g hmg
  have tabs : ∀ p ∈ cs, PySem.W.CodeHd s₁.heap p.1 p.2 ∧ s₁.heap.get? p.2 = some { cls := .none, data := .fields #[] } := fun p hp => by
    obtain ⟨t, ht, e⟩ := hts.mem hp
    obtain ⟨dr, hdr⟩ : ∃ dr, (PyProof.Rows.recsOf q).find? (fun e => e.name == t) = some dr := by
      cases z : (PyProof.Rows.recsOf q).find? (fun e => e.name == t) with
      | some dr => exact ⟨dr, rfl⟩
      | none =>
        rw [List.find?_eq_none] at z
        obtain ⟨e, he, he2⟩ := List.any_eq_true.mp (hrec t ht)
        exact absurd he2 (z e he)
    exact PySem.W.tab_of G.T KX hdr e
  refine LamX.law_callTs (sp := fun vs H Q E => ∃ (a : Addr) (ns : List Int), vs = [.ref a] ∧ SqL (K w.params) H a (ns.map V.int) ∧ ns.length ≤ 63 ∧ (∀ p ∈ cs, H p.2 = some (.tbl #[])) ∧ ∀ H', Q (.bl true) H')
    KX G.T.g G.T.b G.T.builtins G.T.nolimit hg (fun p hp => (tabs p hp).2) hnone (fun p hp => (tabs p hp).1) G.T.bmain hobj hints (Nat.le_trans hlen (by decide)) hr (fun base k1 k2 TB => (hF base k1 k2 TB).imp fun vs H Q E ⟨a, ns, e, hs, hl, hH, hq⟩ => ?_) hb (fun H hH hS => ⟨a, ns, rfl, hS, hlen, hH, fun _ => rfl⟩) (fun H e s' c => ?_)
  · subst e
    have am : a ∉ cs.map (·.2) → True := fun _ => trivial
    refine ⟨[], cs.map (·.2), tq.map .tab, [scrD ns], ⟨by rw [List.length_map, List.length_map, hts.len], hnd, (fun _ _ z => nomatch z), (fun _ z => nomatch z), fun n c b h1 h2 => ?_⟩, RepL.one ?_, rfl, ?_⟩
    · rw [List.getElem?_map] at h1 h2
      cases e1 : tq[n]? with
      | none => rw [e1] at h1; cases h1
      | some t =>
        cases e2 : cs[n]? with
        | none => rw [e2] at h2; cases h2
        | some p =>
          rw [e1] at h1
          rw [e2] at h2
          cases h1
          cases h2
          refine ⟨p.1, #[], hts.at e1 e2, hH p (List.mem_of_getElem? e2), trivial, fun pos cv z => ?_⟩
          have z : codeAmong pos [] = some cv := z
          simp [codeAmong] at z
    · unfold Rep
      refine ⟨a, ns.map V.int, rfl, ?_, repL_scr ns⟩
      have out : ∀ u, H a = some u → (∀ ps, u ≠ .tbl ps) → hide ([] ++ cs.map (·.2)) H a = some u := fun u e nt => hide_of (fun z => by
        obtain ⟨p, hp, ep⟩ := List.mem_map.mp (show a ∈ cs.map (·.2) from z)
        have := hH p hp
        rw [ep, e] at this
        exact nt _ (Option.some.inj this)) e
      rcases hs with (z | ⟨o, z⟩) | z
      · exact .inl (.inl (out _ z fun _ y => by cases y))
      · exact .inl (.inr ⟨o, out _ z fun _ y => by cases y⟩)
      · exact .inr z
    · obtain ⟨h', e⟩ := hT ns hl
      rw [e]
      intro v m' H' _ _ r
      rw [rep_bl r]
      exact hq H'
  · obtain ⟨_, _, _, _, _, _, _, _, _, _, _, _, z⟩ := c
    exact z
/-- xs + ys, lists: a cell -/
def dAddC (x y : D) : M D := fun h => match lstOf h x, lstOf h y with
  | some xs, some ys => if xs.length + ys.length ≤ sizeLine then .ok (.ref h.length) (h ++ [.lst (xs ++ ys)]) else .bad
  | _, _ => .bad
section
variable {X : Cx} {W : WX}
theorem op_dAddC : OpR X (binaryOp .Add) (rD2 X.K X.mg W dAddC) := by
  intro pins s σ H vx vy v u Q I rx ry ⟨Z, m, h, σ', x, y, hk, r1, r2, p⟩
  unfold dAddC at p
  split at p
  · rename_i xs ys h1 h2
    obtain ⟨a, xs, rfl, g1, g2⟩ := hk.rlstOf r1 h1
    obtain ⟨b, ys, rfl, g3, g4⟩ := hk.rlstOf r2 h2
    split at p
    · rename_i hz
      exact op_cat pins s σ H _ _ v u Q I rx ry ⟨a, b, xs, ys, rfl, rfl, g1, g3, by rw [g2.length, g4.length]; exact hz, put_cell hk (g2.append g4) p⟩
    · exact p.elim
  · exact p.elim
end
/-- a def that is not called -/
theorem fn_bad {P : Program} {w : World} {K : PySem.W.Frag} {mg : Str → Option Value} {base : Heap} {x qual : Str} {st : Stmt} {f : Addr} {fd : FuncData} {N ps : List Str} {k n : Nat} (F : Fun K x qual st f fd) (S : FnScope N ps (defScope st)) :
    FnOk P w K mg base (L2.CX P w) (k + 1) f fd ps (spF K mg n fun _ _ => .bad) :=
  F.okX S (fun vs H Q E ⟨Z, m, h, ds, hk, r, e, p⟩ => p.elim) (fun cdv A outer s H vs Q E hr ⟨Z, m, h, ds, hk, r, e, p⟩ => p.elim)
/-- xs == [], xs != []: whatever the items are -/
def dEqNil (x y : D) : M D := fun h => match lstOf h x, lstOf h y with
  | some xs, some [] => .ok (.bl xs.isEmpty) h
  | _, _ => .bad
def dNeNil (x y : D) : M D := fun h => match lstOf h x, lstOf h y with
  | some xs, some [] => .ok (.bl (!xs.isEmpty)) h
  | _, _ => .bad
section
variable {X : Cx} {W : WX}
theorem op_dEqNil (hu : X.A.units + 60 < cLine) : OpR X (compareOp .Eq) (rD2 X.K X.mg W dEqNil) := by
  intro pins s σ H vx vy v u Q I rx ry ⟨Z, m, h, σ', x, y, hk, r1, r2, p⟩
  unfold dEqNil at p
  split at p
  · rename_i xs h1 h2
    obtain ⟨a, vs, rfl, g1, g2⟩ := hk.rlstOf r1 h1
    obtain ⟨b, ws, rfl, g3, g4⟩ := hk.rlstOf r2 h2
    obtain rfl := g4.of_nil
    obtain rfl : v = Value.ref a := rx
    obtain rfl : u = Value.ref b := ry
    obtain ⟨is1, q1, p1, _⟩ := I.list (SqL.of g1)
    obtain ⟨is2, q2, p2, _⟩ := I.list (SqL.of g3)
    cases q2
    have fin : ∀ c, c = xs.isEmpty → EP X pins σ Q (.bool c) s := fun c e => by
      subst e
      exact ⟨.bl xs.isEmpty, H, I, rfl, put_bl hk p⟩
    cases xs with
    | nil =>
      obtain rfl := g2.of_nil
      cases q1
      exact SeqAt.eq_listAt p1.isList p2.isList rfl (by omega) (e := fun _ => true) (fun j h1 _ => absurd h1 (Nat.not_lt_zero _)) (fin _ rfl)
    | cons x xs =>
      have hl := g2.length
      have hl2 := q1.length
      refine SeqAt.eq_list_lengthsAt p1.isList p2.isList ?_ (by omega) (fin _ rfl)
      rw [List.size_toArray, ← hl2, hl]
      rfl
  · exact p.elim
theorem op_dNeNil (hu : X.A.units + 60 < cLine) : OpR X (compareOp .NotEq) (rD2 X.K X.mg W dNeNil) := by
  intro pins s σ H vx vy v u Q I rx ry ⟨Z, m, h, σ', x, y, hk, r1, r2, p⟩
  unfold dNeNil at p
  split at p
  · rename_i xs h1 h2
    obtain ⟨a, vs, rfl, g1, g2⟩ := hk.rlstOf r1 h1
    obtain ⟨b, ws, rfl, g3, g4⟩ := hk.rlstOf r2 h2
    obtain rfl := g4.of_nil
    obtain rfl : v = Value.ref a := rx
    obtain rfl : u = Value.ref b := ry
    obtain ⟨is1, q1, p1, _⟩ := I.list (SqL.of g1)
    obtain ⟨is2, q2, p2, _⟩ := I.list (SqL.of g3)
    cases q2
    have fin : ∀ c, c = !xs.isEmpty → EP X pins σ Q (.bool c) s := fun c e => by
      subst e
      exact ⟨.bl (!xs.isEmpty), H, I, rfl, put_bl hk p⟩
    cases xs with
    | nil =>
      obtain rfl := g2.of_nil
      cases q1
      exact SeqAt.RcNeAt.lists (A := X.A) p1.isList p2.isList rfl (by omega) (e := fun _ => true) (fun j h1 _ => absurd h1 (Nat.not_lt_zero _)) X.prog X.w _ _ (fin _ rfl)
    | cons x xs =>
      have hl := g2.length
      have hl2 := q1.length
      refine SeqAt.RcNeAt.lists_lengths (A := X.A) p1.isList p2.isList ?_ (by omega) X.prog X.w _ _ (fin _ rfl)
      rw [List.size_toArray, ← hl2, hl]
      rfl
  · exact p.elim
/-- is True, is False: bools -/
noncomputable def dIsB (x y : D) : M D := fun h => match x, y with
  | .bl c, .bl d => .ok (.bl (c == d)) h
  | _, _ => .bad
noncomputable def dIsntB (x y : D) : M D := fun h => match x, y with
  | .bl c, .bl d => .ok (.bl (c != d)) h
  | _, _ => .bad
theorem op_dIsB : OpR X (compareOp .Is) (rD2 X.K X.mg W dIsB) := by
  intro pins s σ H vx vy v u Q I rx ry ⟨Z, m, h, σ', x, y, hk, r1, r2, p⟩
  unfold dIsB at p
  split at p
  · obtain rfl := rep_bl r1
    obtain rfl := rep_bl r2
    cases rx
    cases ry
    exact PyProof.Rows.is_bool (fin_bl I (put_bl hk p) rfl)
  · exact p.elim
theorem op_dIsntB : OpR X (compareOp .IsNot) (rD2 X.K X.mg W dIsntB) := by
  intro pins s σ H vx vy v u Q I rx ry ⟨Z, m, h, σ', x, y, hk, r1, r2, p⟩
  unfold dIsntB at p
  split at p
  · obtain rfl := rep_bl r1
    obtain rfl := rep_bl r2
    cases rx
    cases ry
    exact PyProof.Rows.isnot_bool (fin_bl I (put_bl hk p) rfl)
  · exact p.elim
end
theorem bo_eqNil : Boolish dEqNil := fun x y h d h' e => by unfold dEqNil at e; split at e <;> cases e; exact ⟨_, rfl, rfl⟩
theorem bo_isB : Boolish dIsB := fun x y h d h' e => by unfold dIsB at e; split at e <;> cases e; exact ⟨_, rfl, rfl⟩
theorem bo_isntB : Boolish dIsntB := fun x y h d h' e => by unfold dIsntB at e; split at e <;> cases e; exact ⟨_, rfl, rfl⟩
theorem bo_neNil : Boolish dNeNil := fun x y h d h' e => by unfold dNeNil at e; split at e <;> cases e; exact ⟨_, rfl, rfl⟩
end FK

/-! part: FKI -/
set_option linter.all false
set_option maxRecDepth 100000
set_option maxHeartbeats 4000000
namespace FK
open PySem PySem.Spec L2
/-! FKI: xs[i] = v. -/
def sSetL (ed ek ev : ED) : SD := sE ev fun d => sE ed fun x => sE ek fun y ρ h =>
  match x, y with
  | .ref n, .int k => match h[n]? with
    | some (.lst xs) => match ixN xs.length k with
      | some j => .ok .nx ρ (h.set n (.lst (xs.set j d)))
      | none => .bad
    | _ => .bad
  | _, _ => .bad
section
variable {X : Cx} {W : WX} {o i e : Expr} {f fi fe : ED} {pos pos' : Pos}
theorem ss_setL (ho : PE X o (tD X.K X.mg W f)) (hi : PE X i (tD X.K X.mg W fi)) (hv : PE X e (tD X.K X.mg W fe))
    (ha : ∀ v, assign (.Subscript o i pos') X.env v = (do
      let ov ← holding [v] (eval o X.env)
      let iv ← holding [v, ov] (eval i X.env)
      standAt pos'
      holding [v, ov, iv] (setItem ov iv v)
      release [v, ov, iv] []) := by intro _; rfl)
    (hs : swapsWithSole [.Subscript o i pos'] e pos.line X.env = pure false := by rfl) (hw : swappedStores [.Subscript o i pos'] e X.env = pure none := by rfl)
    (h1 : (assignEach [.Subscript o i pos'] X.env).map (·.2) = [assign (.Subscript o i pos') X.env] := by rfl) :
    PS X (.Assign [.Subscript o i pos'] e pos) (tDS X.K X.mg W (sSetL f fi fe)) :=
  pickS fun σ H E ⟨Z, m, ρ, h, at', p⟩ => ⟨_, ps_asg hv (pg_sub ho hi set_list ha) hs hw h1, Z, m, ρ, h, at', (PostS.ofE at' p).imp fun y H1 ⟨d, m1, h1, ex1, at1, r1, q1⟩ => ⟨Z, m1, ρ, h1, at1, (PostS.ofE at1 q1).imp fun x H2 ⟨dx, m2, h2, ex2, at2, r2, q2⟩ => ⟨Z, m2, ρ, h2, at2, (PostS.ofE at2 q2).imp fun yk H3 ⟨dk, m3, h3, ex3, at3, r3, q3⟩ => by
    cases dx with
    | ref n =>
      cases dk with
      | int k =>
        dsimp only at q3
        split at q3
        · rename_i xs ec
          split at q3
          · rename_i j hj
            have r2' := ex3.rep r2
            unfold Rep at r2'
            obtain ⟨a, g1, rfl⟩ := r2'
            obtain rfl := rep_int r3
            obtain ⟨vs, g2, g3⟩ := at3.hk.cell _ _ a ec g1
            have ex := Ext.setc (o := .lst (vs.set j y)) at3.hk g1 g2
            refine ⟨a, vs, k, j, rfl, rfl, g2, by rw [g3.length]; exact hj, ?_⟩
            exact q3 σ m3 _ ex (at3.hk.setc (c := .lst (xs.set j d)) g1 g2 ⟨vs.set j y, upd_same, RepL.set (ex.rep (ex3.rep (ex2.rep r1))) j (ex.repL g3)⟩) (ex.env at3.en)
          · exact q3.elim
        · exact q3.elim
      | _ => exact q3.elim
    | _ => exact q3.elim⟩⟩⟩
end
/-! ### a thing that is made and never changed -/
theorem nodup_atI {α : Type} {rs : List α} (nd : rs.Nodup) {i j : Nat} {r : α} (h1 : rs[i]? = some r) (h2 : rs[j]? = some r) : i = j := by
  obtain ⟨a, a2⟩ := List.getElem?_eq_some_iff.mp h1
  obtain ⟨b, b2⟩ := List.getElem?_eq_some_iff.mp h2
  have pw := List.pairwise_iff_getElem.mp nd
  rcases Nat.lt_trichotomy i j with h | h | h
  · exact absurd (a2.trans b2.symm) (pw i j a b h)
  · exact h
  · exact absurd (b2.trans a2.symm) (pw j i b a h)
/-- one more row in a list that is there -/
def Cell.nrC : Cell → Bool
  | .lst xs => D.nrL xs
  | .ins _ _ xs => D.nrL xs
  | .tab _ => true
  | .dS _ xs => D.nrL xs
  | .dM _ _ _ => false
mutual
/-- all cells in it stand before k -/
def D.lt (k : Nat) : D → Bool
  | .tup xs => D.ltL k xs
  | .lst xs => D.ltL k xs
  | .scr xs => D.ltL k xs
  | .obj _ _ xs => D.ltL k xs
  | .ref n => decide (n < k)
  | _ => true
def D.ltL (k : Nat) : List D → Bool
  | [] => true
  | d :: ds => D.lt k d && D.ltL k ds
end
def Cell.ltC (k : Nat) : Cell → Bool
  | .lst xs => D.ltL k xs
  | .ins _ _ xs => D.ltL k xs
  | .tab _ => true
  | .dS _ xs => D.ltL k xs
  | .dM _ _ _ => false
mutual
theorem D.lt_le {k k' : Nat} (h : k ≤ k') : ∀ d : D, d.lt k = true → d.lt k' = true
  | .non, _ => rfl
  | .bl _, _ => rfl
  | .int _, _ => rfl
  | .str _, _ => rfl
  | .tup xs, e => D.ltL_le h xs (by simpa [D.lt] using e)
  | .lst xs, e => D.ltL_le h xs (by simpa [D.lt] using e)
  | .scr xs, e => D.ltL_le h xs (by simpa [D.lt] using e)
  | .obj _ _ xs, e => D.ltL_le h xs (by simpa [D.lt] using e)
  | .ref n, e => by
    have : n < k := by simpa [D.lt] using e
    show decide (n < k') = true
    exact decide_eq_true (by omega)
theorem D.ltL_le {k k' : Nat} (h : k ≤ k') : ∀ ds : List D, D.ltL k ds = true → D.ltL k' ds = true
  | [], _ => rfl
  | d :: ds, e => by
    have e' : d.lt k = true ∧ D.ltL k ds = true := by simpa [D.ltL] using e
    show (d.lt k' && D.ltL k' ds) = true
    rw [D.lt_le h d e'.1, D.ltL_le h ds e'.2]; rfl
end
mutual
theorem D.lt_nr (k : Nat) : ∀ d : D, d.nr = true → d.lt k = true
  | .non, _ => rfl
  | .bl _, _ => rfl
  | .int _, _ => rfl
  | .str _, _ => rfl
  | .tup xs, e => D.ltL_nr k xs (by simpa [D.nr] using e)
  | .lst xs, e => D.ltL_nr k xs (by simpa [D.nr] using e)
  | .scr xs, e => D.ltL_nr k xs (by simpa [D.nr] using e)
  | .obj _ _ xs, e => D.ltL_nr k xs (by simpa [D.nr] using e)
  | .ref n, e => by simp [D.nr] at e
theorem D.ltL_nr (k : Nat) : ∀ ds : List D, D.nrL ds = true → D.ltL k ds = true
  | [], _ => rfl
  | d :: ds, e => by
    have e' : d.nr = true ∧ D.nrL ds = true := by simpa [D.nrL] using e
    show (d.lt k && D.ltL k ds) = true
    rw [D.lt_nr k d e'.1, D.ltL_nr k ds e'.2]; rfl
end
theorem Cell.lt_nr (k : Nat) {c : Cell} (h : Cell.nrC c = true) : Cell.ltC k c = true := by
  cases c with
  | lst xs => exact D.ltL_nr k xs h
  | ins a b xs => exact D.ltL_nr k xs h
  | tab q => rfl
  | dS a xs => exact D.ltL_nr k xs h
  | dM a b xs => cases h
theorem Cell.lt_le {k k' : Nat} (h : k ≤ k') {c : Cell} (e : Cell.ltC k c = true) : Cell.ltC k' c = true := by
  cases c with
  | lst xs => exact D.ltL_le h xs e
  | ins a b xs => exact D.ltL_le h xs e
  | tab q => rfl
  | dS a xs => exact D.ltL_le h xs e
  | dM a b xs => cases e
theorem all_lt_nr {T : CH} (k : Nat) (h : T.all Cell.nrC = true) : T.all (Cell.ltC k) = true := by
  rw [List.all_eq_true] at h ⊢
  exact fun c hc => Cell.lt_nr k (h c hc)
def eFrz (f : ED) : ED := fun ρ h => match f ρ h with
  | .ok (.ref k) h' => (match h'[k]? with
    | some (.ins c ns xs) => if k + 1 = h'.length ∧ h.length ≤ k ∧ D.nrL xs = true ∧ (h'.take k).all (Cell.ltC k) = true then .ok (.obj c ns xs) (h'.take k) else .bad
    | _ => .bad)
  | _ => .bad
theorem eFrz_okL {f : ED} {ρ : Env} {h T : CH} {c : Str} {ns : List Str} {xs : List D} (e : f ρ h = .ok (.ref T.length) (T ++ [.ins c ns xs])) (hT : T.all (Cell.ltC T.length) = true) (hx : D.nrL xs = true) (hl : h.length ≤ T.length) : eFrz f ρ h = .ok (.obj c ns xs) T := by
  unfold eFrz
  rw [e]
  dsimp only
  have g : (T ++ [Cell.ins c ns xs])[T.length]? = some (.ins c ns xs) := by simp
  rw [g]
  dsimp only
  have t : (T ++ [Cell.ins c ns xs]).take T.length = T := List.take_left
  rw [t, if_pos ⟨by rw [List.length_append]; rfl, hl, hx, hT⟩]
theorem eFrz_ok {f : ED} {ρ : Env} {h T : CH} {c : Str} {ns : List Str} {xs : List D} (e : f ρ h = .ok (.ref T.length) (T ++ [.ins c ns xs])) (hT : T.all Cell.nrC = true) (hx : D.nrL xs = true) (hl : h.length ≤ T.length) : eFrz f ρ h = .ok (.obj c ns xs) T := eFrz_okL e (all_lt_nr _ hT) hx hl
section
variable {X : Cx} {W : WX} {e : Expr} {f : ED}
mutual
theorem Rep.lt {K : PySem.W.Frag} {mg : Str → Option Value} {m m' : List Addr} {S S' : Hp} {k : Nat} (hs : Sub S S') (hm : ∀ n, n < k → m'[n]? = m[n]?) : ∀ (d : D) (v : V), Rep K mg m S d v → d.lt k = true → Rep K mg m' S' d v
  | .non, v, h, _ => by simpa [Rep] using h
  | .bl b, v, h, _ => by simpa [Rep] using h
  | .int b, v, h, _ => by simpa [Rep] using h
  | .str b, v, h, _ => by simpa [Rep] using h
  | .tup xs, v, h, q => by
    unfold Rep at h ⊢
    obtain ⟨a, vs, e, g, r⟩ := h
    exact ⟨a, vs, e, hs.sqt g, RepL.lt hs hm xs vs r (by simpa [D.lt] using q)⟩
  | .lst xs, v, h, q => by
    unfold Rep at h ⊢
    obtain ⟨a, vs, e, g, r⟩ := h
    exact ⟨a, vs, e, hs _ _ g, RepL.lt hs hm xs vs r (by simpa [D.lt] using q)⟩
  | .scr xs, v, h, q => by
    unfold Rep at h ⊢
    obtain ⟨a, vs, e, g, r⟩ := h
    exact ⟨a, vs, e, hs.sql g, RepL.lt hs hm xs vs r (by simpa [D.lt] using q)⟩
  | .obj c ns xs, v, h, q => by
    unfold Rep at h ⊢
    obtain ⟨a, C, dx, fs, e, g, e2, e3, r⟩ := h
    exact ⟨a, C, dx, fs, e, hs _ _ g, e2, e3, RepL.lt hs hm xs _ r (by simpa [D.lt] using q)⟩
  | .ref n, v, h, q => by
    unfold Rep at h ⊢
    obtain ⟨a, e, g⟩ := h
    exact ⟨a, by rw [hm n (by simpa [D.lt] using q)]; exact e, g⟩
theorem RepL.lt {K : PySem.W.Frag} {mg : Str → Option Value} {m m' : List Addr} {S S' : Hp} {k : Nat} (hs : Sub S S') (hm : ∀ n, n < k → m'[n]? = m[n]?) : ∀ (ds : List D) (vs : List V), RepL K mg m S ds vs → D.ltL k ds = true → RepL K mg m' S' ds vs
  | [], vs, h, _ => by rw [h.of_nil]; exact RepL.nil
  | d :: ds, vs, h, q => by
    obtain ⟨v, r, rfl, a, b⟩ := h.of_cons
    have q' : d.lt k = true ∧ D.ltL k ds = true := by simpa [D.ltL] using q
    exact RepL.cons (Rep.lt hs hm d v a q'.1) (RepL.lt hs hm ds r b q'.2)
end
theorem ltC_rep {K : PySem.W.Frag} {mg : Str → Option Value} {m m' : List Addr} {S S' H : Hp} {k : Nat} (hs : Sub S S') (hm : ∀ n, n < k → m'[n]? = m[n]?) {a : Addr} {c : Cell} (hc : Cell.ltC k c = true) (r : CellR K mg m S H a c) : CellR K mg m' S' H a c := by
  cases c with
  | lst xs =>
    obtain ⟨vs, r1, r2⟩ := r
    exact ⟨vs, r1, RepL.lt hs hm xs vs r2 hc⟩
  | ins c ns xs =>
    obtain ⟨C, dx, fs, r1, r2, r3, r4⟩ := r
    exact ⟨C, dx, fs, r1, r2, r3, RepL.lt hs hm xs _ r4 hc⟩
  | tab q =>
    obtain ⟨c, ps, r1, r2, r3, r4⟩ := r
    exact ⟨c, ps, r1, r2, r3, fun pos cv hcv => by
      obtain ⟨c', e1, e2⟩ := r4 pos cv hcv
      exact ⟨c', e1, hs _ _ e2⟩⟩
  | dS ks xs =>
    obtain ⟨vs, r1, r2, r3, r4⟩ := r
    exact ⟨vs, r1, r2, RepL.lt hs hm xs vs r3 hc, r4⟩
  | dM b ks xs => cases hc
theorem se_frz (he : PE X e (tD X.K X.mg W f)) : PE X e (tD X.K X.mg W (eFrz f)) :=
  pick fun σ H Q ⟨Z, m, ρ, h, at', p⟩ => ⟨_, he, Z, m, ρ, h, at', by
    unfold eFrz at p
    cases q : f ρ h with
    | ok d h' =>
      rw [q] at p
      cases d with
      | ref k =>
        dsimp only at p
        split at p
        · rename_i c ns xs ec
          split at p
          · rename_i hh
            obtain ⟨c1, c2, c3, c4⟩ := hh
            intro v m' H' ex hk' r
            have hlm : m.length = h.length := at'.hk.len
            have hlm' : m'.length = h'.length := hk'.len
            have hsub : ∀ x ∈ m'.take k, x ∈ m' := fun x hx => List.mem_of_mem_take hx
            have st : Sub (hide (Z ++ m') H') (hide (Z ++ m'.take k) H') := fun a o eo => by
              obtain ⟨q1, q2⟩ := hide_some eo
              refine hide_of (fun z => q1 ?_) q2
              rcases List.mem_append.mp z with z | z
              · exact List.mem_append_left _ z
              · exact List.mem_append_right _ (hsub a z)
            have get : ∀ (n : Nat), n < k → (m'.take k)[n]? = m'[n]? := fun n hn => List.getElem?_take_of_lt hn
            have ex2 : Ext Z m H (m'.take k) H' := ⟨fun n a ea => by
              have hn : n < k := by
                have := (List.getElem?_eq_some_iff.mp ea).1
                omega
              rw [get n hn]
              exact ex.pre n a ea, ex.st.trans st, ex.zs, ex.fr⟩
            have hk2 : HeapOk X.K X.mg Z (m'.take k) (h'.take k) H' := by
              refine ⟨by rw [List.length_take, List.length_take, hlm'], List.Nodup.sublist (List.take_sublist k m') hk'.nd, fun a ha => hk'.dj a (hsub a ha), hk'.ex, fun n c0 a e1 e2 => ?_⟩
              have hn : n < k := by
                have := (List.getElem?_eq_some_iff.mp e2).1
                rw [List.length_take] at this
                omega
              have e1' : h'[n]? = some c0 := by rw [← e1]; exact (List.getElem?_take_of_lt hn).symm
              have e2' : m'[n]? = some a := by rw [← e2]; exact (get n hn).symm
              have hc0 : Cell.ltC k c0 = true := List.all_eq_true.mp c4 c0 (List.mem_of_getElem? e1)
              exact ltC_rep st get hc0 (hk'.cell n c0 a e1' e2')
            refine p v (m'.take k) H' ex2 hk2 ?_
            unfold Rep at r
            obtain ⟨a, ga, rfl⟩ := r
            obtain ⟨C, dx, fs, r1, r2, r3, r4⟩ := hk'.cell k _ a ec ga
            have na : a ∉ Z ++ m'.take k := fun z => by
              rcases List.mem_append.mp z with z | z
              · exact hk'.dj a (List.mem_of_getElem? ga) z
              · obtain ⟨j, hj⟩ := List.mem_iff_getElem?.mp z
                have hjk : j < k := by
                  have := (List.getElem?_eq_some_iff.mp hj).1
                  rw [List.length_take] at this
                  omega
                rw [get j hjk] at hj
                have := nodup_atI hk'.nd hj ga
                omega
            unfold Rep
            exact ⟨a, C, dx, fs, rfl, hide_of na r1, r2, r3, RepL.nr st xs _ r4 c3⟩
          · exact p.elim
        · exact p.elim
      | _ => exact p.elim
    | exc c h' => rw [q] at p; exact p.elim
    | bad => rw [q] at p; exact p.elim⟩
end
end FK

/-! part: FKS -/
set_option Elab.async false
set_option linter.all false
set_option maxRecDepth 100000
set_option maxHeartbeats 4000000
/-! FKS: sorted(set(a list of ints)), list(range(..)). -/
namespace FK
open PySem PySem.Spec L2
section
variable {P : Program} {w : World} {A : Around} {E : Value → Shared → Prop} {s : Shared}
/-- a set that is new -/
abbrev newSet (w : World) : Obj := { cls := .type "set", dict := none, data := .set #[] 0 (.fresh 0 0 (!w.params.followText "set-order")) }
set_option maxHeartbeats 3200000 in
theorem set_of_ints {l : Addr} {items : Array Value} (ns : List Int) {Q : Value → Shared → Prop} (noH : A.handled = none) (il : s.heap.IsList l items) (ii : PyProof.Rows.IntsAre items.toList ns) (few : ns.length + 1 < scanBound)
    (k : ∀ (h' : Heap) (tk c : Nat), SetR w h' s.heap.objs.size (fun j => decide (j ∈ ns)) c → c ≤ ns.length → (∀ b o, s.heap.get? b = some o → h'.get? b = some o) → Q (.ref s.heap.objs.size) { s with heap := h', toks := tk }) :
    wpAny (model P w) A (call (.type "set") [.ref l]) Q E s := by
  have isz : items.size = ns.length := by
    have := PyProof.Rows.IntsAre.length ii
    rw [Array.length_toList] at this
    exact this
  have g0 : (s.heap.push (newSet w)).get? s.heap.objs.size = some (newSet w) := Heap.get?_push_size _ rfl
  have ty : Shared.TypeIs { s with heap := s.heap.push (newSet w) } (.ref s.heap.objs.size) "set" := ⟨_, g0, rfl⟩
  obtain ⟨c0, c1, c2⟩ := F.called_set.mro
  have m0 := F.called_set.made; have m1 := F.called_set.sub; have m2 := F.called_set.notType; have m3 := F.called_set.canCreate; have m4 := F.typeCall_set_1 (.ref l)
  have m5 := F.called_set.init.lookup; have m6 := F.called_set.init.bind (.ref s.heap.objs.size)
  refine wpAny_call (codeAny_of_tree (show wpAny _ _ (callAny (.type "set") _) _ _ _ from wpAny_pure ⟨Code.quiet_builtin _ (by decide +kernel), codeAny_builtin F.entry_type_call ?_⟩))
  rw [Around.under_plain (weight_type_call_type "set" [.ref l] []) rfl]
  repeat (any_goals (first | assumption | wp_step))
  refine codeAny_mono (code_set_led1 (.ref l) (E := E) (Q₁ := fun o s₁ => o = .ref s.heap.objs.size ∧ s₁ = { s with heap := s.heap.push (newSet w) }) ⟨rfl, rfl⟩) fun r s₁ hr => ?_
  cases r with
  | error e => exact hr
  | ok fl => cases fl with
    | ret obj =>
      obtain ⟨rfl, rfl⟩ := hr
      repeat (any_goals (first | assumption | wp_step))
      refine codeAny_mono (R := wants (fun r s₂ => r = .none ∧ ∃ h' tk c, s₂ = { s with heap := h', toks := tk } ∧ SetR w h' s.heap.objs.size (fun j => decide (j ∈ ns)) c ∧ c ≤ ns.length ∧ ∀ b o, s.heap.get? b = some o → h'.get? b = some o) E) (codeAny_call_builtin F.called_set.init.plain F.entry_set_init (check_set_init_1 ty ?_)) fun r₂ s₂ hr₂ => ?_
      rotate_left
      · cases r₂ with
        | error e => exact hr₂
        | ok fl₂ => cases fl₂ with
          | ret r =>
            obtain ⟨rfl, h', tk, c', rfl, hS', hc', hk'⟩ := hr₂
            repeat (any_goals (first | assumption | wp_step))
            exact k _ _ _ hS' hc' hk'
          | _ => exact hr₂.elim
      obtain ⟨ol, gl, cl, nl, dl⟩ := il
      obtain ⟨ocls, odict, odata, oslots⟩ := ol
      simp only at cl dl
      subst cl; subst dl
      have gl2 : (s.heap.push (newSet w)).get? l = some { cls := .type "list", dict := odict, data := .seq items nl, slots := oslots } := Heap.get?_push_of_some _ gl
      have f1 := F.sub_list_set
      have f2 := F.sub_list_frozenset
      have f3 : (Value.type "list" == Value.type "dict") = false := by decide
      have f4 : (s.heap.push (newSet w)).IsList l items := ⟨_, gl2, rfl, nl, rfl⟩
      unfold Builtin.«set.__init__» noKeywords Builtin.Frozenset.updateFrom
      generalize hPI : pyIter = PI
      wp_walk
      subst hPI
      refine wpAny_pyIter_list f4 (wpAny_bind (wpAny_runValue ?_))
      have lt : l < s.heap.objs.size := Heap.lt_size gl
      have sz : (s.heap.push (newSet w)).objs.size = s.heap.objs.size + 1 := Heap.size_push ..
      have n3 : A.in1.in1.in1.handled = none := by simp [noH]
      have nl1 : l ≠ (s.heap.push (newSet w)).objs.size := Nat.ne_of_lt (by rw [sz]; exact Nat.lt_succ_of_lt lt)
      have no2 : s.heap.objs.size ∉ [(s.heap.push (newSet w)).objs.size, l] := by
        rw [sz]
        intro z
        rcases List.mem_cons.mp z with q | q
        · exact absurd q (Nat.ne_of_lt (Nat.lt_succ_self _))
        · exact absurd (List.mem_singleton.mp q) (Nat.ne_of_gt lt)
      have val : ∀ (i : Nat) (v : Value), items[i]? = some v → ∃ k t, ns[i]? = some k ∧ v = .int k t := fun i v hv => by
        have hi : i < ns.length := by
          rw [← isz]
          exact (Array.getElem?_eq_some_iff.mp hv).1
        obtain ⟨t, e⟩ := PyProof.Rows.IntsAre.int_at ii i v (by rw [Array.getElem?_toList]; exact hv)
        refine ⟨ns[i], t, List.getElem?_eq_getElem hi, ?_⟩
        rw [e, List.getD_eq_getElem?_getD, List.getElem?_eq_getElem hi] <;> rfl
      refine set_update_ints ((Walks.list n3 _ l nl1 items).toS) s.heap.objs.size no2 ns isz few val (items.size - 0) 0 _ (by omega) (Nat.zero_le _) ⟨⟨_, Heap.get?_push_size _ rfl, rfl, rfl⟩, f4.push _⟩ ⟨0, Nat.le_refl 0, setR_new_at (Heap.get?_push_of_some _ g0)⟩ fun s' c' mv hc hS => ?_
      obtain ⟨h', g2, d', tk', os'⟩ := s'
      obtain rfl : g2 = s.gens := mv.gens
      obtain rfl : d' = s.drawn := mv.drawn
      obtain rfl : os' = s.os := mv.os
      show wpAny _ _ _ _ _ _
      refine wpAny_pure ?_
      show wpAny _ _ (ret Value.none) _ _ _
      rw [isz] at hc
      refine wpAny_pure ⟨rfl, h', tk', c', rfl, hS, hc, fun b o e => ?_⟩
      have b0 : b < s.heap.objs.size := Heap.lt_size e
      refine mv.heap b o (fun z => by
        rw [sz] at z
        rcases List.mem_cons.mp z with q | q
        · exact absurd q (Nat.ne_of_lt b0)
        · exact absurd (List.mem_singleton.mp q) (Nat.ne_of_lt (Nat.lt_succ_of_lt b0))) (Heap.get?_push_of_some _ (Heap.get?_push_of_some _ e))
    | _ => exact hr.elim
end
end FK

/-! part: FKH -/
set_option Elab.async false
set_option linter.all false
set_option maxRecDepth 100000
set_option maxHeartbeats 4000000
/-! FKH: sorted(set(a list of ints)), list(range(..)): the layer's rules. -/
namespace FK
open PySem PySem.Spec L2
theorem vals_pt : ∀ {xs : List V} {us : List Value}, xs.length = us.length → (∀ (k : Nat) x u, xs[k]? = some x → us[k]? = some u → RelV x u) → Vals xs us
  | [], [], _, _ => .nil
  | x :: xs, u :: us, hl, h => .cons (h 0 x u rfl rfl) (vals_pt (by simpa using hl) fun k y v e1 e2 => h (k + 1) y v (by simpa using e1) (by simpa using e2))
  | [], _ :: _, hl, _ => by cases hl
  | _ :: _, [], hl, _ => by cases hl
/-! what comes out: each once, ascending -/
def insU (x : Int) : List Int → List Int
  | [] => [x]
  | y :: ys => if x < y then x :: y :: ys else if x = y then y :: ys else y :: insU x ys
def sortU (ns : List Int) : List Int := ns.foldr insU []
theorem mem_insU {x z : Int} : ∀ {ys : List Int}, z ∈ insU x ys ↔ z = x ∨ z ∈ ys
  | [] => by simp [insU]
  | y :: ys => by
    unfold insU
    split
    · simp
    · split
      · rename_i e
        subst e
        simp
      · rw [List.mem_cons, mem_insU (ys := ys), List.mem_cons]
        constructor
        · rintro (h | h | h)
          · exact .inr (.inl h)
          · exact .inl h
          · exact .inr (.inr h)
        · rintro (h | h | h)
          · exact .inr (.inl h)
          · exact .inl h
          · exact .inr (.inr h)
theorem asc_insU {x : Int} : ∀ {ys : List Int}, ys.Pairwise (· < ·) → (insU x ys).Pairwise (· < ·)
  | [], _ => by simp [insU]
  | y :: ys, h => by
    obtain ⟨h1, h2⟩ := List.pairwise_cons.mp h
    unfold insU
    split
    · rename_i q
      refine List.pairwise_cons.mpr ⟨fun z hz => ?_, h⟩
      rcases List.mem_cons.mp hz with rfl | hz
      · exact q
      · have := h1 z hz; omega
    · split
      · exact h
      · refine List.pairwise_cons.mpr ⟨fun z hz => ?_, asc_insU h2⟩
        rcases mem_insU.mp hz with rfl | hz
        · omega
        · exact h1 z hz
theorem mem_sortU {z : Int} : ∀ {ns : List Int}, z ∈ sortU ns ↔ z ∈ ns
  | [] => by simp [sortU]
  | n :: ns => by
    show z ∈ insU n (sortU ns) ↔ _
    rw [mem_insU, mem_sortU (ns := ns), List.mem_cons]
theorem asc_sortU : ∀ ns : List Int, (sortU ns).Pairwise (· < ·)
  | [] => List.Pairwise.nil
  | n :: ns => asc_insU (asc_sortU ns)
theorem asc_uniq : ∀ {xs ys : List Int}, xs.Pairwise (· < ·) → ys.Pairwise (· < ·) → (∀ z, z ∈ xs ↔ z ∈ ys) → xs = ys
  | [], [], _, _, _ => rfl
  | [], y :: ys, _, _, h => absurd ((h y).mpr List.mem_cons_self) (by simp)
  | x :: xs, [], _, _, h => absurd ((h x).mp List.mem_cons_self) (by simp)
  | x :: xs, y :: ys, hx, hy, h => by
    obtain ⟨x1, x2⟩ := List.pairwise_cons.mp hx
    obtain ⟨y1, y2⟩ := List.pairwise_cons.mp hy
    have e : x = y := by
      rcases List.mem_cons.mp ((h x).mp List.mem_cons_self) with q | q
      · exact q
      · rcases List.mem_cons.mp ((h y).mpr List.mem_cons_self) with r | r
        · exact r.symm
        · have := y1 x q; have := x1 y r; omega
    subst e
    rw [asc_uniq x2 y2 fun z => ?_]
    constructor
    · intro hz
      rcases List.mem_cons.mp ((h z).mp (List.mem_cons_of_mem _ hz)) with q | q
      · have := x1 z hz; omega
      · exact q
    · intro hz
      rcases List.mem_cons.mp ((h z).mpr (List.mem_cons_of_mem _ hz)) with q | q
      · have := y1 z hz; omega
      · exact q
def dSortSet (x : D) : M D := fun h => match lstOf h x with
  | some xs => match intsD xs with
    | some ns => if ns.length < 64 then .ok (.lst ((sortU ns).map .int)) h else .bad
    | none => .bad
  | none => .bad
def dListR : List D → M D := fun ds h => match ds with
  | [.int i, .int j] => if (-(2 ^ 62) ≤ i ∧ i < 2 ^ 62 ∧ -(2 ^ 62) ≤ j ∧ j < 2 ^ 62) ∧ j - i ≤ 1000000 then .ok (.lst (rangeD i j)) h else .bad
  | _ => .bad
def eLr (f : AD) : ED := fun ρ => M.bind (f ρ) fun ds => dListR ds
def tSortSet (K : PySem.W.Frag) (ta : TE) : TE := fun σ H Q => ta σ H fun x H1 => ∃ (l : Addr) (ns : List Int), x = V.ref l ∧ SqL K H1 l (ns.map V.int) ∧ ns.length < 64 ∧ ∀ p, H1 p = none → Q (.ref p) (upd H1 p (.lst ((sortU ns).map V.int)))
def tListR (ta : TA) : TE := fun σ H Q => ta σ H fun vs H1 => ∃ i j : Int, vs = [.int i, .int j] ∧ (-(2 ^ 62) ≤ i ∧ i < 2 ^ 62 ∧ -(2 ^ 62) ≤ j ∧ j < 2 ^ 62) ∧ j - i ≤ 1000000 ∧ ∀ p, H1 p = none → Q (.ref p) (upd H1 p (.lst ((List.range (j - i).toNat).map fun k : Nat => V.int (i + k))))
section
variable {X : Cx} {W : WX}
theorem ints_vals : ∀ {ns : List Int} {us : List Value}, Vals (ns.map V.int) us → PyProof.Rows.IntsAre us ns
  | [], _, .nil => .nil
  | n :: ns, _, .cons r t => by
    obtain ⟨tk, rfl⟩ := r
    exact .cons _ _ (ints_vals t)
open PyProof.Rows in
theorem pe_sortSet {a : Expr} {ta : TE} {p p2 q pos : Pos} (hc : X.calm = true) (hg : Gl X "sorted") (hm : X.mg "sorted" = none) (hg2 : Gl X "set") (hm2 : X.mg "set" = none) (ha : PE X a ta)
    (na : starEach [a] X.env = (false, eval a X.env) :: starEach [] X.env := by rfl) : PE X (.Call (.Name "sorted" p) [.Call (.Name "set" p2) [a] [] q] [] pos) (tSortSet X.K ta) := by
  refine ⟨fun pins s σ H Q I h => ?_⟩
  refine Call_ (ld_blt I hg hm boot_sorted ?_)
  refine PyProof.Rows.callWith_builtin1 (PyProof.Rows.args_cons ?_ rfl) rfl rfl
  refine Call_ (ld_blt I hg2 hm2 PyProof.Rows.boot_set ?_)
  refine PyProof.Rows.callWith_type1 (PyProof.Rows.args_cons (thn (ha.run pins s σ H _ I h) fun v s1 ⟨x, H1, I1, r1, q1⟩ => PyProof.Rows.args_nil ?_) na) na rfl
  obtain ⟨l, ns, rfl, hq, hf, q1⟩ := q1
  cases r1
  obtain ⟨its, r, pl, hz⟩ := I1.list hq
  refine set_of_ints (P := X.prog) (w := X.w) ns (I1.ok.hd hc) pl.isList (by simpa using ints_vals r) (by unfold scanBound; omega) fun h' tk c R hle k => ?_
  refine PyProof.Rows.args_nil ?_
  have I2 : Inv X [] σ H1 { s1 with heap := h', toks := tk } := (I1.kept fun b o e => k b o e).unpinned (pins := [])
  have I2 : Inv X pins σ H1 { s1 with heap := h', toks := tk } := I1.kept fun b o e => k b o e
  refine sorted_set (s := { s1 with heap := h', toks := tk }) R (I2.ok.hd hc) (by omega) fun s' p out c2 os k2 g o hp hgt hi hs hmm hl => ?_
  have hn : H1 p = none := I2.hok.fresh hp
  have e : os = sortU ns := asc_uniq hs (asc_sortU ns) fun z => by rw [hmm, mem_sortU, decide_eq_true_eq]
  subst e
  have hlen : ((sortU ns).map V.int).length ≤ sizeLine := by rw [List.length_map, hl, sizeLine_eq]; omega
  have J : Inv X pins σ (upd H1 p (.lst ((sortU ns).map V.int))) { ({ s1 with heap := h', toks := tk } : Shared) with heap := s'.heap, gens := s'.gens, drawn := s'.drawn, toks := s'.toks } :=
    I2.call (ch := []) (Un.laid k2 hp hn) (I2.hok.laid k2 hp ⟨hlen, out.toList, c2, vals_of_ints hi, hgt⟩) (by rw [g]; exact I2.bare) (fun _ z => nomatch z)
  have es : s' = { ({ s1 with heap := h', toks := tk } : Shared) with heap := s'.heap, gens := s'.gens, drawn := s'.drawn, toks := s'.toks } := by
    cases s'
    cases o
    rfl
  rw [es]
  exact ⟨.ref p, _, J, rfl, q1 p hn⟩
open PyProof.Rows in
theorem pe_listR {a b : Expr} {ta : TA} {p p2 q pos : Pos} (hc : X.calm = true) (hg : Gl X "list") (hm : X.mg "list" = none) (hg2 : Gl X "range") (hm2 : X.mg "range" = none) (ha : PA X [a, b] ta)
    (hs : starEach [a, b] X.env = [(false, eval a X.env), (false, eval b X.env)] := by rfl) (hs2 : starEach [b] X.env = [(false, eval b X.env)] := by rfl) : PE X (.Call (.Name "list" p) [.Call (.Name "range" p2) [a, b] [] q] [] pos) (tListR ta) := by
  refine ⟨fun pins s σ H Q I h => ?_⟩
  refine Call_ (ld_blt I hg hm PyProof.Rows.boot_list ?_)
  refine PyProof.Rows.callWith_type1 (PyProof.Rows.args_cons ?_ rfl) rfl rfl
  refine Call_ (ld_blt I hg2 hm2 boot_range (PyProof.Rows.callWith_type1 (thn (ha.run q pins s σ H _ I h) fun us s1 ⟨vs, H1, I1, r1, q1⟩ => ?_) (by rw [hs, hs2]) (by rw [hs2]; rfl)))
  obtain ⟨i, j, rfl, ⟨b1, b2, b3, b4⟩, few, q1⟩ := q1
  cases r1 with
  | cons r rr =>
    cases rr with
    | cons r' rr =>
      cases rr
      obtain ⟨t, rfl⟩ := r
      obtain ⟨t', rfl⟩ := r'
      refine call_range_2 (PyProof.Rows.args_nil ?_)
      have I2 : Inv X pins σ H1 { s1 with heap := s1.heap.push { cls := .type "range", data := .fields #[.int i t, .int j t', .int 1 s1.toks] }, toks := s1.toks + 1 } := I1.kept fun b o e => Heap.get?_push_of_some _ e
      refine call_list_range (n := (j - i).toNat) (I2.ok.hd hc) (IsRange.new ..) (small_one b1 b2 b3 b4) (by rw [rangeSize_one]; split <;> omega) (by omega) fun h' tk acc' c' k hS hacc => ?_
      have sz := sizeLine_eq
      have hn : H1 (s1.heap.push { cls := .type "range", data := .fields #[.int i t, .int j t', .int 1 s1.toks] }).objs.size = none := I2.hok.fresh (Nat.le_refl _)
      generalize hp : (s1.heap.push { cls := .type "range", data := .fields #[.int i t, .int j t', .int 1 s1.toks] }).objs.size = p at hn hS ⊢
      refine ⟨.ref p, upd H1 p (.lst ((List.range (j - i).toNat).map fun k : Nat => V.int (i + k))), I2.laid (t' := tk) k (Nat.le_of_eq hp) ⟨?_, acc'.toList, c', ?_, by simpa using hS⟩, rfl, q1 _ hn⟩
      · rw [List.length_map, List.length_range]; omega
      · refine vals_pt (by rw [List.length_map, List.length_range, Array.length_toList]; exact hacc.1.symm) fun k v u e1 e2 => ?_
        rw [List.getElem?_map] at e1
        rw [Array.getElem?_toList] at e2
        obtain ⟨tk, rfl⟩ := hacc.2 k u e2
        have hk : k < (j - i).toNat := by
          have := (Array.getElem?_eq_some_iff.mp e2).1
          rw [hacc.1] at this
          exact this
        rw [List.getElem?_range hk] at e1
        cases e1
        exact ⟨tk, by rw [Int.mul_one]⟩
theorem rep_ints {K : PySem.W.Frag} {mg : Str → Option Value} {m : List Addr} {S : Hp} : ∀ ns : List Int, RepL K mg m S (ns.map D.int) (ns.map V.int)
  | [] => RepL.nil
  | n :: ns => RepL.cons (by unfold Rep; rfl) (rep_ints ns)
theorem se_sortSet {a : Expr} {f : ED} {p p2 q pos : Pos} (hc : X.calm = true) (hm : X.mg "sorted" = none) (hm2 : X.mg "set" = none) (ha : PE X a (tD X.K X.mg W f)) (hg : Gl X "sorted" := by rfl) (hg2 : Gl X "set" := by rfl)
    (na : starEach [a] X.env = (false, eval a X.env) :: starEach [] X.env := by rfl) : PE X (.Call (.Name "sorted" p) [.Call (.Name "set" p2) [a] [] q] [] pos) (tD X.K X.mg W (e1 dSortSet f)) :=
  pick fun σ H Q h => ⟨_, pe_sortSet hc hg hm hg2 hm2 ha na, den1 (r := fun x H1 Q => ∃ (l : Addr) (ns : List Int), x = V.ref l ∧ SqL X.K H1 l (ns.map V.int) ∧ ns.length < 64 ∧ ∀ p, H1 p = none → Q (.ref p) (upd H1 p (.lst ((sortU ns).map V.int)))) h fun v H Q ⟨Z, m, c, σ', x, hk, r, p⟩ => by
    unfold dSortSet at p
    split at p
    · rename_i xs ex
      split at p
      · rename_i ns en
        split at p
        · rename_i hl
          obtain ⟨l, vs, rfl, g, rl⟩ := hk.rlstOf r ex
          obtain rfl := ints_rep en rl
          exact ⟨l, ns, rfl, SqL.of g, hl, fun q hq => p _ m _ (Ext.laid hk hq) (hk.laid hq) (by
            unfold Rep
            exact ⟨q, _, rfl, hk.seen hq, rep_ints _⟩)⟩
        · exact p.elim
      · exact p.elim
    · exact p.elim⟩
theorem rangeD_V {K : PySem.W.Frag} {mg : Str → Option Value} {m : List Addr} {S : Hp} (i j : Int) : RepL K mg m S (rangeD i j) ((List.range (j - i).toNat).map fun k : Nat => V.int (i + k)) := by
  unfold rangeD
  generalize List.range (j - i).toNat = ks
  induction ks with
  | nil => exact RepL.nil
  | cons k ks ih => exact RepL.cons (by unfold Rep; rfl) ih
theorem se_listR {a b : Expr} {fs : AD} {p p2 q pos : Pos} (hc : X.calm = true) (hm : X.mg "list" = none) (hm2 : X.mg "range" = none) (ha : PA X [a, b] (tDL X.K X.mg W fs)) (hg : Gl X "list" := by rfl) (hg2 : Gl X "range" := by rfl)
    (hs : starEach [a, b] X.env = [(false, eval a X.env), (false, eval b X.env)] := by rfl) (hs2 : starEach [b] X.env = [(false, eval b X.env)] := by rfl) : PE X (.Call (.Name "list" p) [.Call (.Name "range" p2) [a, b] [] q] [] pos) (tD X.K X.mg W (eLr fs)) :=
  pick fun σ H Q ⟨Z, m, ρ, c, at', p⟩ => ⟨_, pe_listR hc hg hm hg2 hm2 ha hs hs2, Z, m, ρ, c, at', (PostG.bind p).imp fun vs H' ⟨ds, m', h', ex, hk, rl, _, q⟩ => by
    unfold dListR at q
    split at q
    · rename_i i j _
      obtain ⟨v, t, rfl, r1, rl⟩ := rl.of_cons
      obtain ⟨u, t2, rfl, r2, rl⟩ := rl.of_cons
      obtain rfl := rl.of_nil
      obtain rfl := rep_int r1
      obtain rfl := rep_int r2
      split at q
      · rename_i hb
        refine ⟨i, j, rfl, hb.1, hb.2, fun a ha => q _ m' _ (Ext.laid hk ha) (hk.laid ha) ?_⟩
        unfold Rep
        exact ⟨a, _, rfl, hk.seen ha, rangeD_V i j⟩
      · exact q.elim
    · exact q.elim⟩
end
end FK

/-! part: FKL -/
set_option maxRecDepth 100000
set_option maxHeartbeats 4000000
set_option linter.all false
namespace FK
open PySem PySem.Spec L2
/-! FKL: what is shared by the laws: loops, calls, cells drawn from the script. -/
noncomputable def cellsBody : SD := (sSeq (sAsg (eC (.int 0)) (gN 4))
  (sSeq (sIf (bT (e2 dLt (eVar 3) (eCall dLen (aCons (eVar 0) (aNil))))) (sAsg (eCall dInt (aCons (e2 dIdx (eVar 0) (eVar 3)) (aNil))) (gN 4)) (sNil))
  (sSeq (sIf (bT (e2 dLt (eVar 4) (eC (.int 0)))) (sAsg (e2 dSub (eC (.int 1)) (e2 dMul (eC (.int 2)) (eVar 4))) (gN 4)) (sNil))
  (sSeq (sIf (bOr (bT (e2 dGe (eVar 3) (eCall dLen (aCons (eVar 0) (aNil))))) (bT (e2 dLt (eVar 4) (eC (.int 1000000000))))) (sSeq (sIf (bT (e2 dGt (eCall dLen (aCons (eVar 0) (aNil))) (eC (.int 0)))) (sAsg (eCall dInt (aCons (e2 dIdx (eVar 0) (e2 dMod (eCall dInt (aCons (eVar 3) (aNil))) (eCall dLen (aCons (eVar 0) (aNil))))) (aNil))) (gN 4)) (sNil))
  (sSeq (sIf (bT (e2 dLt (eVar 4) (eC (.int 0)))) (sAsg (e2 dSub (eC (.int 1)) (e2 dMul (eC (.int 2)) (eVar 4))) (gN 4)) (sNil))
  (sSeq (sAsg (e2 dMod (eCall dInt (aCons (e2 dAdd (e2 dMul (e2 dAdd (e2 dAdd (eVar 4) (e2 dMul (eC (.int 131)) (eVar 3))) (eC (.int 7))) (eC (.int 48271))) (e2 dMul (e2 dMul (eVar 3) (eVar 3)) (eC (.int 69621)))) (aNil))) (eC (.int 1000000007))) (gN 4))
  (sAsg (e2 dMod (eCall dInt (aCons (e2 dMul (e2 dAdd (e2 dAdd (eVar 4) (e2 dMul (eC (.int 17)) (eVar 3))) (eC (.int 3))) (eC (.int 2862933555777941757))) (aNil))) (eC (.int 18446744073709551557))) (gN 4))))) (sNil))
  (sExpr (eMl dApp (eVar 2) (aCons (eVar 4) (aNil))))))))
theorem sz (n : Nat) : (n ≤ sizeLine) = (n ≤ 16777216) := by rw [sizeLine_eq]
theorem dOrd_one (c : Nat) (h : CH) : dOrd [.str ⟨#[c]⟩] h = .ok (.int c) h := rfl
theorem szl (n : Nat) : (n < sizeLine) = (n < 16777216) := by rw [sizeLine_eq]
theorem seq_eq {a b : SD} {ρ ρ1 : Env} {h h1 : CH} {r : RS} (e : a ρ h = .ok .nx ρ1 h1) (k : b ρ1 h1 = r) : sSeq a b ρ h = r := by
  unfold sSeq
  rw [e]
  exact k
theorem atI_in {ns : List Int} {k : Int} (h0 : 0 ≤ k) (h1 : k < ns.length) : ∃ v, atI (ns.map D.int) k = some (.int v) := by
  obtain ⟨j, rfl⟩ : ∃ j : Nat, k = (j : Int) := ⟨k.toNat, by omega⟩
  have hj : j < ns.length := by omega
  exact ⟨ns[j], L2.atI_nat (by rw [List.getElem?_map, List.getElem?_eq_getElem hj]; rfl)⟩
/-- an if that only stores an int at its end -/
theorem if_int {c : BD} {s : SD} {ρ : Env} {h : CH} {b : Bool} (e : c ρ h = .ok b h) {P : Env → CH → Prop} (h1 : b = true → ∃ ρ1 h1, s ρ h = .ok .nx ρ1 h1 ∧ P ρ1 h1) (h2 : b = false → P ρ h) : ∃ ρ1 h1, sIf c s sNil ρ h = .ok .nx ρ1 h1 ∧ P ρ1 h1 := by
  unfold sIf sB
  rw [e]
  cases b with
  | true => exact h1 rfl
  | false => exact ⟨ρ, h, rfl, h2 rfl⟩
abbrev cE (ns : List Int) (n k : Int) (x : Option D) : Env := [some (scrD ns), some (.int n), some (.ref 0), some (.int k), x]
theorem cells_turn (ns acc : List Int) (n k : Int) (x : Option D) (hl : ns.length ≤ 63) (h0 : 0 ≤ k) (hk : k < 1000) (ha : acc.length < 1000) :
    ∃ c, 0 ≤ c ∧ cellsBody (cE ns n k x) [.lst (acc.map .int)] = .ok .nx (cE ns n k (some (.int c))) [.lst ((acc ++ [c]).map .int)] := by
  unfold cellsBody
  have hs : sizeLine = 16777216 := sizeLine_eq
  have neg : ∀ c : Int, ∃ c2, 0 ≤ c2 ∧ (sIf (bT (e2 dLt (eVar 4) (eC (.int 0)))) (sAsg (e2 dSub (eC (.int 1)) (e2 dMul (eC (.int 2)) (eVar 4))) (gN 4)) (sNil)) (cE ns n k (some (.int c))) [.lst (acc.map .int)] = .ok .nx (cE ns n k (some (.int c2))) [.lst (acc.map .int)] := fun c => by
    by_cases hc : c < 0
    · refine ⟨1 - 2 * c, by omega, ?_⟩
      simp only [sSeq, sIf, sB, sE, sAsg, sRet, sRetN, sNil, sExpr, sBrk, sCnt, gN, gT, gsC, gsN, FK.e1, FK.e2, eC, eVar, eCall, aNil, aCons, M.bind, M.pure, eTup, eLst, eNew, eSl, oNone, oSome, bT, bNot, bAnd, bOr, eAnd, eOr, eNot, eIf, eCh, truth, eMs, eMl, dAdd, dSub, dMul, dFdiv, dMod, dLe, dLt, dGe, dGt, dEq, dNe, dIs, dIsnt, D.isNon, dIn, dNotIn, dIdx, dSl, dLen, dInt, dOrd_one, dMax2, dMin2, dTuple, dList, dListC, dApp, dNeg, vw, seq, lstOf, fnD, List.map_cons, List.map_nil, List.length_cons, List.length_nil, List.cons_append, List.nil_append, List.append_nil, List.replicate_succ, List.replicate_zero, List.getElem?_cons_zero, List.getElem?_cons_succ, List.set_cons_zero, List.set_cons_succ, Int.cast_ofNat_Int, Nat.reduceBEq, Int.reduceBEq, Nat.reduceAdd, Nat.reduceSub, Nat.reduceLT, Nat.reduceLeDiff, Nat.zero_add, Nat.add_zero, Nat.sub_zero, Nat.sub_self, ↓reduceIte, if_true, if_false, Bool.not_true, Bool.not_false, Bool.false_eq_true, Bool.true_eq_false, decide_true, decide_false, decide_not, true_and, and_true, and_self, true_or, or_true, not_true_eq_false, not_false_eq_true, ne_eq, reduceCtorEq, Int.reduceLT, Int.reduceLE, Int.reduceNeg, Int.reduceSub, Int.reduceAdd, Int.reduceMul, Int.reducePow, Int.reduceToNat, sz, D.dat, D.datL, D.dep, D.depL, szl, inb, List.any_cons, List.any_nil, Bool.true_and, Bool.false_and, Bool.and_true, Bool.and_false, Bool.or_false, Bool.false_or, Bool.true_or, Bool.or_true, Nat.max_self, Nat.max_zero, Nat.zero_max, Nat.min_self, Nat.zero_le, Nat.min_zero, Nat.zero_min, forL, forX, iR1, iR2, rng1, rng2, iE, itOf, sFor, bYes, decide_eq_true hc]
    · refine ⟨c, by omega, ?_⟩
      simp only [sSeq, sIf, sB, sE, sAsg, sRet, sRetN, sNil, sExpr, sBrk, sCnt, gN, gT, gsC, gsN, FK.e1, FK.e2, eC, eVar, eCall, aNil, aCons, M.bind, M.pure, eTup, eLst, eNew, eSl, oNone, oSome, bT, bNot, bAnd, bOr, eAnd, eOr, eNot, eIf, eCh, truth, eMs, eMl, dAdd, dSub, dMul, dFdiv, dMod, dLe, dLt, dGe, dGt, dEq, dNe, dIs, dIsnt, D.isNon, dIn, dNotIn, dIdx, dSl, dLen, dInt, dOrd_one, dMax2, dMin2, dTuple, dList, dListC, dApp, dNeg, vw, seq, lstOf, fnD, List.map_cons, List.map_nil, List.length_cons, List.length_nil, List.cons_append, List.nil_append, List.append_nil, List.replicate_succ, List.replicate_zero, List.getElem?_cons_zero, List.getElem?_cons_succ, List.set_cons_zero, List.set_cons_succ, Int.cast_ofNat_Int, Nat.reduceBEq, Int.reduceBEq, Nat.reduceAdd, Nat.reduceSub, Nat.reduceLT, Nat.reduceLeDiff, Nat.zero_add, Nat.add_zero, Nat.sub_zero, Nat.sub_self, ↓reduceIte, if_true, if_false, Bool.not_true, Bool.not_false, Bool.false_eq_true, Bool.true_eq_false, decide_true, decide_false, decide_not, true_and, and_true, and_self, true_or, or_true, not_true_eq_false, not_false_eq_true, ne_eq, reduceCtorEq, Int.reduceLT, Int.reduceLE, Int.reduceNeg, Int.reduceSub, Int.reduceAdd, Int.reduceMul, Int.reducePow, Int.reduceToNat, sz, D.dat, D.datL, D.dep, D.depL, szl, inb, List.any_cons, List.any_nil, Bool.true_and, Bool.false_and, Bool.and_true, Bool.and_false, Bool.or_false, Bool.false_or, Bool.true_or, Bool.or_true, Nat.max_self, Nat.max_zero, Nat.zero_max, Nat.min_self, Nat.zero_le, Nat.min_zero, Nat.zero_min, forL, forX, iR1, iR2, rng1, rng2, iE, itOf, sFor, bYes, decide_eq_false hc]
  obtain ⟨c1, e1⟩ : ∃ c1, (sIf (bT (e2 dLt (eVar 3) (eCall dLen (aCons (eVar 0) (aNil))))) (sAsg (eCall dInt (aCons (e2 dIdx (eVar 0) (eVar 3)) (aNil))) (gN 4)) (sNil)) (cE ns n k (some (.int 0))) [.lst (acc.map .int)] = .ok .nx (cE ns n k (some (.int c1))) [.lst (acc.map .int)] := by
    by_cases hc : k < ns.length
    · obtain ⟨v, hv⟩ := atI_in h0 hc
      refine ⟨v, ?_⟩
      simp only [sSeq, sIf, sB, sE, sAsg, sRet, sRetN, sNil, sExpr, sBrk, sCnt, gN, gT, gsC, gsN, FK.e1, FK.e2, eC, eVar, eCall, aNil, aCons, M.bind, M.pure, eTup, eLst, eNew, eSl, oNone, oSome, bT, bNot, bAnd, bOr, eAnd, eOr, eNot, eIf, eCh, truth, eMs, eMl, dAdd, dSub, dMul, dFdiv, dMod, dLe, dLt, dGe, dGt, dEq, dNe, dIs, dIsnt, D.isNon, dIn, dNotIn, dIdx, dSl, dLen, dInt, dOrd_one, dMax2, dMin2, dTuple, dList, dListC, dApp, dNeg, vw, seq, lstOf, fnD, List.map_cons, List.map_nil, List.length_cons, List.length_nil, List.cons_append, List.nil_append, List.append_nil, List.replicate_succ, List.replicate_zero, List.getElem?_cons_zero, List.getElem?_cons_succ, List.set_cons_zero, List.set_cons_succ, Int.cast_ofNat_Int, Nat.reduceBEq, Int.reduceBEq, Nat.reduceAdd, Nat.reduceSub, Nat.reduceLT, Nat.reduceLeDiff, Nat.zero_add, Nat.add_zero, Nat.sub_zero, Nat.sub_self, ↓reduceIte, if_true, if_false, Bool.not_true, Bool.not_false, Bool.false_eq_true, Bool.true_eq_false, decide_true, decide_false, decide_not, true_and, and_true, and_self, true_or, or_true, not_true_eq_false, not_false_eq_true, ne_eq, reduceCtorEq, Int.reduceLT, Int.reduceLE, Int.reduceNeg, Int.reduceSub, Int.reduceAdd, Int.reduceMul, Int.reducePow, Int.reduceToNat, sz, D.dat, D.datL, D.dep, D.depL, szl, inb, List.any_cons, List.any_nil, Bool.true_and, Bool.false_and, Bool.and_true, Bool.and_false, Bool.or_false, Bool.false_or, Bool.true_or, Bool.or_true, Nat.max_self, Nat.max_zero, Nat.zero_max, Nat.min_self, Nat.zero_le, Nat.min_zero, Nat.zero_min, forL, forX, iR1, iR2, rng1, rng2, iE, itOf, sFor, bYes, scrD, List.length_map, decide_eq_true hc, hv]
    · refine ⟨0, ?_⟩
      simp only [sSeq, sIf, sB, sE, sAsg, sRet, sRetN, sNil, sExpr, sBrk, sCnt, gN, gT, gsC, gsN, FK.e1, FK.e2, eC, eVar, eCall, aNil, aCons, M.bind, M.pure, eTup, eLst, eNew, eSl, oNone, oSome, bT, bNot, bAnd, bOr, eAnd, eOr, eNot, eIf, eCh, truth, eMs, eMl, dAdd, dSub, dMul, dFdiv, dMod, dLe, dLt, dGe, dGt, dEq, dNe, dIs, dIsnt, D.isNon, dIn, dNotIn, dIdx, dSl, dLen, dInt, dOrd_one, dMax2, dMin2, dTuple, dList, dListC, dApp, dNeg, vw, seq, lstOf, fnD, List.map_cons, List.map_nil, List.length_cons, List.length_nil, List.cons_append, List.nil_append, List.append_nil, List.replicate_succ, List.replicate_zero, List.getElem?_cons_zero, List.getElem?_cons_succ, List.set_cons_zero, List.set_cons_succ, Int.cast_ofNat_Int, Nat.reduceBEq, Int.reduceBEq, Nat.reduceAdd, Nat.reduceSub, Nat.reduceLT, Nat.reduceLeDiff, Nat.zero_add, Nat.add_zero, Nat.sub_zero, Nat.sub_self, ↓reduceIte, if_true, if_false, Bool.not_true, Bool.not_false, Bool.false_eq_true, Bool.true_eq_false, decide_true, decide_false, decide_not, true_and, and_true, and_self, true_or, or_true, not_true_eq_false, not_false_eq_true, ne_eq, reduceCtorEq, Int.reduceLT, Int.reduceLE, Int.reduceNeg, Int.reduceSub, Int.reduceAdd, Int.reduceMul, Int.reducePow, Int.reduceToNat, sz, D.dat, D.datL, D.dep, D.depL, szl, inb, List.any_cons, List.any_nil, Bool.true_and, Bool.false_and, Bool.and_true, Bool.and_false, Bool.or_false, Bool.false_or, Bool.true_or, Bool.or_true, Nat.max_self, Nat.max_zero, Nat.zero_max, Nat.min_self, Nat.zero_le, Nat.min_zero, Nat.zero_min, forL, forX, iR1, iR2, rng1, rng2, iE, itOf, sFor, bYes, scrD, List.length_map, decide_eq_false hc]
  obtain ⟨c2, h2, e2'⟩ := neg c1
  have last : ∀ c : Int, ∃ c4, 0 ≤ c4 ∧ (sSeq (sAsg (e2 dMod (eCall dInt (aCons (e2 dAdd (e2 dMul (e2 dAdd (e2 dAdd (eVar 4) (e2 dMul (eC (.int 131)) (eVar 3))) (eC (.int 7))) (eC (.int 48271))) (e2 dMul (e2 dMul (eVar 3) (eVar 3)) (eC (.int 69621)))) (aNil))) (eC (.int 1000000007))) (gN 4))
  (sAsg (e2 dMod (eCall dInt (aCons (e2 dMul (e2 dAdd (e2 dAdd (eVar 4) (e2 dMul (eC (.int 17)) (eVar 3))) (eC (.int 3))) (eC (.int 2862933555777941757))) (aNil))) (eC (.int 18446744073709551557))) (gN 4))) (cE ns n k (some (.int c))) [.lst (acc.map .int)] = .ok .nx (cE ns n k (some (.int c4))) [.lst (acc.map .int)] := fun c => by
    have hk2 : -18446744073709551616 < k ∧ k < 18446744073709551616 := by omega
    refine ⟨_, ?_, by simp only [sSeq, sIf, sB, sE, sAsg, sRet, sRetN, sNil, sExpr, sBrk, sCnt, gN, gT, gsC, gsN, FK.e1, FK.e2, eC, eVar, eCall, aNil, aCons, M.bind, M.pure, eTup, eLst, eNew, eSl, oNone, oSome, bT, bNot, bAnd, bOr, eAnd, eOr, eNot, eIf, eCh, truth, eMs, eMl, dAdd, dSub, dMul, dFdiv, dMod, dLe, dLt, dGe, dGt, dEq, dNe, dIs, dIsnt, D.isNon, dIn, dNotIn, dIdx, dSl, dLen, dInt, dOrd_one, dMax2, dMin2, dTuple, dList, dListC, dApp, dNeg, vw, seq, lstOf, fnD, List.map_cons, List.map_nil, List.length_cons, List.length_nil, List.cons_append, List.nil_append, List.append_nil, List.replicate_succ, List.replicate_zero, List.getElem?_cons_zero, List.getElem?_cons_succ, List.set_cons_zero, List.set_cons_succ, Int.cast_ofNat_Int, Nat.reduceBEq, Int.reduceBEq, Nat.reduceAdd, Nat.reduceSub, Nat.reduceLT, Nat.reduceLeDiff, Nat.zero_add, Nat.add_zero, Nat.sub_zero, Nat.sub_self, ↓reduceIte, if_true, if_false, Bool.not_true, Bool.not_false, Bool.false_eq_true, Bool.true_eq_false, decide_true, decide_false, decide_not, true_and, and_true, and_self, true_or, or_true, not_true_eq_false, not_false_eq_true, ne_eq, reduceCtorEq, Int.reduceLT, Int.reduceLE, Int.reduceNeg, Int.reduceSub, Int.reduceAdd, Int.reduceMul, Int.reducePow, Int.reduceToNat, sz, D.dat, D.datL, D.dep, D.depL, szl, inb, List.any_cons, List.any_nil, Bool.true_and, Bool.false_and, Bool.and_true, Bool.and_false, Bool.or_false, Bool.false_or, Bool.true_or, Bool.or_true, Nat.max_self, Nat.max_zero, Nat.zero_max, Nat.min_self, Nat.zero_le, Nat.min_zero, Nat.zero_min, forL, forX, iR1, iR2, rng1, rng2, iE, itOf, sFor, bYes, hk2.1, hk2.2]; rfl⟩
    omega
  obtain ⟨c4, h4, e4⟩ : ∃ c4, 0 ≤ c4 ∧ (sIf (bOr (bT (e2 dGe (eVar 3) (eCall dLen (aCons (eVar 0) (aNil))))) (bT (e2 dLt (eVar 4) (eC (.int 1000000000))))) (sSeq (sIf (bT (e2 dGt (eCall dLen (aCons (eVar 0) (aNil))) (eC (.int 0)))) (sAsg (eCall dInt (aCons (e2 dIdx (eVar 0) (e2 dMod (eCall dInt (aCons (eVar 3) (aNil))) (eCall dLen (aCons (eVar 0) (aNil))))) (aNil))) (gN 4)) (sNil))
  (sSeq (sIf (bT (e2 dLt (eVar 4) (eC (.int 0)))) (sAsg (e2 dSub (eC (.int 1)) (e2 dMul (eC (.int 2)) (eVar 4))) (gN 4)) (sNil))
  (sSeq (sAsg (e2 dMod (eCall dInt (aCons (e2 dAdd (e2 dMul (e2 dAdd (e2 dAdd (eVar 4) (e2 dMul (eC (.int 131)) (eVar 3))) (eC (.int 7))) (eC (.int 48271))) (e2 dMul (e2 dMul (eVar 3) (eVar 3)) (eC (.int 69621)))) (aNil))) (eC (.int 1000000007))) (gN 4))
  (sAsg (e2 dMod (eCall dInt (aCons (e2 dMul (e2 dAdd (e2 dAdd (eVar 4) (e2 dMul (eC (.int 17)) (eVar 3))) (eC (.int 3))) (eC (.int 2862933555777941757))) (aNil))) (eC (.int 18446744073709551557))) (gN 4))))) (sNil)) (cE ns n k (some (.int c2))) [.lst (acc.map .int)] = .ok .nx (cE ns n k (some (.int c4))) [.lst (acc.map .int)] := by
    obtain ⟨b, hb⟩ : ∃ b, (bOr (bT (e2 dGe (eVar 3) (eCall dLen (aCons (eVar 0) (aNil))))) (bT (e2 dLt (eVar 4) (eC (.int 1000000000))))) (cE ns n k (some (.int c2))) [.lst (acc.map .int)] = .ok b [.lst (acc.map .int)] := by
      by_cases hc : (ns.length : Int) ≤ k
      · exact ⟨true, by simp only [sSeq, sIf, sB, sE, sAsg, sRet, sRetN, sNil, sExpr, sBrk, sCnt, gN, gT, gsC, gsN, FK.e1, FK.e2, eC, eVar, eCall, aNil, aCons, M.bind, M.pure, eTup, eLst, eNew, eSl, oNone, oSome, bT, bNot, bAnd, bOr, eAnd, eOr, eNot, eIf, eCh, truth, eMs, eMl, dAdd, dSub, dMul, dFdiv, dMod, dLe, dLt, dGe, dGt, dEq, dNe, dIs, dIsnt, D.isNon, dIn, dNotIn, dIdx, dSl, dLen, dInt, dOrd_one, dMax2, dMin2, dTuple, dList, dListC, dApp, dNeg, vw, seq, lstOf, fnD, List.map_cons, List.map_nil, List.length_cons, List.length_nil, List.cons_append, List.nil_append, List.append_nil, List.replicate_succ, List.replicate_zero, List.getElem?_cons_zero, List.getElem?_cons_succ, List.set_cons_zero, List.set_cons_succ, Int.cast_ofNat_Int, Nat.reduceBEq, Int.reduceBEq, Nat.reduceAdd, Nat.reduceSub, Nat.reduceLT, Nat.reduceLeDiff, Nat.zero_add, Nat.add_zero, Nat.sub_zero, Nat.sub_self, ↓reduceIte, if_true, if_false, Bool.not_true, Bool.not_false, Bool.false_eq_true, Bool.true_eq_false, decide_true, decide_false, decide_not, true_and, and_true, and_self, true_or, or_true, not_true_eq_false, not_false_eq_true, ne_eq, reduceCtorEq, Int.reduceLT, Int.reduceLE, Int.reduceNeg, Int.reduceSub, Int.reduceAdd, Int.reduceMul, Int.reducePow, Int.reduceToNat, sz, D.dat, D.datL, D.dep, D.depL, szl, inb, List.any_cons, List.any_nil, Bool.true_and, Bool.false_and, Bool.and_true, Bool.and_false, Bool.or_false, Bool.false_or, Bool.true_or, Bool.or_true, Nat.max_self, Nat.max_zero, Nat.zero_max, Nat.min_self, Nat.zero_le, Nat.min_zero, Nat.zero_min, forL, forX, iR1, iR2, rng1, rng2, iE, itOf, sFor, bYes, scrD, List.length_map, decide_eq_true hc]⟩
      · exact ⟨decide (c2 < 1000000000), by simp only [sSeq, sIf, sB, sE, sAsg, sRet, sRetN, sNil, sExpr, sBrk, sCnt, gN, gT, gsC, gsN, FK.e1, FK.e2, eC, eVar, eCall, aNil, aCons, M.bind, M.pure, eTup, eLst, eNew, eSl, oNone, oSome, bT, bNot, bAnd, bOr, eAnd, eOr, eNot, eIf, eCh, truth, eMs, eMl, dAdd, dSub, dMul, dFdiv, dMod, dLe, dLt, dGe, dGt, dEq, dNe, dIs, dIsnt, D.isNon, dIn, dNotIn, dIdx, dSl, dLen, dInt, dOrd_one, dMax2, dMin2, dTuple, dList, dListC, dApp, dNeg, vw, seq, lstOf, fnD, List.map_cons, List.map_nil, List.length_cons, List.length_nil, List.cons_append, List.nil_append, List.append_nil, List.replicate_succ, List.replicate_zero, List.getElem?_cons_zero, List.getElem?_cons_succ, List.set_cons_zero, List.set_cons_succ, Int.cast_ofNat_Int, Nat.reduceBEq, Int.reduceBEq, Nat.reduceAdd, Nat.reduceSub, Nat.reduceLT, Nat.reduceLeDiff, Nat.zero_add, Nat.add_zero, Nat.sub_zero, Nat.sub_self, ↓reduceIte, if_true, if_false, Bool.not_true, Bool.not_false, Bool.false_eq_true, Bool.true_eq_false, decide_true, decide_false, decide_not, true_and, and_true, and_self, true_or, or_true, not_true_eq_false, not_false_eq_true, ne_eq, reduceCtorEq, Int.reduceLT, Int.reduceLE, Int.reduceNeg, Int.reduceSub, Int.reduceAdd, Int.reduceMul, Int.reducePow, Int.reduceToNat, sz, D.dat, D.datL, D.dep, D.depL, szl, inb, List.any_cons, List.any_nil, Bool.true_and, Bool.false_and, Bool.and_true, Bool.and_false, Bool.or_false, Bool.false_or, Bool.true_or, Bool.or_true, Nat.max_self, Nat.max_zero, Nat.zero_max, Nat.min_self, Nat.zero_le, Nat.min_zero, Nat.zero_min, forL, forX, iR1, iR2, rng1, rng2, iE, itOf, sFor, bYes, scrD, List.length_map, decide_eq_false hc]⟩
    cases b with
    | false =>
      refine ⟨c2, h2, ?_⟩
      unfold sIf sB
      rw [hb]
      rfl
    | true =>
      unfold sIf sB
      rw [hb]
      show ∃ c4, 0 ≤ c4 ∧ sSeq _ _ _ _ = _
      obtain ⟨c3, e3⟩ : ∃ c3, (sIf (bT (e2 dGt (eCall dLen (aCons (eVar 0) (aNil))) (eC (.int 0)))) (sAsg (eCall dInt (aCons (e2 dIdx (eVar 0) (e2 dMod (eCall dInt (aCons (eVar 3) (aNil))) (eCall dLen (aCons (eVar 0) (aNil))))) (aNil))) (gN 4)) (sNil)) (cE ns n k (some (.int c2))) [.lst (acc.map .int)] = .ok .nx (cE ns n k (some (.int c3))) [.lst (acc.map .int)] := by
        by_cases hc : (0 : Int) < ns.length
        · obtain ⟨v, hv⟩ := atI_in (ns := ns) (k := k % ns.length) (Int.emod_nonneg _ (by omega)) (Int.emod_lt_of_pos _ hc)
          refine ⟨v, ?_⟩
          simp only [sSeq, sIf, sB, sE, sAsg, sRet, sRetN, sNil, sExpr, sBrk, sCnt, gN, gT, gsC, gsN, FK.e1, FK.e2, eC, eVar, eCall, aNil, aCons, M.bind, M.pure, eTup, eLst, eNew, eSl, oNone, oSome, bT, bNot, bAnd, bOr, eAnd, eOr, eNot, eIf, eCh, truth, eMs, eMl, dAdd, dSub, dMul, dFdiv, dMod, dLe, dLt, dGe, dGt, dEq, dNe, dIs, dIsnt, D.isNon, dIn, dNotIn, dIdx, dSl, dLen, dInt, dOrd_one, dMax2, dMin2, dTuple, dList, dListC, dApp, dNeg, vw, seq, lstOf, fnD, List.map_cons, List.map_nil, List.length_cons, List.length_nil, List.cons_append, List.nil_append, List.append_nil, List.replicate_succ, List.replicate_zero, List.getElem?_cons_zero, List.getElem?_cons_succ, List.set_cons_zero, List.set_cons_succ, Int.cast_ofNat_Int, Nat.reduceBEq, Int.reduceBEq, Nat.reduceAdd, Nat.reduceSub, Nat.reduceLT, Nat.reduceLeDiff, Nat.zero_add, Nat.add_zero, Nat.sub_zero, Nat.sub_self, ↓reduceIte, if_true, if_false, Bool.not_true, Bool.not_false, Bool.false_eq_true, Bool.true_eq_false, decide_true, decide_false, decide_not, true_and, and_true, and_self, true_or, or_true, not_true_eq_false, not_false_eq_true, ne_eq, reduceCtorEq, Int.reduceLT, Int.reduceLE, Int.reduceNeg, Int.reduceSub, Int.reduceAdd, Int.reduceMul, Int.reducePow, Int.reduceToNat, sz, D.dat, D.datL, D.dep, D.depL, szl, inb, List.any_cons, List.any_nil, Bool.true_and, Bool.false_and, Bool.and_true, Bool.and_false, Bool.or_false, Bool.false_or, Bool.true_or, Bool.or_true, Nat.max_self, Nat.max_zero, Nat.zero_max, Nat.min_self, Nat.zero_le, Nat.min_zero, Nat.zero_min, forL, forX, iR1, iR2, rng1, rng2, iE, itOf, sFor, bYes, scrD, List.length_map, decide_eq_true hc, if_pos hc, hv]
        · refine ⟨c2, ?_⟩
          simp only [sSeq, sIf, sB, sE, sAsg, sRet, sRetN, sNil, sExpr, sBrk, sCnt, gN, gT, gsC, gsN, FK.e1, FK.e2, eC, eVar, eCall, aNil, aCons, M.bind, M.pure, eTup, eLst, eNew, eSl, oNone, oSome, bT, bNot, bAnd, bOr, eAnd, eOr, eNot, eIf, eCh, truth, eMs, eMl, dAdd, dSub, dMul, dFdiv, dMod, dLe, dLt, dGe, dGt, dEq, dNe, dIs, dIsnt, D.isNon, dIn, dNotIn, dIdx, dSl, dLen, dInt, dOrd_one, dMax2, dMin2, dTuple, dList, dListC, dApp, dNeg, vw, seq, lstOf, fnD, List.map_cons, List.map_nil, List.length_cons, List.length_nil, List.cons_append, List.nil_append, List.append_nil, List.replicate_succ, List.replicate_zero, List.getElem?_cons_zero, List.getElem?_cons_succ, List.set_cons_zero, List.set_cons_succ, Int.cast_ofNat_Int, Nat.reduceBEq, Int.reduceBEq, Nat.reduceAdd, Nat.reduceSub, Nat.reduceLT, Nat.reduceLeDiff, Nat.zero_add, Nat.add_zero, Nat.sub_zero, Nat.sub_self, ↓reduceIte, if_true, if_false, Bool.not_true, Bool.not_false, Bool.false_eq_true, Bool.true_eq_false, decide_true, decide_false, decide_not, true_and, and_true, and_self, true_or, or_true, not_true_eq_false, not_false_eq_true, ne_eq, reduceCtorEq, Int.reduceLT, Int.reduceLE, Int.reduceNeg, Int.reduceSub, Int.reduceAdd, Int.reduceMul, Int.reducePow, Int.reduceToNat, sz, D.dat, D.datL, D.dep, D.depL, szl, inb, List.any_cons, List.any_nil, Bool.true_and, Bool.false_and, Bool.and_true, Bool.and_false, Bool.or_false, Bool.false_or, Bool.true_or, Bool.or_true, Nat.max_self, Nat.max_zero, Nat.zero_max, Nat.min_self, Nat.zero_le, Nat.min_zero, Nat.zero_min, forL, forX, iR1, iR2, rng1, rng2, iE, itOf, sFor, bYes, scrD, List.length_map, decide_eq_false hc]
      obtain ⟨c5, h5, e5⟩ := neg c3
      obtain ⟨c6, h6, e6⟩ := last c5
      exact ⟨c6, h6, seq_eq e3 (seq_eq e5 e6)⟩
  refine ⟨c4, h4, seq_eq (ρ1 := cE ns n k (some (.int 0))) (h1 := [.lst (acc.map .int)]) (by simp only [sSeq, sIf, sB, sE, sAsg, sRet, sRetN, sNil, sExpr, sBrk, sCnt, gN, gT, gsC, gsN, FK.e1, FK.e2, eC, eVar, eCall, aNil, aCons, M.bind, M.pure, eTup, eLst, eNew, eSl, oNone, oSome, bT, bNot, bAnd, bOr, eAnd, eOr, eNot, eIf, eCh, truth, eMs, eMl, dAdd, dSub, dMul, dFdiv, dMod, dLe, dLt, dGe, dGt, dEq, dNe, dIs, dIsnt, D.isNon, dIn, dNotIn, dIdx, dSl, dLen, dInt, dOrd_one, dMax2, dMin2, dTuple, dList, dListC, dApp, dNeg, vw, seq, lstOf, fnD, List.map_cons, List.map_nil, List.length_cons, List.length_nil, List.cons_append, List.nil_append, List.append_nil, List.replicate_succ, List.replicate_zero, List.getElem?_cons_zero, List.getElem?_cons_succ, List.set_cons_zero, List.set_cons_succ, Int.cast_ofNat_Int, Nat.reduceBEq, Int.reduceBEq, Nat.reduceAdd, Nat.reduceSub, Nat.reduceLT, Nat.reduceLeDiff, Nat.zero_add, Nat.add_zero, Nat.sub_zero, Nat.sub_self, ↓reduceIte, if_true, if_false, Bool.not_true, Bool.not_false, Bool.false_eq_true, Bool.true_eq_false, decide_true, decide_false, decide_not, true_and, and_true, and_self, true_or, or_true, not_true_eq_false, not_false_eq_true, ne_eq, reduceCtorEq, Int.reduceLT, Int.reduceLE, Int.reduceNeg, Int.reduceSub, Int.reduceAdd, Int.reduceMul, Int.reducePow, Int.reduceToNat, sz, D.dat, D.datL, D.dep, D.depL, szl, inb, List.any_cons, List.any_nil, Bool.true_and, Bool.false_and, Bool.and_true, Bool.and_false, Bool.or_false, Bool.false_or, Bool.true_or, Bool.or_true, Nat.max_self, Nat.max_zero, Nat.zero_max, Nat.min_self, Nat.zero_le, Nat.min_zero, Nat.zero_min, forL, forX, iR1, iR2, rng1, rng2, iE, itOf, sFor, bYes]) (seq_eq e1 (seq_eq e2' (seq_eq e4 ?_)))⟩
  have hz : acc.length < 16777216 := by omega
  simp only [sSeq, sIf, sB, sE, sAsg, sRet, sRetN, sNil, sExpr, sBrk, sCnt, gN, gT, gsC, gsN, FK.e1, FK.e2, eC, eVar, eCall, aNil, aCons, M.bind, M.pure, eTup, eLst, eNew, eSl, oNone, oSome, bT, bNot, bAnd, bOr, eAnd, eOr, eNot, eIf, eCh, truth, eMs, eMl, dAdd, dSub, dMul, dFdiv, dMod, dLe, dLt, dGe, dGt, dEq, dNe, dIs, dIsnt, D.isNon, dIn, dNotIn, dIdx, dSl, dLen, dInt, dOrd_one, dMax2, dMin2, dTuple, dList, dListC, dApp, dNeg, vw, seq, lstOf, fnD, List.map_cons, List.map_nil, List.length_cons, List.length_nil, List.cons_append, List.nil_append, List.append_nil, List.replicate_succ, List.replicate_zero, List.getElem?_cons_zero, List.getElem?_cons_succ, List.set_cons_zero, List.set_cons_succ, Int.cast_ofNat_Int, Nat.reduceBEq, Int.reduceBEq, Nat.reduceAdd, Nat.reduceSub, Nat.reduceLT, Nat.reduceLeDiff, Nat.zero_add, Nat.add_zero, Nat.sub_zero, Nat.sub_self, ↓reduceIte, if_true, if_false, Bool.not_true, Bool.not_false, Bool.false_eq_true, Bool.true_eq_false, decide_true, decide_false, decide_not, true_and, and_true, and_self, true_or, or_true, not_true_eq_false, not_false_eq_true, ne_eq, reduceCtorEq, Int.reduceLT, Int.reduceLE, Int.reduceNeg, Int.reduceSub, Int.reduceAdd, Int.reduceMul, Int.reducePow, Int.reduceToNat, sz, D.dat, D.datL, D.dep, D.depL, szl, inb, List.any_cons, List.any_nil, Bool.true_and, Bool.false_and, Bool.and_true, Bool.and_false, Bool.or_false, Bool.false_or, Bool.true_or, Bool.or_true, Nat.max_self, Nat.max_zero, Nat.zero_max, Nat.min_self, Nat.zero_le, Nat.min_zero, Nat.zero_min, forL, forX, iR1, iR2, rng1, rng2, iE, itOf, sFor, bYes, List.length_map, if_pos hz, List.map_append]
theorem getElem?_rangeD {lo hi : Int} {i : Nat} {d : D} (e : (rangeD lo hi)[i]? = some d) : d = .int (lo + i) ∧ (i : Int) < hi - lo := by
  unfold rangeD at e
  rw [List.getElem?_map] at e
  cases q : (List.range (hi - lo).toNat)[i]? with
  | none => rw [q] at e; cases e
  | some k =>
    rw [q] at e
    obtain ⟨h1, h2⟩ := List.getElem?_eq_some_iff.mp q
    simp at h1 h2
    subst h2
    cases e
    exact ⟨rfl, by omega⟩
theorem length_rangeD (lo hi : Int) : (rangeD lo hi).length = (hi - lo).toNat := by unfold rangeD; simp
/-- a for, by what holds between two turns -/
theorem forL_post {g : GD} {body : SD} (I : Nat → Env → CH → Prop) (P : RS → Prop) : ∀ (ds : List D) (k : Nat), (∀ i d ρ h, ds[i]? = some d → I (k + i) ρ h → ∃ ρ1, g d ρ = some ρ1 ∧
      (match body ρ1 h with | .ok .nx ρ2 h2 => I (k + i + 1) ρ2 h2 | .ok .ct ρ2 h2 => I (k + i + 1) ρ2 h2 | .ok .bk ρ2 h2 => P (.ok .nx ρ2 h2) | r => P r)) →
    (∀ ρ h, I (k + ds.length) ρ h → P (.ok .nx ρ h)) → ∀ ρ h, I k ρ h → P (forL g body ds ρ h)
  | [], k, _, done, ρ, h, hi => done ρ h (by simpa using hi)
  | d :: ds, k, step, done, ρ, h, hi => by
    obtain ⟨ρ1, e1, q⟩ := step 0 d ρ h rfl (by simpa using hi)
    have ih := forL_post (g := g) (body := body) I P ds (k + 1) (fun i d' ρ h e q => by
      have := step (i + 1) d' ρ h (by simpa using e) (by rw [show k + (i + 1) = k + 1 + i by omega]; exact q)
      rw [show k + (i + 1) + 1 = k + 1 + i + 1 by omega] at this
      exact this) (fun ρ h q => done ρ h (by rw [List.length_cons, show k + (ds.length + 1) = k + 1 + ds.length by omega]; exact q))
    unfold forL
    rw [e1]
    dsimp only
    cases eb : body ρ1 h with
    | ok f ρ2 h2 =>
      rw [eb] at q
      cases f with
      | nx => exact ih ρ2 h2 q
      | ct => exact ih ρ2 h2 q
      | bk => exact q
      | rt d => exact q
    | exc c ρ2 h2 => rw [eb] at q; exact q
    | bad => rw [eb] at q; exact q
/-- .. every turn goes on -/
theorem forL_nx {g : GD} {body : SD} (I : Nat → Env → CH → Prop) (ds : List D) (step : ∀ i d ρ h, ds[i]? = some d → I i ρ h → ∃ ρ1, g d ρ = some ρ1 ∧ ∃ ρ2 h2, body ρ1 h = .ok .nx ρ2 h2 ∧ I (i + 1) ρ2 h2) {ρ : Env} {h : CH} (h0 : I 0 ρ h) :
    ∃ ρ' h', forL g body ds ρ h = .ok .nx ρ' h' ∧ I ds.length ρ' h' := by
  refine forL_post (g := g) (body := body) I (fun r => ∃ ρ' h', r = .ok .nx ρ' h' ∧ I ds.length ρ' h') ds 0 (fun i d ρ h e q => ?_) (fun ρ h q => ⟨ρ, h, rfl, by simpa using q⟩) ρ h h0
  rw [Nat.zero_add] at q ⊢
  obtain ⟨ρ1, e1, ρ2, h2, e2, q2⟩ := step i d ρ h e q
  refine ⟨ρ1, e1, ?_⟩
  rw [e2]
  exact q2
theorem mapO_id {f : D → Option D} : ∀ {xs : List D}, (∀ x ∈ xs, f x = some x) → mapO f xs = some xs
  | [], _ => rfl
  | x :: xs, h => by
    unfold mapO
    rw [h x List.mem_cons_self, mapO_id fun y hy => h y (List.mem_cons_of_mem _ hy)]
theorem nrL_iff : ∀ {xs : List D}, D.nrL xs = true ↔ ∀ x ∈ xs, x.nr = true
  | [] => by simp [D.nrL]
  | x :: xs => by simp [D.nrL, nrL_iff (xs := xs)]
theorem fzF_nr {n : Nat} {h : CH} {d : D} (e : d.nr = true) : fzF (n + 1) h d = some d := by unfold fzF; rw [if_pos e]
theorem fz_nr {h : CH} {d : D} (e : d.nr = true) : fz h d = some d := fzF_nr e
theorem fz_ref {h : CH} {k : Nat} {xs : List D} (e : h[k]? = some (.lst xs)) (n : D.nrL xs = true) : fz h (.ref k) = some (.lst xs) := by
  unfold fz fzF
  rw [if_neg (by simp [D.nr])]
  dsimp only
  rw [e]
  dsimp only
  rw [mapO_id fun x hx => fzF_nr (nrL_iff.mp n x hx)]
  rfl
/-- a call whose callee has cells of its own -/
theorem callP_ok {n : Nat} {F : FD} {ds : List D} {h h' : CH} {d d' : D} (hn : D.nrL ds = true) (e : F ds [] = .ok d h') (ef : fz h' d = some d') (hl : ds.length = n := by rfl) : callP n F ds h = .ok d' h := by
  unfold callP
  rw [if_pos hl, if_pos hn, e]
  dsimp only
  rw [ef]
theorem nrL_ints : ∀ ns : List Int, D.nrL (ns.map D.int) = true
  | [] => rfl
  | n :: ns => nrL_ints ns
theorem nr_scr (ns : List Int) : (scrD ns).nr = true := nrL_ints ns
theorem eNew_nil (ρ : Env) (h : CH) : eNew aNil ρ h = .ok (.ref h.length) (h ++ [.lst []]) := if_pos (e := R.bad) (Nat.zero_le sizeLine)
theorem fnD_rt {N : Nat} {body : SD} {ds : List D} {h h' : CH} {ρ ρ' : Env} {d : D} (e : body ρ h = .ok (.rt d) ρ' h') (he : ds.map some ++ List.replicate (N - ds.length) none = ρ := by rfl) : fnD N body ds h = .ok d h' := by
  subst he
  unfold fnD
  rw [e]
theorem fnD_nx {N : Nat} {body : SD} {ds : List D} {h h' : CH} {ρ ρ' : Env} (e : body ρ h = .ok .nx ρ' h') (he : ds.map some ++ List.replicate (N - ds.length) none = ρ := by rfl) : fnD N body ds h = .ok .non h' := by
  subst he
  unfold fnD
  rw [e]
/-- the cells that are drawn from the script -/
noncomputable def cellsB : SD := sSeq (sAsg (eNew (aNil)) (gN 2)) (sSeq (sFor (iR1 (aCons (eVar 1) (aNil))) (gN 3) cellsBody) (sRet (eVar 2)))
theorem cells_ok (ns : List Int) (n : Nat) (hl : ns.length ≤ 63) (hn : n < 1000) (h : CH) : ∃ cs : List Int, cs.length = n ∧ (∀ c ∈ cs, 0 ≤ c) ∧ callP 2 (fnD 5 cellsB) [scrD ns, .int n] h = .ok (.lst (cs.map .int)) h := by
  have hs : sizeLine = 16777216 := sizeLine_eq
  obtain ⟨ρ', h', e, x, y, cs, hc, hp, rfl, rfl⟩ := forL_nx (g := gN 3) (body := cellsBody) (fun i ρ h => ∃ x y, ∃ cs : List Int, cs.length = i ∧ (∀ c ∈ cs, 0 ≤ c) ∧ ρ = [some (scrD ns), some (.int n), some (.ref 0), x, y] ∧ h = [.lst (cs.map .int)]) (rangeD 0 n)
    (fun i d ρ h e ⟨x, y, cs, hc, hp, e1, e2⟩ => by
      obtain ⟨rfl, hi⟩ := getElem?_rangeD e
      subst e1 e2
      refine ⟨_, rfl, ?_⟩
      obtain ⟨c, h0, q⟩ := cells_turn ns cs n (0 + i) y hl (by omega) (by omega) (by omega)
      refine ⟨_, _, q, _, _, cs ++ [c], by simp [hc], fun c' hm => ?_, rfl, rfl⟩
      rcases List.mem_append.mp hm with z | z
      · exact hp c' z
      · rw [List.mem_singleton.mp z]; exact h0) (ρ := [some (scrD ns), some (.int n), some (.ref 0), none, none]) (h := [.lst []]) ⟨none, none, [], rfl, by simp, rfl, rfl⟩
  refine ⟨cs, by rw [hc, length_rangeD]; omega, hp, callP_ok (h' := [.lst (cs.map .int)]) (d := .ref 0) ?_ ?_ (fz_ref rfl (nrL_ints cs))⟩
  · show (D.nr (scrD ns) && true) = true
    rw [nr_scr]; rfl
  · have hr : inR (n : Int) := ⟨by omega, by omega⟩
    refine fnD_rt (ρ' := [some (scrD ns), some (.int n), some (.ref 0), x, y]) ?_
    unfold cellsB
    exact seq_eq (ρ1 := [some (scrD ns), some (.int n), some (.ref 0), none, none]) (h1 := [.lst []]) (by simp only [sSeq, sIf, sB, sE, sAsg, sRet, sRetN, sNil, sExpr, sBrk, sCnt, gN, gT, gsC, gsN, FK.e1, FK.e2, eC, eVar, eCall, aNil, aCons, M.bind, M.pure, eTup, eLst, eSl, oNone, oSome, bT, bNot, bAnd, bOr, eAnd, eOr, eNot, eIf, eCh, truth, eMs, eMl, dAdd, dSub, dMul, dFdiv, dMod, dLe, dLt, dGe, dGt, dEq, dNe, dIs, dIsnt, D.isNon, dIn, dNotIn, dIdx, dSl, dLen, dInt, dOrd_one, dMax2, dMin2, dTuple, dList, dListC, dApp, dNeg, vw, seq, lstOf, fnD, List.map_cons, List.map_nil, List.length_cons, List.length_nil, List.cons_append, List.nil_append, List.append_nil, List.replicate_succ, List.replicate_zero, List.getElem?_cons_zero, List.getElem?_cons_succ, List.set_cons_zero, List.set_cons_succ, Int.cast_ofNat_Int, Nat.reduceBEq, Int.reduceBEq, Nat.reduceAdd, Nat.reduceSub, Nat.reduceLT, Nat.reduceLeDiff, Nat.zero_add, Nat.add_zero, Nat.sub_zero, Nat.sub_self, ↓reduceIte, if_true, if_false, Bool.not_true, Bool.not_false, Bool.false_eq_true, Bool.true_eq_false, decide_true, decide_false, decide_not, true_and, and_true, and_self, true_or, or_true, not_true_eq_false, not_false_eq_true, ne_eq, reduceCtorEq, Int.reduceLT, Int.reduceLE, Int.reduceNeg, Int.reduceSub, Int.reduceAdd, Int.reduceMul, Int.reducePow, Int.reduceToNat, sz, D.dat, D.datL, D.dep, D.depL, szl, inb, List.any_cons, List.any_nil, Bool.true_and, Bool.false_and, Bool.and_true, Bool.and_false, Bool.or_false, Bool.false_or, Bool.true_or, Bool.or_true, Nat.max_self, Nat.max_zero, Nat.zero_max, Nat.min_self, Nat.zero_le, Nat.min_zero, Nat.zero_min, forL, forX, iR1, iR2, rng1, rng2, iE, itOf, sFor, bYes, eNew_nil]) (seq_eq (ρ1 := [some (scrD ns), some (.int n), some (.ref 0), x, y]) (h1 := [.lst (cs.map .int)]) (by simp only [sSeq, sIf, sB, sE, sAsg, sRet, sRetN, sNil, sExpr, sBrk, sCnt, gN, gT, gsC, gsN, FK.e1, FK.e2, eC, eVar, eCall, aNil, aCons, M.bind, M.pure, eTup, eLst, eNew, eSl, oNone, oSome, bT, bNot, bAnd, bOr, eAnd, eOr, eNot, eIf, eCh, truth, eMs, eMl, dAdd, dSub, dMul, dFdiv, dMod, dLe, dLt, dGe, dGt, dEq, dNe, dIs, dIsnt, D.isNon, dIn, dNotIn, dIdx, dSl, dLen, dInt, dOrd_one, dMax2, dMin2, dTuple, dList, dListC, dApp, dNeg, vw, seq, lstOf, fnD, List.map_cons, List.map_nil, List.length_cons, List.length_nil, List.cons_append, List.nil_append, List.append_nil, List.replicate_succ, List.replicate_zero, List.getElem?_cons_zero, List.getElem?_cons_succ, List.set_cons_zero, List.set_cons_succ, Int.cast_ofNat_Int, Nat.reduceBEq, Int.reduceBEq, Nat.reduceAdd, Nat.reduceSub, Nat.reduceLT, Nat.reduceLeDiff, Nat.zero_add, Nat.add_zero, Nat.sub_zero, Nat.sub_self, ↓reduceIte, if_true, if_false, Bool.not_true, Bool.not_false, Bool.false_eq_true, Bool.true_eq_false, decide_true, decide_false, decide_not, true_and, and_true, and_self, true_or, or_true, not_true_eq_false, not_false_eq_true, ne_eq, reduceCtorEq, Int.reduceLT, Int.reduceLE, Int.reduceNeg, Int.reduceSub, Int.reduceAdd, Int.reduceMul, Int.reducePow, Int.reduceToNat, sz, D.dat, D.datL, D.dep, D.depL, szl, inb, List.any_cons, List.any_nil, Bool.true_and, Bool.false_and, Bool.and_true, Bool.and_false, Bool.or_false, Bool.false_or, Bool.true_or, Bool.or_true, Nat.max_self, Nat.max_zero, Nat.zero_max, Nat.min_self, Nat.zero_le, Nat.min_zero, Nat.zero_min, forL, forX, iR1, iR2, rng1, rng2, iE, itOf, sFor, bYes, if_pos hr, e]) rfl)
/-- an end that is a next or a return -/
def Good (r : RS) (N : Env → CH → Prop) (T : D → CH → Prop) : Prop :=
  match r with
  | .ok .nx ρ h => N ρ h
  | .ok (.rt d) _ h => T d h
  | _ => False
theorem Good.seq {a b : SD} {ρ : Env} {h : CH} {N : Env → CH → Prop} {T : D → CH → Prop} (p : Good (a ρ h) (fun ρ1 h1 => Good (b ρ1 h1) N T) T) : Good (sSeq a b ρ h) N T := by
  unfold sSeq
  cases e : a ρ h with
  | ok f ρ1 h1 =>
    rw [e] at p
    cases f with
    | nx => exact p
    | rt d => exact p
    | _ => exact p.elim
  | _ => rw [e] at p; exact p.elim
theorem Good.ite {c : BD} {s t : SD} {ρ : Env} {h h1 : CH} {N : Env → CH → Prop} {T : D → CH → Prop} (b : Bool) (e : c ρ h = .ok b h1) (p : b = true → Good (s ρ h1) N T) (q : b = false → Good (t ρ h1) N T) : Good (sIf c s t ρ h) N T := by
  unfold sIf sB
  rw [e]
  cases b with
  | true => exact p rfl
  | false => exact q rfl
theorem Good.ifT {c : BD} {s t : SD} {ρ : Env} {h : CH} {N : Env → CH → Prop} {T : D → CH → Prop} (h1 : CH) (e : c ρ h = .ok true h1) (p : Good (s ρ h1) N T) : Good (sIf c s t ρ h) N T := Good.ite true e (fun _ => p) (fun q => nomatch q)
theorem Good.ifF {c : BD} {s t : SD} {ρ : Env} {h : CH} {N : Env → CH → Prop} {T : D → CH → Prop} (h1 : CH) (e : c ρ h = .ok false h1) (p : Good (t ρ h1) N T) : Good (sIf c s t ρ h) N T := Good.ite false e (fun q => nomatch q) (fun _ => p)
theorem Good.nx {r : RS} {N : Env → CH → Prop} {T : D → CH → Prop} {ρ : Env} {h : CH} (e : r = .ok .nx ρ h) (n : N ρ h) : Good r N T := by rw [e]; exact n
theorem Good.rt {r : RS} {N : Env → CH → Prop} {T : D → CH → Prop} {d : D} {ρ : Env} {h : CH} (e : r = .ok (.rt d) ρ h) (n : T d h) : Good r N T := by rw [e]; exact n
theorem Good.cut {r : RS} {N' N : Env → CH → Prop} {T : D → CH → Prop} (p : Good r N' T) (q : ∀ ρ h, N' ρ h → N ρ h) : Good r N T := by
  cases r with
  | ok f ρ h =>
    cases f with
    | nx => exact q _ _ p
    | _ => exact p
  | _ => exact p
theorem Good.fn {body : SD} {T : D → CH → Prop} {N : Nat} {ds : List D} {h : CH} {ρ : Env} (p : Good (body ρ h) (fun _ h' => T .non h') T) (he : ds.map some ++ List.replicate (N - ds.length) none = ρ := by rfl) : ∃ d h', fnD N body ds h = .ok d h' ∧ T d h' := by
  subst he
  unfold fnD
  cases e : body (ds.map some ++ List.replicate (N - ds.length) none) h with
  | ok f ρ1 h1 =>
    rw [e] at p
    cases f with
    | nx => exact ⟨_, _, rfl, p⟩
    | rt d => exact ⟨_, _, rfl, p⟩
    | _ => exact p.elim
  | _ => rw [e] at p; exact p.elim
theorem Good.forL {g : GD} {body : SD} {N : Env → CH → Prop} {T : D → CH → Prop} (I : Nat → Env → CH → Prop) (ds : List D) {ρ : Env} {h : CH} (h0 : I 0 ρ h)
    (step : ∀ i d ρ h, ds[i]? = some d → I i ρ h → ∃ ρ1, g d ρ = some ρ1 ∧ Good (body ρ1 h) (I (i + 1)) T) (done : ∀ ρ h, I ds.length ρ h → N ρ h) : Good (forL g body ds ρ h) N T := by
  refine forL_post (g := g) (body := body) I (fun r => Good r N T) ds 0 (fun i d ρ h e q => ?_) (fun ρ h q => done ρ h (by simpa using q)) ρ h h0
  rw [Nat.zero_add] at q
  rw [Nat.zero_add]
  obtain ⟨ρ1, e1, q2⟩ := step i d ρ h e q
  refine ⟨ρ1, e1, ?_⟩
  cases eb : body ρ1 h with
  | ok f ρ2 h2 =>
    rw [eb] at q2
    cases f with
    | nx => exact q2
    | rt d => exact q2
    | _ => exact q2.elim
  | _ => rw [eb] at q2; exact q2.elim
theorem Good.sFor {it : ITD} {g : GD} {body : SD} {ds : List D} {ρ : Env} {h h1 : CH} {N : Env → CH → Prop} {T : D → CH → Prop} (e : it ρ h = .ok (ds, none) h1) (p : Good (FK.forL g body ds ρ h1) N T) : Good (FK.sFor it g body ρ h) N T := by
  unfold FK.sFor
  rw [e]
  exact p
theorem chars_get {x : Str} {i : Nat} {d : D} (e : (chars x)[i]? = some d) : ∃ c, x.cps.toList[i]? = some c ∧ d = .str ⟨#[c]⟩ := by
  unfold chars at e
  rw [List.getElem?_map] at e
  cases q : x.cps.toList[i]? with
  | none => rw [q] at e; cases e
  | some c => rw [q] at e; cases e; exact ⟨c, rfl, rfl⟩
theorem atI_mem {α : Type} {xs : List α} {k : Int} (h0 : 0 ≤ k) (h1 : k < xs.length) : ∃ v, atI xs k = some v ∧ v ∈ xs := by
  obtain ⟨j, rfl⟩ : ∃ j : Nat, k = (j : Int) := ⟨k.toNat, by omega⟩
  have hj : j < xs.length := by omega
  exact ⟨xs[j], L2.atI_nat (List.getElem?_eq_getElem hj), List.getElem_mem hj⟩
end FK

/-! part: FKR -/
set_option linter.all false
set_option maxRecDepth 100000
set_option maxHeartbeats 4000000
namespace FK
open PySem PySem.Spec L2
/-! FKR: rows drawn from the script; comprehensions; texts by their lists. -/
noncomputable def rowsBody : SD := (sSeq (sAsg (eC (.int 0)) (gN 5))
  (sSeq (sIf (bT (e2 dLt (eVar 4) (eCall dLen (aCons (eVar 0) (aNil))))) (sAsg (eCall dInt (aCons (e2 dIdx (eVar 0) (eVar 4)) (aNil))) (gN 5)) (sNil))
  (sSeq (sIf (bT (e2 dLt (eVar 5) (eC (.int 0)))) (sAsg (e2 dSub (eC (.int 1)) (e2 dMul (eC (.int 2)) (eVar 5))) (gN 5)) (sNil))
  (sSeq (sAsg (e2 dMod (eCall dInt (aCons (e2 dAdd (e2 dAdd (e2 dAdd (e2 dMul (eVar 3) (eC (.int 48271))) (e2 dMul (eVar 5) (eC (.int 69621)))) (e2 dMul (eC (.int 2)) (eVar 4))) (eC (.int 1))) (aNil))) (eC (.int 1000000007))) (gN 3))
  (sIf (bT (e2 dGe (eVar 5) (eC (.int 1000000000)))) (sExpr (eMl dApp (eVar 2) (aCons (eVar 5) (aNil)))) (sExpr (eMl dApp (eVar 2) (aCons (e2 dMod (eCall dInt (aCons (e2 dAdd (e2 dMul (eVar 3) (eC (.int 2862933555777941757))) (eC (.int 3037000493))) (aNil))) (eC (.int 18446744073709551557))) (aNil)))))))))
noncomputable def rowsB : SD := sSeq (sAsg (eNew (aNil)) (gN 2))
  (sSeq (sAsg (eC (.int 1)) (gN 3))
  (sSeq (sFor (iR1 (aCons (eVar 1) (aNil))) (gN 4) rowsBody)
  (sRet (eVar 2))))
theorem rows_ok (ns : List Int) (n : Nat) (hl : ns.length ≤ 63) (hn : n < 1000) (h : CH) : ∃ cs : List Int, cs.length = n ∧ (∀ c ∈ cs, 0 ≤ c) ∧ callP 2 (fnD 6 rowsB) [scrD ns, .int n] h = .ok (.lst (cs.map .int)) h := by
  have hr : inR (n : Int) := ⟨by omega, by omega⟩
  obtain ⟨d, h', e, cs, rfl, rfl, hc, hp⟩ := Good.fn (N := 6) (body := rowsB) (ds := [scrD ns, .int n]) (h := []) (ρ := [some (scrD ns), some (.int n), none, none, none, none]) (T := fun d h' => ∃ cs : List Int, d = .ref 0 ∧ h' = [.lst (cs.map .int)] ∧ cs.length = n ∧ (∀ c ∈ cs, 0 ≤ c)) (by
    unfold rowsB
    refine Good.seq (Good.nx (ρ := [some (scrD ns), some (.int n), some (.ref 0), none, none, none]) (h := [.lst []]) ?_ ?_)
    · simp only [sSeq, sIf, sB, sE, sAsg, sRet, sRetN, sNil, sExpr, sBrk, sCnt, gN, gT, gsC, gsN, FK.e1, FK.e2, eC, eVar, eCall, aNil, aCons, M.bind, M.pure, eTup, eLst, eSl, oNone, oSome, bT, bNot, bAnd, bOr, eAnd, eOr, eNot, eIf, eCh, truth, eMs, eMl, dAdd, dSub, dMul, dFdiv, dMod, dLe, dLt, dGe, dGt, dEq, dNe, dIs, dIsnt, D.isNon, dIn, dNotIn, dIdx, dSl, dLen, dInt, dOrd_one, dMax2, dMin2, dTuple, dList, dListC, dApp, dNeg, vw, seq, lstOf, fnD, List.map_cons, List.map_nil, List.length_cons, List.length_nil, List.cons_append, List.nil_append, List.append_nil, List.replicate_succ, List.replicate_zero, List.getElem?_cons_zero, List.getElem?_cons_succ, List.set_cons_zero, List.set_cons_succ, Int.cast_ofNat_Int, Nat.reduceBEq, Int.reduceBEq, Nat.reduceAdd, Nat.reduceSub, Nat.reduceLT, Nat.reduceLeDiff, Nat.zero_add, Nat.add_zero, Nat.sub_zero, Nat.sub_self, ↓reduceIte, if_true, if_false, Bool.not_true, Bool.not_false, Bool.false_eq_true, Bool.true_eq_false, decide_true, decide_false, decide_not, true_and, and_true, and_self, true_or, or_true, not_true_eq_false, not_false_eq_true, ne_eq, reduceCtorEq, Int.reduceLT, Int.reduceLE, Int.reduceNeg, Int.reduceSub, Int.reduceAdd, Int.reduceMul, Int.reducePow, Int.reduceToNat, sz, D.dat, D.datL, D.dep, D.depL, szl, inb, List.any_cons, List.any_nil, Bool.true_and, Bool.false_and, Bool.and_true, Bool.and_false, Bool.or_false, Bool.false_or, Bool.true_or, Bool.or_true, Nat.max_self, Nat.max_zero, Nat.zero_max, Nat.min_self, Nat.zero_le, Nat.min_zero, Nat.zero_min, forL, forX, iR1, iR2, rng1, rng2, iE, itOf, sFor, bYes, eNew_nil]
    refine Good.seq (Good.nx rfl ?_)
    refine Good.seq (Good.sFor (ds := rangeD 0 n) (h1 := [.lst []]) ?_ (Good.forL (fun i ρ h => ∃ (m : Int) (k c : Option D) (cs : List Int), ρ = [some (scrD ns), some (.int n), some (.ref 0), some (.int m), k, c] ∧ h = [.lst (cs.map .int)] ∧ cs.length = i ∧ (∀ c ∈ cs, 0 ≤ c)) (rangeD 0 n) ⟨1, none, none, [], rfl, rfl, rfl, by simp⟩ ?_ ?_))
    · simp only [sSeq, sIf, sB, sE, sAsg, sRet, sRetN, sNil, sExpr, sBrk, sCnt, gN, gT, gsC, gsN, FK.e1, FK.e2, eC, eVar, eCall, aNil, aCons, M.bind, M.pure, eTup, eLst, eNew, eSl, oNone, oSome, bT, bNot, bAnd, bOr, eAnd, eOr, eNot, eIf, eCh, truth, eMs, eMl, dAdd, dSub, dMul, dFdiv, dMod, dLe, dLt, dGe, dGt, dEq, dNe, dIs, dIsnt, D.isNon, dIn, dNotIn, dIdx, dSl, dLen, dInt, dOrd_one, dMax2, dMin2, dTuple, dList, dListC, dApp, dNeg, vw, seq, lstOf, fnD, List.map_cons, List.map_nil, List.length_cons, List.length_nil, List.cons_append, List.nil_append, List.append_nil, List.replicate_succ, List.replicate_zero, List.getElem?_cons_zero, List.getElem?_cons_succ, List.set_cons_zero, List.set_cons_succ, Int.cast_ofNat_Int, Nat.reduceBEq, Int.reduceBEq, Nat.reduceAdd, Nat.reduceSub, Nat.reduceLT, Nat.reduceLeDiff, Nat.zero_add, Nat.add_zero, Nat.sub_zero, Nat.sub_self, ↓reduceIte, if_true, if_false, Bool.not_true, Bool.not_false, Bool.false_eq_true, Bool.true_eq_false, decide_true, decide_false, decide_not, true_and, and_true, and_self, true_or, or_true, not_true_eq_false, not_false_eq_true, ne_eq, reduceCtorEq, Int.reduceLT, Int.reduceLE, Int.reduceNeg, Int.reduceSub, Int.reduceAdd, Int.reduceMul, Int.reducePow, Int.reduceToNat, sz, D.dat, D.datL, D.dep, D.depL, szl, inb, List.any_cons, List.any_nil, Bool.true_and, Bool.false_and, Bool.and_true, Bool.and_false, Bool.or_false, Bool.false_or, Bool.true_or, Bool.or_true, Nat.max_self, Nat.max_zero, Nat.zero_max, Nat.min_self, Nat.zero_le, Nat.min_zero, Nat.zero_min, forL, forX, iR1, iR2, rng1, rng2, iE, itOf, sFor, bYes, if_pos hr]
    · rintro i d ρ h e ⟨m, k, c, cs, rfl, rfl, hc, hp⟩
      obtain ⟨rfl, hi⟩ := getElem?_rangeD e
      rw [Int.zero_add]
      rw [Int.zero_add] at e
      refine ⟨_, rfl, ?_⟩
      unfold rowsBody
      refine Good.seq (Good.nx (ρ := [some (scrD ns), some (.int n), some (.ref 0), some (.int m), some (.int i), some (.int 0)]) rfl ?_)
      refine Good.seq (Good.cut (N' := fun ρ h => ∃ v : Int, ρ = [some (scrD ns), some (.int n), some (.ref 0), some (.int m), some (.int i), some (.int v)] ∧ h = [.lst (cs.map .int)]) (Good.ite (decide ((i : Int) < ns.length)) (by (simp only [sSeq, sIf, sB, sE, sAsg, sRet, sRetN, sNil, sExpr, sBrk, sCnt, gN, gT, gsC, gsN, FK.e1, FK.e2, eC, eVar, eCall, aNil, aCons, M.bind, M.pure, eTup, eLst, eNew, eSl, oNone, oSome, bT, bNot, bAnd, bOr, eAnd, eOr, eNot, eIf, eCh, truth, eMs, eMl, dAdd, dSub, dMul, dFdiv, dMod, dLe, dLt, dGe, dGt, dEq, dNe, dIs, dIsnt, D.isNon, dIn, dNotIn, dIdx, dSl, dLen, dInt, dOrd_one, dMax2, dMin2, dTuple, dList, dListC, dApp, dNeg, vw, seq, lstOf, fnD, List.map_cons, List.map_nil, List.length_cons, List.length_nil, List.cons_append, List.nil_append, List.append_nil, List.replicate_succ, List.replicate_zero, List.getElem?_cons_zero, List.getElem?_cons_succ, List.set_cons_zero, List.set_cons_succ, Int.cast_ofNat_Int, Nat.reduceBEq, Int.reduceBEq, Nat.reduceAdd, Nat.reduceSub, Nat.reduceLT, Nat.reduceLeDiff, Nat.zero_add, Nat.add_zero, Nat.sub_zero, Nat.sub_self, ↓reduceIte, if_true, if_false, Bool.not_true, Bool.not_false, Bool.false_eq_true, Bool.true_eq_false, decide_true, decide_false, decide_not, true_and, and_true, and_self, true_or, or_true, not_true_eq_false, not_false_eq_true, ne_eq, reduceCtorEq, Int.reduceLT, Int.reduceLE, Int.reduceNeg, Int.reduceSub, Int.reduceAdd, Int.reduceMul, Int.reducePow, Int.reduceToNat, sz, D.dat, D.datL, D.dep, D.depL, szl, inb, List.any_cons, List.any_nil, Bool.true_and, Bool.false_and, Bool.and_true, Bool.and_false, Bool.or_false, Bool.false_or, Bool.true_or, Bool.or_true, Nat.max_self, Nat.max_zero, Nat.zero_max, Nat.min_self, Nat.zero_le, Nat.min_zero, Nat.zero_min, forL, forX, iR1, iR2, rng1, rng2, iE, itOf, sFor, bYes, scrD, List.length_map] <;> rfl)) (fun q => ?_) (fun _ => Good.nx rfl ⟨_, rfl, rfl⟩)) ?_)
      · have q := of_decide_eq_true q
        obtain ⟨v, hv⟩ := atI_in (ns := ns) (k := i) (by omega) q
        exact Good.nx (by (simp only [sSeq, sIf, sB, sE, sAsg, sRet, sRetN, sNil, sExpr, sBrk, sCnt, gN, gT, gsC, gsN, FK.e1, FK.e2, eC, eVar, eCall, aNil, aCons, M.bind, M.pure, eTup, eLst, eNew, eSl, oNone, oSome, bT, bNot, bAnd, bOr, eAnd, eOr, eNot, eIf, eCh, truth, eMs, eMl, dAdd, dSub, dMul, dFdiv, dMod, dLe, dLt, dGe, dGt, dEq, dNe, dIs, dIsnt, D.isNon, dIn, dNotIn, dIdx, dSl, dLen, dInt, dOrd_one, dMax2, dMin2, dTuple, dList, dListC, dApp, dNeg, vw, seq, lstOf, fnD, List.map_cons, List.map_nil, List.length_cons, List.length_nil, List.cons_append, List.nil_append, List.append_nil, List.replicate_succ, List.replicate_zero, List.getElem?_cons_zero, List.getElem?_cons_succ, List.set_cons_zero, List.set_cons_succ, Int.cast_ofNat_Int, Nat.reduceBEq, Int.reduceBEq, Nat.reduceAdd, Nat.reduceSub, Nat.reduceLT, Nat.reduceLeDiff, Nat.zero_add, Nat.add_zero, Nat.sub_zero, Nat.sub_self, ↓reduceIte, if_true, if_false, Bool.not_true, Bool.not_false, Bool.false_eq_true, Bool.true_eq_false, decide_true, decide_false, decide_not, true_and, and_true, and_self, true_or, or_true, not_true_eq_false, not_false_eq_true, ne_eq, reduceCtorEq, Int.reduceLT, Int.reduceLE, Int.reduceNeg, Int.reduceSub, Int.reduceAdd, Int.reduceMul, Int.reducePow, Int.reduceToNat, sz, D.dat, D.datL, D.dep, D.depL, szl, inb, List.any_cons, List.any_nil, Bool.true_and, Bool.false_and, Bool.and_true, Bool.and_false, Bool.or_false, Bool.false_or, Bool.true_or, Bool.or_true, Nat.max_self, Nat.max_zero, Nat.zero_max, Nat.min_self, Nat.zero_le, Nat.min_zero, Nat.zero_min, forL, forX, iR1, iR2, rng1, rng2, iE, itOf, sFor, bYes, scrD, hv] <;> rfl)) ⟨v, rfl, rfl⟩
      rintro ρ h ⟨v, rfl, rfl⟩
      refine Good.seq (Good.cut (N' := fun ρ h => ∃ v : Int, ρ = [some (scrD ns), some (.int n), some (.ref 0), some (.int m), some (.int i), some (.int v)] ∧ h = [.lst (cs.map .int)] ∧ 0 ≤ v) (Good.ite (decide (v < 0)) (by (simp only [sSeq, sIf, sB, sE, sAsg, sRet, sRetN, sNil, sExpr, sBrk, sCnt, gN, gT, gsC, gsN, FK.e1, FK.e2, eC, eVar, eCall, aNil, aCons, M.bind, M.pure, eTup, eLst, eNew, eSl, oNone, oSome, bT, bNot, bAnd, bOr, eAnd, eOr, eNot, eIf, eCh, truth, eMs, eMl, dAdd, dSub, dMul, dFdiv, dMod, dLe, dLt, dGe, dGt, dEq, dNe, dIs, dIsnt, D.isNon, dIn, dNotIn, dIdx, dSl, dLen, dInt, dOrd_one, dMax2, dMin2, dTuple, dList, dListC, dApp, dNeg, vw, seq, lstOf, fnD, List.map_cons, List.map_nil, List.length_cons, List.length_nil, List.cons_append, List.nil_append, List.append_nil, List.replicate_succ, List.replicate_zero, List.getElem?_cons_zero, List.getElem?_cons_succ, List.set_cons_zero, List.set_cons_succ, Int.cast_ofNat_Int, Nat.reduceBEq, Int.reduceBEq, Nat.reduceAdd, Nat.reduceSub, Nat.reduceLT, Nat.reduceLeDiff, Nat.zero_add, Nat.add_zero, Nat.sub_zero, Nat.sub_self, ↓reduceIte, if_true, if_false, Bool.not_true, Bool.not_false, Bool.false_eq_true, Bool.true_eq_false, decide_true, decide_false, decide_not, true_and, and_true, and_self, true_or, or_true, not_true_eq_false, not_false_eq_true, ne_eq, reduceCtorEq, Int.reduceLT, Int.reduceLE, Int.reduceNeg, Int.reduceSub, Int.reduceAdd, Int.reduceMul, Int.reducePow, Int.reduceToNat, sz, D.dat, D.datL, D.dep, D.depL, szl, inb, List.any_cons, List.any_nil, Bool.true_and, Bool.false_and, Bool.and_true, Bool.and_false, Bool.or_false, Bool.false_or, Bool.true_or, Bool.or_true, Nat.max_self, Nat.max_zero, Nat.zero_max, Nat.min_self, Nat.zero_le, Nat.min_zero, Nat.zero_min, forL, forX, iR1, iR2, rng1, rng2, iE, itOf, sFor, bYes] <;> rfl)) (fun q => ?_) (fun q => Good.nx rfl ⟨_, rfl, rfl, by have := of_decide_eq_false q; omega⟩)) ?_)
      · have q := of_decide_eq_true q
        exact Good.nx (by (simp only [sSeq, sIf, sB, sE, sAsg, sRet, sRetN, sNil, sExpr, sBrk, sCnt, gN, gT, gsC, gsN, FK.e1, FK.e2, eC, eVar, eCall, aNil, aCons, M.bind, M.pure, eTup, eLst, eNew, eSl, oNone, oSome, bT, bNot, bAnd, bOr, eAnd, eOr, eNot, eIf, eCh, truth, eMs, eMl, dAdd, dSub, dMul, dFdiv, dMod, dLe, dLt, dGe, dGt, dEq, dNe, dIs, dIsnt, D.isNon, dIn, dNotIn, dIdx, dSl, dLen, dInt, dOrd_one, dMax2, dMin2, dTuple, dList, dListC, dApp, dNeg, vw, seq, lstOf, fnD, List.map_cons, List.map_nil, List.length_cons, List.length_nil, List.cons_append, List.nil_append, List.append_nil, List.replicate_succ, List.replicate_zero, List.getElem?_cons_zero, List.getElem?_cons_succ, List.set_cons_zero, List.set_cons_succ, Int.cast_ofNat_Int, Nat.reduceBEq, Int.reduceBEq, Nat.reduceAdd, Nat.reduceSub, Nat.reduceLT, Nat.reduceLeDiff, Nat.zero_add, Nat.add_zero, Nat.sub_zero, Nat.sub_self, ↓reduceIte, if_true, if_false, Bool.not_true, Bool.not_false, Bool.false_eq_true, Bool.true_eq_false, decide_true, decide_false, decide_not, true_and, and_true, and_self, true_or, or_true, not_true_eq_false, not_false_eq_true, ne_eq, reduceCtorEq, Int.reduceLT, Int.reduceLE, Int.reduceNeg, Int.reduceSub, Int.reduceAdd, Int.reduceMul, Int.reducePow, Int.reduceToNat, sz, D.dat, D.datL, D.dep, D.depL, szl, inb, List.any_cons, List.any_nil, Bool.true_and, Bool.false_and, Bool.and_true, Bool.and_false, Bool.or_false, Bool.false_or, Bool.true_or, Bool.or_true, Nat.max_self, Nat.max_zero, Nat.zero_max, Nat.min_self, Nat.zero_le, Nat.min_zero, Nat.zero_min, forL, forX, iR1, iR2, rng1, rng2, iE, itOf, sFor, bYes] <;> rfl)) ⟨1 - 2 * v, rfl, rfl, by omega⟩
      rintro ρ h ⟨v, rfl, rfl, hv⟩
      refine Good.seq (Good.nx (ρ := [some (scrD ns), some (.int n), some (.ref 0), some (.int ((m * 48271 + v * 69621 + 2 * i + 1) % 1000000007)), some (.int i), some (.int v)]) (h := [.lst (cs.map .int)]) (by simp only [sSeq, sIf, sB, sE, sAsg, sRet, sRetN, sNil, sExpr, sBrk, sCnt, gN, gT, gsC, gsN, FK.e1, FK.e2, eC, eVar, eCall, aNil, aCons, M.bind, M.pure, eTup, eLst, eNew, eSl, oNone, oSome, bT, bNot, bAnd, bOr, eAnd, eOr, eNot, eIf, eCh, truth, eMs, eMl, dAdd, dSub, dMul, dFdiv, dMod, dLe, dLt, dGe, dGt, dEq, dNe, dIs, dIsnt, D.isNon, dIn, dNotIn, dIdx, dSl, dLen, dInt, dOrd_one, dMax2, dMin2, dTuple, dList, dListC, dApp, dNeg, vw, seq, lstOf, fnD, List.map_cons, List.map_nil, List.length_cons, List.length_nil, List.cons_append, List.nil_append, List.append_nil, List.replicate_succ, List.replicate_zero, List.getElem?_cons_zero, List.getElem?_cons_succ, List.set_cons_zero, List.set_cons_succ, Int.cast_ofNat_Int, Nat.reduceBEq, Int.reduceBEq, Nat.reduceAdd, Nat.reduceSub, Nat.reduceLT, Nat.reduceLeDiff, Nat.zero_add, Nat.add_zero, Nat.sub_zero, Nat.sub_self, ↓reduceIte, if_true, if_false, Bool.not_true, Bool.not_false, Bool.false_eq_true, Bool.true_eq_false, decide_true, decide_false, decide_not, true_and, and_true, and_self, true_or, or_true, not_true_eq_false, not_false_eq_true, ne_eq, reduceCtorEq, Int.reduceLT, Int.reduceLE, Int.reduceNeg, Int.reduceSub, Int.reduceAdd, Int.reduceMul, Int.reducePow, Int.reduceToNat, sz, D.dat, D.datL, D.dep, D.depL, szl, inb, List.any_cons, List.any_nil, Bool.true_and, Bool.false_and, Bool.and_true, Bool.and_false, Bool.or_false, Bool.false_or, Bool.true_or, Bool.or_true, Nat.max_self, Nat.max_zero, Nat.zero_max, Nat.min_self, Nat.zero_le, Nat.min_zero, Nat.zero_min, forL, forX, iR1, iR2, rng1, rng2, iE, itOf, sFor, bYes]) ?_)
      have hz : (cs.map D.int).length < 16777216 := by rw [List.length_map]; omega
      refine Good.ite (decide (1000000000 ≤ v)) (by (simp only [sSeq, sIf, sB, sE, sAsg, sRet, sRetN, sNil, sExpr, sBrk, sCnt, gN, gT, gsC, gsN, FK.e1, FK.e2, eC, eVar, eCall, aNil, aCons, M.bind, M.pure, eTup, eLst, eNew, eSl, oNone, oSome, bT, bNot, bAnd, bOr, eAnd, eOr, eNot, eIf, eCh, truth, eMs, eMl, dAdd, dSub, dMul, dFdiv, dMod, dLe, dLt, dGe, dGt, dEq, dNe, dIs, dIsnt, D.isNon, dIn, dNotIn, dIdx, dSl, dLen, dInt, dOrd_one, dMax2, dMin2, dTuple, dList, dListC, dApp, dNeg, vw, seq, lstOf, fnD, List.map_cons, List.map_nil, List.length_cons, List.length_nil, List.cons_append, List.nil_append, List.append_nil, List.replicate_succ, List.replicate_zero, List.getElem?_cons_zero, List.getElem?_cons_succ, List.set_cons_zero, List.set_cons_succ, Int.cast_ofNat_Int, Nat.reduceBEq, Int.reduceBEq, Nat.reduceAdd, Nat.reduceSub, Nat.reduceLT, Nat.reduceLeDiff, Nat.zero_add, Nat.add_zero, Nat.sub_zero, Nat.sub_self, ↓reduceIte, if_true, if_false, Bool.not_true, Bool.not_false, Bool.false_eq_true, Bool.true_eq_false, decide_true, decide_false, decide_not, true_and, and_true, and_self, true_or, or_true, not_true_eq_false, not_false_eq_true, ne_eq, reduceCtorEq, Int.reduceLT, Int.reduceLE, Int.reduceNeg, Int.reduceSub, Int.reduceAdd, Int.reduceMul, Int.reducePow, Int.reduceToNat, sz, D.dat, D.datL, D.dep, D.depL, szl, inb, List.any_cons, List.any_nil, Bool.true_and, Bool.false_and, Bool.and_true, Bool.and_false, Bool.or_false, Bool.false_or, Bool.true_or, Bool.or_true, Nat.max_self, Nat.max_zero, Nat.zero_max, Nat.min_self, Nat.zero_le, Nat.min_zero, Nat.zero_min, forL, forX, iR1, iR2, rng1, rng2, iE, itOf, sFor, bYes] <;> rfl)) (fun q => ?_) (fun q => ?_)
      · refine Good.nx (h := [.lst ((cs ++ [v]).map .int)]) (by (simp only [sSeq, sIf, sB, sE, sAsg, sRet, sRetN, sNil, sExpr, sBrk, sCnt, gN, gT, gsC, gsN, FK.e1, FK.e2, eC, eVar, eCall, aNil, aCons, M.bind, M.pure, eTup, eLst, eNew, eSl, oNone, oSome, bT, bNot, bAnd, bOr, eAnd, eOr, eNot, eIf, eCh, truth, eMs, eMl, dAdd, dSub, dMul, dFdiv, dMod, dLe, dLt, dGe, dGt, dEq, dNe, dIs, dIsnt, D.isNon, dIn, dNotIn, dIdx, dSl, dLen, dInt, dOrd_one, dMax2, dMin2, dTuple, dList, dListC, dApp, dNeg, vw, seq, lstOf, fnD, List.map_cons, List.map_nil, List.length_cons, List.length_nil, List.cons_append, List.nil_append, List.append_nil, List.replicate_succ, List.replicate_zero, List.getElem?_cons_zero, List.getElem?_cons_succ, List.set_cons_zero, List.set_cons_succ, Int.cast_ofNat_Int, Nat.reduceBEq, Int.reduceBEq, Nat.reduceAdd, Nat.reduceSub, Nat.reduceLT, Nat.reduceLeDiff, Nat.zero_add, Nat.add_zero, Nat.sub_zero, Nat.sub_self, ↓reduceIte, if_true, if_false, Bool.not_true, Bool.not_false, Bool.false_eq_true, Bool.true_eq_false, decide_true, decide_false, decide_not, true_and, and_true, and_self, true_or, or_true, not_true_eq_false, not_false_eq_true, ne_eq, reduceCtorEq, Int.reduceLT, Int.reduceLE, Int.reduceNeg, Int.reduceSub, Int.reduceAdd, Int.reduceMul, Int.reducePow, Int.reduceToNat, sz, D.dat, D.datL, D.dep, D.depL, szl, inb, List.any_cons, List.any_nil, Bool.true_and, Bool.false_and, Bool.and_true, Bool.and_false, Bool.or_false, Bool.false_or, Bool.true_or, Bool.or_true, Nat.max_self, Nat.max_zero, Nat.zero_max, Nat.min_self, Nat.zero_le, Nat.min_zero, Nat.zero_min, forL, forX, iR1, iR2, rng1, rng2, iE, itOf, sFor, bYes, hz, List.map_append] <;> rfl)) ⟨_, _, _, cs ++ [v], rfl, rfl, by simp [hc], fun c' hm => ?_⟩
        rcases List.mem_append.mp hm with z | z
        · exact hp c' z
        · rw [List.mem_singleton.mp z]; exact hv
      · refine Good.nx (h := [.lst ((cs ++ [(((m * 48271 + v * 69621 + 2 * i + 1) % 1000000007) * 2862933555777941757 + 3037000493) % 18446744073709551557]).map .int)]) (by (simp only [sSeq, sIf, sB, sE, sAsg, sRet, sRetN, sNil, sExpr, sBrk, sCnt, gN, gT, gsC, gsN, FK.e1, FK.e2, eC, eVar, eCall, aNil, aCons, M.bind, M.pure, eTup, eLst, eNew, eSl, oNone, oSome, bT, bNot, bAnd, bOr, eAnd, eOr, eNot, eIf, eCh, truth, eMs, eMl, dAdd, dSub, dMul, dFdiv, dMod, dLe, dLt, dGe, dGt, dEq, dNe, dIs, dIsnt, D.isNon, dIn, dNotIn, dIdx, dSl, dLen, dInt, dOrd_one, dMax2, dMin2, dTuple, dList, dListC, dApp, dNeg, vw, seq, lstOf, fnD, List.map_cons, List.map_nil, List.length_cons, List.length_nil, List.cons_append, List.nil_append, List.append_nil, List.replicate_succ, List.replicate_zero, List.getElem?_cons_zero, List.getElem?_cons_succ, List.set_cons_zero, List.set_cons_succ, Int.cast_ofNat_Int, Nat.reduceBEq, Int.reduceBEq, Nat.reduceAdd, Nat.reduceSub, Nat.reduceLT, Nat.reduceLeDiff, Nat.zero_add, Nat.add_zero, Nat.sub_zero, Nat.sub_self, ↓reduceIte, if_true, if_false, Bool.not_true, Bool.not_false, Bool.false_eq_true, Bool.true_eq_false, decide_true, decide_false, decide_not, true_and, and_true, and_self, true_or, or_true, not_true_eq_false, not_false_eq_true, ne_eq, reduceCtorEq, Int.reduceLT, Int.reduceLE, Int.reduceNeg, Int.reduceSub, Int.reduceAdd, Int.reduceMul, Int.reducePow, Int.reduceToNat, sz, D.dat, D.datL, D.dep, D.depL, szl, inb, List.any_cons, List.any_nil, Bool.true_and, Bool.false_and, Bool.and_true, Bool.and_false, Bool.or_false, Bool.false_or, Bool.true_or, Bool.or_true, Nat.max_self, Nat.max_zero, Nat.zero_max, Nat.min_self, Nat.zero_le, Nat.min_zero, Nat.zero_min, forL, forX, iR1, iR2, rng1, rng2, iE, itOf, sFor, bYes, hz, List.map_append] <;> rfl)) ⟨_, _, _, _, rfl, rfl, by simp [hc], fun c' hm => ?_⟩
        rcases List.mem_append.mp hm with z | z
        · exact hp c' z
        · rw [List.mem_singleton.mp z]; exact Int.emod_nonneg _ (by omega)
    · rintro ρ h ⟨m, k, c, cs, rfl, rfl, hc, hp⟩
      rw [length_rangeD] at hc
      exact Good.rt rfl ⟨cs, rfl, rfl, by omega, hp⟩)
  refine ⟨cs, hc, hp, callP_ok (h' := [.lst (cs.map .int)]) (d := .ref 0) ?_ e (fz_ref rfl (nrL_ints cs))⟩
  show (D.nr (scrD ns) && true) = true
  rw [nr_scr]; rfl
/-! comprehensions -/
theorem lcL_some {g : GD} {b : BD} {f : ED} {ρ : Env} {h : CH} (P : Nat → D → Prop) : ∀ (ds : List D), (∀ i d, ds[i]? = some d → ∃ y, lcT g b f ρ d h = .ok (some y) h ∧ P i y) → ∃ ys, lcL g b f ρ ds h = .ok ys h ∧ ys.length = ds.length ∧ ∀ i y, ys[i]? = some y → P i y
  | [], _ => ⟨[], rfl, rfl, fun i y e => by simp at e⟩
  | d :: ds, q => by
    obtain ⟨y, e1, p1⟩ := q 0 d rfl
    obtain ⟨ys, e2, l2, p2⟩ := lcL_some (P := fun i y => P (i + 1) y) ds (fun i d e => q (i + 1) d (by simpa using e))
    refine ⟨y :: ys, ?_, by simp [l2], fun i z e => ?_⟩
    · unfold lcL
      unfold M.bind
      rw [e1]
      dsimp only
      rw [e2]
      rfl
    · cases i with
      | zero => cases e; exact p1
      | succ i => exact p2 i z (by simpa using e)
/-- the list, for what is drawn without a condition -/
theorem eLc_list {it : ITD} {g : GD} {f : ED} {vs : List Nat} {ρ : Env} {h : CH} {ds : List D} (P : Nat → D → Prop) (hi : it ρ h = .ok (ds, none) h) (hl : ds.length ≤ 16777216) (q : ∀ i d, ds[i]? = some d → ∃ ρ1 y, g d (wipeE ρ vs) = some ρ1 ∧ f ρ1 h = .ok y h ∧ P i y) :
    ∃ ys, eLc lcEnd it g bYes f vs ρ h = .ok (.lst ys) h ∧ ys.length = ds.length ∧ ∀ i y, ys[i]? = some y → P i y := by
  obtain ⟨ys, e, l, p⟩ := lcL_some (g := g) (b := bYes) (f := f) (ρ := wipeE ρ vs) (h := h) P ds (fun i d e => by
    obtain ⟨ρ1, y, e1, e2, p⟩ := q i d e
    refine ⟨y, ?_, p⟩
    unfold lcT
    rw [e1]
    show (match f ρ1 h with | .ok x h2 => R.ok (some x) h2 | _ => .bad) = _
    rw [e2])
  refine ⟨ys, ?_, l, p⟩
  unfold eLc
  unfold M.bind
  rw [hi]
  dsimp only
  unfold lcX
  dsimp only
  rw [e]
  dsimp only
  unfold lcEnd
  rw [← l] at hl
  exact if_pos (by rw [sz]; exact hl)
theorem strsD_map : ∀ zs : List Str, strsD (zs.map D.str) = some zs
  | [] => rfl
  | z :: zs => by rw [List.map_cons, strsD, strsD_map zs]; rfl
theorem strs_of {p : Str → Prop} : ∀ {ys : List D}, (∀ (i : Nat) y, ys[i]? = some y → ∃ z : Str, y = D.str z ∧ p z) → ∃ zs : List Str, ys = zs.map D.str ∧ ∀ z ∈ zs, p z
  | [], _ => ⟨[], rfl, fun z h => by cases h⟩
  | y :: ys, q => by
    obtain ⟨z, rfl, pz⟩ := q 0 y rfl
    obtain ⟨zs, rfl, pzs⟩ := strs_of (ys := ys) fun i y e => q (i + 1) y (by simpa using e)
    refine ⟨z :: zs, rfl, fun w h => ?_⟩
    rcases List.mem_cons.mp h with rfl | h
    · exact pz
    · exact pzs w h
/-! texts by their lists -/
abbrev tx (x : Str) : List Nat := x.cps.toList
theorem tx_ext {a b : Str} (h : tx a = tx b) : a = b := by
  cases a; cases b
  simp only [tx, Array.toList_inj] at h
  rw [h]
theorem tx_len (a : Str) : (tx a).length = a.length := by simp [tx, Str.length]
theorem tx_app (a b : Str) : tx (a ++ b) = tx a ++ tx b := by
  show (a.cps ++ b.cps).toList = _
  rw [Array.toList_append]
theorem tx_cut (a : Str) (lo hi : Option Int) : tx (cutS a lo hi) = ((tx a).drop (HT.sIx a.length 0 lo)).take (HT.sIx a.length a.length hi - HT.sIx a.length 0 lo) := by
  unfold cutS
  simp [tx]
theorem dJoin_lst {a : Str} {zs : List Str} {h : CH} (hz : (zs.map (·.length)).sum + zs.length * a.length ≤ 16777216) : dJoin a [.lst (zs.map .str)] h = .ok (.str (Txt.join a zs)) h := by
  unfold dJoin seq vw
  dsimp only
  rw [strsD_map]
  exact if_pos hz
theorem dJoin_tup {a : Str} {zs : List Str} {h : CH} (hz : (zs.map (·.length)).sum + zs.length * a.length ≤ 16777216) : dJoin a [.tup (zs.map .str)] h = .ok (.str (Txt.join a zs)) h := by
  unfold dJoin seq vw
  dsimp only
  rw [strsD_map]
  exact if_pos hz
theorem len_mul (x : Str) (n : Nat) : (Txt.mul x n).length = x.length * n := by
  have h := PyProof.Rows.len_mul x n
  rw [decide_eq_false (by omega), if_neg (by decide)] at h
  exact_mod_cast h
theorem len_cut_le (a : Str) (lo hi : Option Int) : (cutS a lo hi).length ≤ a.length := by
  rw [← tx_len, tx_cut, List.length_take, List.length_drop, tx_len]
  omega
theorem len_cut_to (x : Str) (n : Nat) : (cutS x none (some (n : Int))).length = min n x.length := by
  rw [← tx_len, tx_cut, HT.sIx_nat]
  show (((tx x).drop 0).take (min n x.length - 0)).length = _
  rw [List.drop_zero, List.length_take, tx_len]
  omega
theorem len_join (a : Str) (zs : List Str) : (Txt.join a zs).length = (zs.map (·.length)).sum + (zs.length - 1) * a.length := size_glued a zs
end FK

/-! part: FKN -/
set_option linter.all false
set_option maxRecDepth 100000
set_option maxHeartbeats 4000000
namespace FK
open PySem PySem.Spec L2
/-! FKN: names and paths. -/
noncomputable def isNameB : SD := sSeq (sIf (bOr (bNot (bT (eCh dLe dLe (eC (.int 1)) (eCall dLen (aCons (eVar 0) (aNil))) (eC (.int 100))))) (bT (e2 dIn (eVar 0) (eTup (aCons (eC (.str ".")) (aCons (eC (.str "..")) (aNil))))))) (sRet (eC (.bl false))) (sNil))
  (sSeq (sFor (iE (eVar 0)) (gN 1) (sIf (bOr (bT (e2 dLt (eCall dOrd (aCons (eVar 1) (aNil))) (eC (.int 32)))) (bT (e2 dEq (eVar 1) (eC (.str "/"))))) (sRet (eC (.bl false))) (sNil)))
  (sRet (eC (.bl true))))
/-! is_name -/
def badC (c : Nat) : Bool := decide ((c : Int) < 32) || D.eqb (.str ⟨#[c]⟩) (.str "/")
theorem badC_ok {v : Nat} {ρ : Env} {h : CH} {c : Nat} (e : eVar v ρ h = .ok (.str ⟨#[c]⟩) h) : (bOr (bT (e2 dLt (eCall dOrd (aCons (eVar v) (aNil))) (eC (.int 32)))) (bT (e2 dEq (eVar v) (eC (.str "/"))))) ρ h = .ok (badC c) h := by
  have e1 : bT (e2 dLt (eCall dOrd (aCons (eVar v) (aNil))) (eC (.int 32))) ρ h = .ok (decide ((c : Int) < 32)) h := by
    unfold bT e2 eCall aCons aNil
    unfold M.bind
    rw [e]
    rfl
  have e2 : bT (e2 dEq (eVar v) (eC (.str "/"))) ρ h = .ok (D.eqb (.str ⟨#[c]⟩) (.str "/")) h := by
    unfold bT FK.e2
    unfold M.bind
    rw [e]
    rfl
  unfold bOr badC
  unfold M.bind
  rw [e1]
  cases decide ((c : Int) < 32) with
  | true => rfl
  | false => exact e2
def st0 (x : Str) : Bool := decide ((1 : Int) ≤ x.length) && decide ((x.length : Int) ≤ 100) && !D.eqb (.str ".") (.str x) && !D.eqb (.str "..") (.str x)
theorem eqb_comm (a b : D) : D.eqb a b = D.eqb b a := PySem.W.eqv_comm a.py b.py
theorem any_take {p : Nat → Bool} : ∀ {cs : List Nat} {i c : Nat}, cs[i]? = some c → (cs.take (i + 1)).any p = ((cs.take i).any p || p c)
  | _ :: _, 0, _, e => by cases e; simp
  | _ :: cs, i + 1, _, e => by
    have := any_take (p := p) (cs := cs) (i := i) (by simpa using e)
    simp only [List.take_succ_cons, List.any_cons] at this ⊢
    rw [this, Bool.or_assoc]
theorem any_of_mem {p : Nat → Bool} {cs : List Nat} {i c : Nat} (e : cs[i]? = some c) (h : p c = true) : cs.any p = true := List.any_eq_true.mpr ⟨c, List.mem_of_getElem? e, h⟩
/-- is_name -/
def nm (x : Str) : Bool := st0 x && !x.cps.toList.any badC
theorem isn_fn (x : Str) (hl : x.length ≤ 16777216) (h : CH) : ∃ d h', fnD 2 isNameB [.str x] h = .ok d h' ∧ d = .bl (st0 x && !x.cps.toList.any badC) ∧ h' = h := by
  refine Good.fn (ρ := [some (.str x), none]) (T := fun d h' => d = .bl (st0 x && !x.cps.toList.any badC) ∧ h' = h) ?_
  unfold isNameB
  refine Good.seq (Good.ite (h1 := h) (!st0 x) ?_ (fun e => ?_) (fun e => ?_))
  · have c1 : (bT (eCh dLe dLe (eC (.int 1)) (eCall dLen (aCons (eVar 0) (aNil))) (eC (.int 100)))) [some (.str x), none] h = .ok (decide ((1 : Int) ≤ x.length) && decide ((x.length : Int) ≤ 100)) h := by
      by_cases a : (1 : Int) ≤ x.length
      · simp only [sSeq, sIf, sB, sE, sAsg, sRet, sRetN, sNil, sExpr, sBrk, sCnt, gN, gT, gsC, gsN, FK.e1, FK.e2, eC, eVar, eCall, aNil, aCons, M.bind, M.pure, eTup, eLst, eNew, eSl, oNone, oSome, bT, bNot, bAnd, bOr, eAnd, eOr, eNot, eIf, eCh, truth, eMs, eMl, dAdd, dSub, dMul, dFdiv, dMod, dLe, dLt, dGe, dGt, dEq, dNe, dIs, dIsnt, D.isNon, dIn, dNotIn, dIdx, dSl, dLen, dInt, dOrd_one, dMax2, dMin2, dTuple, dList, dListC, dApp, dNeg, vw, seq, lstOf, fnD, List.map_cons, List.map_nil, List.length_cons, List.length_nil, List.cons_append, List.nil_append, List.append_nil, List.replicate_succ, List.replicate_zero, List.getElem?_cons_zero, List.getElem?_cons_succ, List.set_cons_zero, List.set_cons_succ, Int.cast_ofNat_Int, Nat.reduceBEq, Int.reduceBEq, Nat.reduceAdd, Nat.reduceSub, Nat.reduceLT, Nat.reduceLeDiff, Nat.zero_add, Nat.add_zero, Nat.sub_zero, Nat.sub_self, ↓reduceIte, if_true, if_false, Bool.not_true, Bool.not_false, Bool.false_eq_true, Bool.true_eq_false, decide_true, decide_false, decide_not, true_and, and_true, and_self, true_or, or_true, not_true_eq_false, not_false_eq_true, ne_eq, reduceCtorEq, Int.reduceLT, Int.reduceLE, Int.reduceNeg, Int.reduceSub, Int.reduceAdd, Int.reduceMul, Int.reducePow, Int.reduceToNat, sz, D.dat, D.datL, D.dep, D.depL, szl, inb, List.any_cons, List.any_nil, Bool.true_and, Bool.false_and, Bool.and_true, Bool.and_false, Bool.or_false, Bool.false_or, Bool.true_or, Bool.or_true, Nat.max_self, Nat.max_zero, Nat.zero_max, Nat.min_self, Nat.zero_le, Nat.min_zero, Nat.zero_min, forL, forX, iR1, iR2, rng1, rng2, iE, itOf, sFor, bYes, hl, decide_eq_true a]
      · simp only [sSeq, sIf, sB, sE, sAsg, sRet, sRetN, sNil, sExpr, sBrk, sCnt, gN, gT, gsC, gsN, FK.e1, FK.e2, eC, eVar, eCall, aNil, aCons, M.bind, M.pure, eTup, eLst, eNew, eSl, oNone, oSome, bT, bNot, bAnd, bOr, eAnd, eOr, eNot, eIf, eCh, truth, eMs, eMl, dAdd, dSub, dMul, dFdiv, dMod, dLe, dLt, dGe, dGt, dEq, dNe, dIs, dIsnt, D.isNon, dIn, dNotIn, dIdx, dSl, dLen, dInt, dOrd_one, dMax2, dMin2, dTuple, dList, dListC, dApp, dNeg, vw, seq, lstOf, fnD, List.map_cons, List.map_nil, List.length_cons, List.length_nil, List.cons_append, List.nil_append, List.append_nil, List.replicate_succ, List.replicate_zero, List.getElem?_cons_zero, List.getElem?_cons_succ, List.set_cons_zero, List.set_cons_succ, Int.cast_ofNat_Int, Nat.reduceBEq, Int.reduceBEq, Nat.reduceAdd, Nat.reduceSub, Nat.reduceLT, Nat.reduceLeDiff, Nat.zero_add, Nat.add_zero, Nat.sub_zero, Nat.sub_self, ↓reduceIte, if_true, if_false, Bool.not_true, Bool.not_false, Bool.false_eq_true, Bool.true_eq_false, decide_true, decide_false, decide_not, true_and, and_true, and_self, true_or, or_true, not_true_eq_false, not_false_eq_true, ne_eq, reduceCtorEq, Int.reduceLT, Int.reduceLE, Int.reduceNeg, Int.reduceSub, Int.reduceAdd, Int.reduceMul, Int.reducePow, Int.reduceToNat, sz, D.dat, D.datL, D.dep, D.depL, szl, inb, List.any_cons, List.any_nil, Bool.true_and, Bool.false_and, Bool.and_true, Bool.and_false, Bool.or_false, Bool.false_or, Bool.true_or, Bool.or_true, Nat.max_self, Nat.max_zero, Nat.zero_max, Nat.min_self, Nat.zero_le, Nat.min_zero, Nat.zero_min, forL, forX, iR1, iR2, rng1, rng2, iE, itOf, sFor, bYes, hl, decide_eq_false a]
    have c2 : bT (e2 dIn (eVar 0) (eTup (aCons (eC (.str ".")) (aCons (eC (.str "..")) (aNil))))) [some (.str x), none] h = .ok (D.eqb (.str ".") (.str x) || (D.eqb (.str "..") (.str x) || false)) h := by
      simp only [sSeq, sIf, sB, sE, sAsg, sRet, sRetN, sNil, sExpr, sBrk, sCnt, gN, gT, gsC, gsN, FK.e1, FK.e2, eC, eVar, eCall, aNil, aCons, M.bind, M.pure, eTup, eLst, eNew, eSl, oNone, oSome, bT, bNot, bAnd, bOr, eAnd, eOr, eNot, eIf, eCh, truth, eMs, eMl, dAdd, dSub, dMul, dFdiv, dMod, dLe, dLt, dGe, dGt, dEq, dNe, dIs, dIsnt, D.isNon, dIn, dNotIn, dIdx, dSl, dLen, dInt, dOrd_one, dMax2, dMin2, dTuple, dList, dListC, dApp, dNeg, vw, seq, lstOf, fnD, List.map_cons, List.map_nil, List.length_cons, List.length_nil, List.cons_append, List.nil_append, List.append_nil, List.replicate_succ, List.replicate_zero, List.getElem?_cons_zero, List.getElem?_cons_succ, List.set_cons_zero, List.set_cons_succ, Int.cast_ofNat_Int, Nat.reduceBEq, Int.reduceBEq, Nat.reduceAdd, Nat.reduceSub, Nat.reduceLT, Nat.reduceLeDiff, Nat.zero_add, Nat.add_zero, Nat.sub_zero, Nat.sub_self, ↓reduceIte, if_true, if_false, Bool.not_true, Bool.not_false, Bool.false_eq_true, Bool.true_eq_false, decide_true, decide_false, decide_not, true_and, and_true, and_self, true_or, or_true, not_true_eq_false, not_false_eq_true, ne_eq, reduceCtorEq, Int.reduceLT, Int.reduceLE, Int.reduceNeg, Int.reduceSub, Int.reduceAdd, Int.reduceMul, Int.reducePow, Int.reduceToNat, sz, D.dat, D.datL, D.dep, D.depL, szl, inb, List.any_cons, List.any_nil, Bool.true_and, Bool.false_and, Bool.and_true, Bool.and_false, Bool.or_false, Bool.false_or, Bool.true_or, Bool.or_true, Nat.max_self, Nat.max_zero, Nat.zero_max, Nat.min_self, Nat.zero_le, Nat.min_zero, Nat.zero_min, forL, forX, iR1, iR2, rng1, rng2, iE, itOf, sFor, bYes]
    unfold st0 bOr bNot
    unfold M.bind
    rw [c1]
    cases decide ((1 : Int) ≤ x.length) && decide ((x.length : Int) ≤ 100) with
    | false => rfl
    | true =>
      rw [Bool.true_and]
      refine c2.trans ?_
      cases D.eqb (.str ".") (.str x) <;> cases D.eqb (.str "..") (.str x) <;> rfl
  · rw [Bool.not_eq_true'] at e
    refine Good.rt rfl ?_
    rw [e]
    exact ⟨rfl, rfl⟩
  · have e' : st0 x = true := by simpa using e
    rw [e', Bool.true_and]
    refine Good.seq (Good.forL (fun i ρ h' => h' = h ∧ (∃ y, ρ = [some (.str x), y]) ∧ (x.cps.toList.take i).any badC = false) (chars x) ⟨rfl, ⟨_, rfl⟩, rfl⟩ (fun i d ρ h' e q => ?_) (fun ρ h' q => ?_))
    · obtain ⟨rfl, ⟨y, rfl⟩, q⟩ := q
      obtain ⟨c, e2, rfl⟩ := chars_get e
      refine ⟨_, rfl, Good.ite (badC c) (badC_ok rfl) (fun b => ?_) (fun b => ?_)⟩
      · refine Good.rt rfl ?_
        rw [any_of_mem e2 b]
        exact ⟨rfl, rfl⟩
      · exact Good.nx rfl ⟨rfl, ⟨_, rfl⟩, by rw [any_take e2, q, b]; rfl⟩
    · obtain ⟨rfl, ⟨y, rfl⟩, q⟩ := q
      have : (chars x).length = x.cps.toList.length := by simp [chars]
      rw [this, List.take_length] at q
      exact Good.rt rfl ⟨by rw [q]; rfl, rfl⟩
theorem isn_ok (x : Str) (hl : x.length ≤ 16777216) (h : CH) : callP 1 (fnD 2 isNameB) [.str x] h = .ok (.bl (nm x)) h := by
  obtain ⟨d, h', e, rfl, rfl⟩ := isn_fn x hl []
  exact callP_ok rfl e (fz_nr rfl)
/-- the elements alone -/
theorem eLc_map {it : ITD} {g : GD} {f : ED} {vs : List Nat} {ρ : Env} {h : CH} {ds : List D} (F : D → D) {o : Option Nat} (ho : o = none := by rfl) (hi : it ρ h = .ok (ds, o) h) (hl : ds.length ≤ 16777216) (q : ∀ d ∈ ds, ∃ ρ1, g d (wipeE ρ vs) = some ρ1 ∧ f ρ1 h = .ok (F d) h) :
    eLc lcEnd it g bYes f vs ρ h = .ok (.lst (ds.map F)) h := by
  subst ho
  obtain ⟨ys, e, l, p⟩ := eLc_list (it := it) (g := g) (f := f) (vs := vs) (ρ := ρ) (h := h) (fun i y => ∃ d, ds[i]? = some d ∧ y = F d) hi hl (fun i d e => by
    obtain ⟨ρ1, e1, e2⟩ := q d (List.mem_of_getElem? e)
    exact ⟨ρ1, _, e1, e2, d, e, rfl⟩)
  rw [e, show ys = ds.map F from List.ext_getElem? fun i => by
    rw [List.getElem?_map]
    cases e1 : ys[i]? with
    | some y =>
      obtain ⟨d, e2, rfl⟩ := p i y e1
      rw [e2]; rfl
    | none =>
      have := List.getElem?_eq_none_iff.mp e1
      rw [List.getElem?_eq_none_iff.mpr (by omega)]; rfl]
theorem len_join_mem {a : Str} : ∀ {ys : List Str} {y : Str}, y ∈ ys → y.length ≤ (Str.join a ys).length
  | [y], _, h => by rw [List.mem_singleton.mp h]; exact Nat.le_refl _
  | y :: z :: ys, w, h => by
    have e : (Str.join a (y :: z :: ys)).length = y.length + a.length + (Str.join a (z :: ys)).length := by
      show ((y ++ a) ++ Str.join a (z :: ys)).length = _
      rw [PySem.Str.length_append, PySem.Str.length_append]
    rcases List.mem_cons.mp h with rfl | h
    · omega
    · have := len_join_mem (a := a) h
      omega
theorem len_split {x y : Str} : ∀ p ∈ Txt.split x y, p.length ≤ x.length := fun p hp => by
  have := len_join_mem (a := y) hp
  rwa [StrLaws.join_split] at this
theorem count_join {a : Str} (ha : a.length = 1) : ∀ ys : List Str, ys.length ≤ (Str.join a ys).length + 1
  | [] => Nat.zero_le _
  | [y] => by simp
  | y :: z :: ys => by
    have e : (Str.join a (y :: z :: ys)).length = y.length + a.length + (Str.join a (z :: ys)).length := by
      show ((y ++ a) ++ Str.join a (z :: ys)).length = _
      rw [PySem.Str.length_append, PySem.Str.length_append]
    have := count_join ha (z :: ys)
    simp only [List.length_cons] at *
    omega
theorem count_split {x y : Str} (hy : y.length = 1) : (Txt.split x y).length ≤ x.length + 1 := by
  have := count_join hy (Txt.split x y)
  rwa [StrLaws.join_split] at this
theorem nrL_strs : ∀ zs : List Str, D.nrL (zs.map D.str) = true
  | [] => rfl
  | z :: zs => nrL_strs zs
theorem nrL_tup (zs : List Str) : D.nrL [D.tup (zs.map D.str)] = true := by
  show (D.nrL (zs.map D.str) && true) = true
  rw [nrL_strs]; rfl
noncomputable def readPathB : SD := sSeq (sIf (bT (e2 dEq (eVar 0) (eC (.str "")))) (sRet (eTup (aNil))) (sNil))
  (sSeq (sAsg (eMs dSplit (eVar 0) (aCons (eC (.str "/")) (aNil))) (gN 1))
  (sSeq (sFor (iE (eVar 1)) (gN 2) (sIf (bNot (bT (eCall (callP 1 (fnD 2 isNameB)) (aCons (eVar 2) (aNil))))) (sRet (eC .non)) (sNil)))
  (sRet (eCall dTuple (aCons (eVar 1) (aNil))))))
abbrev sl : Str := "/"
theorem len_sl : sl.length = 1 := by decide
def rdPath (x : Str) : D := if D.eqb (.str x) (.str "") then .tup [] else if (Txt.split x sl).all nm then .tup ((Txt.split x sl).map D.str) else .non
theorem read_ok (x : Str) (hl : x.length ≤ 1000000) (h : CH) : callP 1 (fnD 3 readPathB) [.str x] h = .ok (rdPath x) h := by
  have hl2 : x.length + 2 ≤ 16777216 := by omega
  have lsl : (Str.ofString "/").length = 1 := len_sl
  obtain ⟨d, h', e, rfl, rfl⟩ := Good.fn (N := 3) (body := readPathB) (ds := [.str x]) (h := []) (ρ := [some (.str x), none, none]) (T := fun d h' => d = rdPath x ∧ h' = []) (by
    unfold readPathB rdPath
    refine Good.seq (Good.ite (D.eqb (.str x) (.str "")) (by (simp only [sSeq, sIf, sB, sE, sAsg, sRet, sRetN, sNil, sExpr, sBrk, sCnt, gN, gT, gsC, gsN, FK.e1, FK.e2, eC, eVar, eCall, aNil, aCons, M.bind, M.pure, eTup, eLst, eNew, eSl, oNone, oSome, bT, bNot, bAnd, bOr, eAnd, eOr, eNot, eIf, eCh, truth, eMs, eMl, dAdd, dSub, dMul, dFdiv, dMod, dLe, dLt, dGe, dGt, dEq, dNe, dIs, dIsnt, D.isNon, dIn, dNotIn, dIdx, dSl, dLen, dInt, dOrd_one, dMax2, dMin2, dTuple, dList, dListC, dApp, dNeg, vw, seq, lstOf, fnD, List.map_cons, List.map_nil, List.length_cons, List.length_nil, List.cons_append, List.nil_append, List.append_nil, List.replicate_succ, List.replicate_zero, List.getElem?_cons_zero, List.getElem?_cons_succ, List.set_cons_zero, List.set_cons_succ, Int.cast_ofNat_Int, Nat.reduceBEq, Int.reduceBEq, Nat.reduceAdd, Nat.reduceSub, Nat.reduceLT, Nat.reduceLeDiff, Nat.zero_add, Nat.add_zero, Nat.sub_zero, Nat.sub_self, ↓reduceIte, if_true, if_false, Bool.not_true, Bool.not_false, Bool.false_eq_true, Bool.true_eq_false, decide_true, decide_false, decide_not, true_and, and_true, and_self, true_or, or_true, not_true_eq_false, not_false_eq_true, ne_eq, reduceCtorEq, Int.reduceLT, Int.reduceLE, Int.reduceNeg, Int.reduceSub, Int.reduceAdd, Int.reduceMul, Int.reducePow, Int.reduceToNat, sz, D.dat, D.datL, D.dep, D.depL, szl, inb, List.any_cons, List.any_nil, Bool.true_and, Bool.false_and, Bool.and_true, Bool.and_false, Bool.or_false, Bool.false_or, Bool.true_or, Bool.or_true, Nat.max_self, Nat.max_zero, Nat.zero_max, Nat.min_self, Nat.zero_le, Nat.min_zero, Nat.zero_min, forL, forX, iR1, iR2, rng1, rng2, iE, itOf, sFor, bYes] <;> rfl)) (fun q => Good.rt (d := .tup []) (by (simp only [sSeq, sIf, sB, sE, sAsg, sRet, sRetN, sNil, sExpr, sBrk, sCnt, gN, gT, gsC, gsN, FK.e1, FK.e2, eC, eVar, eCall, aNil, aCons, M.bind, M.pure, eTup, eLst, eNew, eSl, oNone, oSome, bT, bNot, bAnd, bOr, eAnd, eOr, eNot, eIf, eCh, truth, eMs, eMl, dAdd, dSub, dMul, dFdiv, dMod, dLe, dLt, dGe, dGt, dEq, dNe, dIs, dIsnt, D.isNon, dIn, dNotIn, dIdx, dSl, dLen, dInt, dOrd_one, dMax2, dMin2, dTuple, dList, dListC, dApp, dNeg, vw, seq, lstOf, fnD, List.map_cons, List.map_nil, List.length_cons, List.length_nil, List.cons_append, List.nil_append, List.append_nil, List.replicate_succ, List.replicate_zero, List.getElem?_cons_zero, List.getElem?_cons_succ, List.set_cons_zero, List.set_cons_succ, Int.cast_ofNat_Int, Nat.reduceBEq, Int.reduceBEq, Nat.reduceAdd, Nat.reduceSub, Nat.reduceLT, Nat.reduceLeDiff, Nat.zero_add, Nat.add_zero, Nat.sub_zero, Nat.sub_self, ↓reduceIte, if_true, if_false, Bool.not_true, Bool.not_false, Bool.false_eq_true, Bool.true_eq_false, decide_true, decide_false, decide_not, true_and, and_true, and_self, true_or, or_true, not_true_eq_false, not_false_eq_true, ne_eq, reduceCtorEq, Int.reduceLT, Int.reduceLE, Int.reduceNeg, Int.reduceSub, Int.reduceAdd, Int.reduceMul, Int.reducePow, Int.reduceToNat, sz, D.dat, D.datL, D.dep, D.depL, szl, inb, List.any_cons, List.any_nil, Bool.true_and, Bool.false_and, Bool.and_true, Bool.and_false, Bool.or_false, Bool.false_or, Bool.true_or, Bool.or_true, Nat.max_self, Nat.max_zero, Nat.zero_max, Nat.min_self, Nat.zero_le, Nat.min_zero, Nat.zero_min, forL, forX, iR1, iR2, rng1, rng2, iE, itOf, sFor, bYes] <;> rfl)) ⟨by rw [if_pos q], rfl⟩) (fun q => ?_))
    rw [q]
    refine Good.nx rfl (Good.seq (Good.nx (ρ := [some (.str x), some (.lst ((Txt.split x sl).map D.str)), none]) (h := []) (by (simp only [sSeq, sIf, sB, sE, sAsg, sRet, sRetN, sNil, sExpr, sBrk, sCnt, gN, gT, gsC, gsN, FK.e1, FK.e2, eC, eVar, eCall, aNil, aCons, M.bind, M.pure, eTup, eLst, eNew, eSl, oNone, oSome, bT, bNot, bAnd, bOr, eAnd, eOr, eNot, eIf, eCh, truth, eMs, eMl, dAdd, dSub, dMul, dFdiv, dMod, dLe, dLt, dGe, dGt, dEq, dNe, dIs, dIsnt, D.isNon, dIn, dNotIn, dIdx, dSl, dLen, dInt, dOrd_one, dMax2, dMin2, dTuple, dList, dListC, dApp, dNeg, vw, seq, lstOf, fnD, List.map_cons, List.map_nil, List.length_cons, List.length_nil, List.cons_append, List.nil_append, List.append_nil, List.replicate_succ, List.replicate_zero, List.getElem?_cons_zero, List.getElem?_cons_succ, List.set_cons_zero, List.set_cons_succ, Int.cast_ofNat_Int, Nat.reduceBEq, Int.reduceBEq, Nat.reduceAdd, Nat.reduceSub, Nat.reduceLT, Nat.reduceLeDiff, Nat.zero_add, Nat.add_zero, Nat.sub_zero, Nat.sub_self, ↓reduceIte, if_true, if_false, Bool.not_true, Bool.not_false, Bool.false_eq_true, Bool.true_eq_false, decide_true, decide_false, decide_not, true_and, and_true, and_self, true_or, or_true, not_true_eq_false, not_false_eq_true, ne_eq, reduceCtorEq, Int.reduceLT, Int.reduceLE, Int.reduceNeg, Int.reduceSub, Int.reduceAdd, Int.reduceMul, Int.reducePow, Int.reduceToNat, sz, D.dat, D.datL, D.dep, D.depL, szl, inb, List.any_cons, List.any_nil, Bool.true_and, Bool.false_and, Bool.and_true, Bool.and_false, Bool.or_false, Bool.false_or, Bool.true_or, Bool.or_true, Nat.max_self, Nat.max_zero, Nat.zero_max, Nat.min_self, Nat.zero_le, Nat.min_zero, Nat.zero_min, forL, forX, iR1, iR2, rng1, rng2, iE, itOf, sFor, bYes, dSplit, lsl, hl2] <;> rfl)) ?_))
    refine Good.seq (Good.sFor (ds := (Txt.split x sl).map D.str) rfl (Good.forL (fun i ρ h => ∃ y, ρ = [some (.str x), some (.lst ((Txt.split x sl).map D.str)), y] ∧ h = [] ∧ ((Txt.split x sl).take i).all nm = true) _ ⟨_, rfl, rfl, rfl⟩ ?_ ?_))
    · rintro i d ρ h e ⟨y, rfl, rfl, hy⟩
      rw [List.getElem?_map] at e
      cases ez : (Txt.split x sl)[i]? with
      | none => rw [ez] at e; cases e
      | some z =>
        rw [ez] at e
        cases e
        have hz := len_split z (List.mem_of_getElem? ez)
        have e3 := isn_ok z (by omega) []
        refine ⟨_, rfl, Good.ite (!nm z) (by (simp only [sSeq, sIf, sB, sE, sAsg, sRet, sRetN, sNil, sExpr, sBrk, sCnt, gN, gT, gsC, gsN, FK.e1, FK.e2, eC, eVar, eCall, aNil, aCons, M.bind, M.pure, eTup, eLst, eNew, eSl, oNone, oSome, bT, bNot, bAnd, bOr, eAnd, eOr, eNot, eIf, eCh, truth, eMs, eMl, dAdd, dSub, dMul, dFdiv, dMod, dLe, dLt, dGe, dGt, dEq, dNe, dIs, dIsnt, D.isNon, dIn, dNotIn, dIdx, dSl, dLen, dInt, dOrd_one, dMax2, dMin2, dTuple, dList, dListC, dApp, dNeg, vw, seq, lstOf, fnD, List.map_cons, List.map_nil, List.length_cons, List.length_nil, List.cons_append, List.nil_append, List.append_nil, List.replicate_succ, List.replicate_zero, List.getElem?_cons_zero, List.getElem?_cons_succ, List.set_cons_zero, List.set_cons_succ, Int.cast_ofNat_Int, Nat.reduceBEq, Int.reduceBEq, Nat.reduceAdd, Nat.reduceSub, Nat.reduceLT, Nat.reduceLeDiff, Nat.zero_add, Nat.add_zero, Nat.sub_zero, Nat.sub_self, ↓reduceIte, if_true, if_false, Bool.not_true, Bool.not_false, Bool.false_eq_true, Bool.true_eq_false, decide_true, decide_false, decide_not, true_and, and_true, and_self, true_or, or_true, not_true_eq_false, not_false_eq_true, ne_eq, reduceCtorEq, Int.reduceLT, Int.reduceLE, Int.reduceNeg, Int.reduceSub, Int.reduceAdd, Int.reduceMul, Int.reducePow, Int.reduceToNat, sz, D.dat, D.datL, D.dep, D.depL, szl, inb, List.any_cons, List.any_nil, Bool.true_and, Bool.false_and, Bool.and_true, Bool.and_false, Bool.or_false, Bool.false_or, Bool.true_or, Bool.or_true, Nat.max_self, Nat.max_zero, Nat.zero_max, Nat.min_self, Nat.zero_le, Nat.min_zero, Nat.zero_min, forL, forX, iR1, iR2, rng1, rng2, iE, itOf, sFor, bYes, e3] <;> rfl)) (fun q => ?_) (fun q => ?_)⟩
        · refine Good.rt (by (simp only [sSeq, sIf, sB, sE, sAsg, sRet, sRetN, sNil, sExpr, sBrk, sCnt, gN, gT, gsC, gsN, FK.e1, FK.e2, eC, eVar, eCall, aNil, aCons, M.bind, M.pure, eTup, eLst, eNew, eSl, oNone, oSome, bT, bNot, bAnd, bOr, eAnd, eOr, eNot, eIf, eCh, truth, eMs, eMl, dAdd, dSub, dMul, dFdiv, dMod, dLe, dLt, dGe, dGt, dEq, dNe, dIs, dIsnt, D.isNon, dIn, dNotIn, dIdx, dSl, dLen, dInt, dOrd_one, dMax2, dMin2, dTuple, dList, dListC, dApp, dNeg, vw, seq, lstOf, fnD, List.map_cons, List.map_nil, List.length_cons, List.length_nil, List.cons_append, List.nil_append, List.append_nil, List.replicate_succ, List.replicate_zero, List.getElem?_cons_zero, List.getElem?_cons_succ, List.set_cons_zero, List.set_cons_succ, Int.cast_ofNat_Int, Nat.reduceBEq, Int.reduceBEq, Nat.reduceAdd, Nat.reduceSub, Nat.reduceLT, Nat.reduceLeDiff, Nat.zero_add, Nat.add_zero, Nat.sub_zero, Nat.sub_self, ↓reduceIte, if_true, if_false, Bool.not_true, Bool.not_false, Bool.false_eq_true, Bool.true_eq_false, decide_true, decide_false, decide_not, true_and, and_true, and_self, true_or, or_true, not_true_eq_false, not_false_eq_true, ne_eq, reduceCtorEq, Int.reduceLT, Int.reduceLE, Int.reduceNeg, Int.reduceSub, Int.reduceAdd, Int.reduceMul, Int.reducePow, Int.reduceToNat, sz, D.dat, D.datL, D.dep, D.depL, szl, inb, List.any_cons, List.any_nil, Bool.true_and, Bool.false_and, Bool.and_true, Bool.and_false, Bool.or_false, Bool.false_or, Bool.true_or, Bool.or_true, Nat.max_self, Nat.max_zero, Nat.zero_max, Nat.min_self, Nat.zero_le, Nat.min_zero, Nat.zero_min, forL, forX, iR1, iR2, rng1, rng2, iE, itOf, sFor, bYes] <;> rfl)) ⟨?_, rfl⟩
          rw [if_neg (by decide), if_neg]
          intro hh
          have := List.all_eq_true.mp hh z (List.mem_of_getElem? ez)
          rw [this] at q
          cases q
        · refine Good.nx rfl ⟨_, rfl, rfl, ?_⟩
          rw [List.take_succ, ez, List.all_append, hy]
          have : nm z = true := by simpa using q
          simp [this]
    · rintro ρ h ⟨y, rfl, rfl, hy⟩
      rw [List.length_map, List.take_length] at hy
      refine Good.rt (by (simp only [sSeq, sIf, sB, sE, sAsg, sRet, sRetN, sNil, sExpr, sBrk, sCnt, gN, gT, gsC, gsN, FK.e1, FK.e2, eC, eVar, eCall, aNil, aCons, M.bind, M.pure, eTup, eLst, eNew, eSl, oNone, oSome, bT, bNot, bAnd, bOr, eAnd, eOr, eNot, eIf, eCh, truth, eMs, eMl, dAdd, dSub, dMul, dFdiv, dMod, dLe, dLt, dGe, dGt, dEq, dNe, dIs, dIsnt, D.isNon, dIn, dNotIn, dIdx, dSl, dLen, dInt, dOrd_one, dMax2, dMin2, dTuple, dList, dListC, dApp, dNeg, vw, seq, lstOf, fnD, List.map_cons, List.map_nil, List.length_cons, List.length_nil, List.cons_append, List.nil_append, List.append_nil, List.replicate_succ, List.replicate_zero, List.getElem?_cons_zero, List.getElem?_cons_succ, List.set_cons_zero, List.set_cons_succ, Int.cast_ofNat_Int, Nat.reduceBEq, Int.reduceBEq, Nat.reduceAdd, Nat.reduceSub, Nat.reduceLT, Nat.reduceLeDiff, Nat.zero_add, Nat.add_zero, Nat.sub_zero, Nat.sub_self, ↓reduceIte, if_true, if_false, Bool.not_true, Bool.not_false, Bool.false_eq_true, Bool.true_eq_false, decide_true, decide_false, decide_not, true_and, and_true, and_self, true_or, or_true, not_true_eq_false, not_false_eq_true, ne_eq, reduceCtorEq, Int.reduceLT, Int.reduceLE, Int.reduceNeg, Int.reduceSub, Int.reduceAdd, Int.reduceMul, Int.reducePow, Int.reduceToNat, sz, D.dat, D.datL, D.dep, D.depL, szl, inb, List.any_cons, List.any_nil, Bool.true_and, Bool.false_and, Bool.and_true, Bool.and_false, Bool.or_false, Bool.false_or, Bool.true_or, Bool.or_true, Nat.max_self, Nat.max_zero, Nat.zero_max, Nat.min_self, Nat.zero_le, Nat.min_zero, Nat.zero_min, forL, forX, iR1, iR2, rng1, rng2, iE, itOf, sFor, bYes] <;> rfl)) ⟨?_, rfl⟩
      rw [if_neg (by decide), if_pos hy])
  refine callP_ok rfl e (fz_nr ?_)
  unfold rdPath
  split
  · rfl
  · split
    · exact nrL_strs _
    · rfl
theorem datL_strs : ∀ zs : List Str, D.datL (zs.map D.str) = true
  | [] => rfl
  | z :: zs => datL_strs zs
theorem depL_strs : ∀ zs : List Str, D.depL (zs.map D.str) = 0
  | [] => rfl
  | z :: zs => by
    show max 0 (D.depL (zs.map D.str)) = 0
    rw [depL_strs zs]; rfl
theorem eqvAll_strs : ∀ zs : List Str, PyData.eqvAll (D.pyL (zs.map D.str)) (D.pyL (zs.map D.str)) = true
  | [] => rfl
  | z :: zs => by
    show (PyData.eqv (.str z) (.str z) && PyData.eqvAll (D.pyL (zs.map D.str)) (D.pyL (zs.map D.str))) = true
    rw [eqvAll_strs zs]
    show ((z == z) && true) = true
    simp
theorem eqb_tupS (zs : List Str) : D.eqb (.tup (zs.map .str)) (.tup (zs.map .str)) = true := eqvAll_strs zs
theorem eqb_refl (x : Str) : D.eqb (.str x) (.str x) = true := by
  show (x == x) = true
  simp
theorem blsD_map : ∀ zs : List Bool, blsD (zs.map D.bl) = some zs
  | [] => rfl
  | z :: zs => by rw [List.map_cons, blsD, blsD_map zs]; rfl
theorem dAll_lst {bs : List Bool} {h : CH} : dAll [.lst (bs.map .bl)] h = .ok (.bl (bs.all id)) h := by
  unfold dAll lstOf vw
  dsimp only
  rw [blsD_map]
theorem dAny_lst {bs : List Bool} {h : CH} : dAny [.lst (bs.map .bl)] h = .ok (.bl (bs.any id)) h := by
  unfold dAny lstOf vw
  dsimp only
  rw [blsD_map]
theorem gN_wipe {ρ : Env} {i : Nat} {d : D} : gN i d (wipeE ρ [i]) = some ((wipeE ρ [i]).set i (some d)) := rfl
end FK

/-! part: FKE -/
set_option linter.all false
set_option maxRecDepth 100000
set_option maxHeartbeats 4000000
namespace FK
open PySem PySem.Spec L2
/-! FKE: endings, stems, names with a word. -/
theorem Good.wh {c : BD} {b : SD} {N : Env → CH → Prop} {T : D → CH → Prop} (I : Nat → Env → CH → Prop)
    (step : ∀ n ρ h, I n ρ h → ∃ k h1, c ρ h = .ok k h1 ∧ (k = false → N ρ h1) ∧ (k = true → Good (b ρ h1) (fun ρ2 h2 => ∃ m, m < n ∧ I m ρ2 h2) T)) : ∀ (fuel n : Nat) (ρ : Env) (h : CH), n < fuel → I n ρ h → Good (whL c b fuel ρ h) N T
  | 0, n, _, _, hn, _ => absurd hn (Nat.not_lt_zero n)
  | fuel + 1, n, ρ, h, hn, hi => by
    obtain ⟨k, h1, e, q1, q2⟩ := step n ρ h hi
    unfold whL sB
    rw [e]
    cases k with
    | false => exact q1 rfl
    | true =>
      have g := q2 rfl
      show Good (match b ρ h1 with | .ok .nx ρ2 h2 => whL c b fuel ρ2 h2 | .ok .ct ρ2 h2 => whL c b fuel ρ2 h2 | .ok .bk ρ2 h2 => .ok .nx ρ2 h2 | r => r) N T
      cases eb : b ρ h1 with
      | ok f ρ2 h2 =>
        rw [eb] at g
        cases f with
        | nx =>
          obtain ⟨m, hm, hi2⟩ := g
          exact Good.wh I step fuel m ρ2 h2 (by omega) hi2
        | rt d => exact g
        | _ => exact g.elim
      | _ => rw [eb] at g; exact g.elim
abbrev dot : Str := "."
/-- where the last dot behind the first sign is, or 0 -/
def LastDot (x : Str) (a : Nat) : Prop := (a = 0 ∨ (tx x)[a]? = some 46) ∧ ∀ k, a < k → (tx x)[k]? ≠ some 46
theorem LastDot.uniq {x : Str} {a b : Nat} (ha : LastDot x a) (hb : LastDot x b) : a = b := by
  rcases Nat.lt_trichotomy a b with h | h | h
  · rcases hb.1 with rfl | e
    · omega
    · exact absurd e (ha.2 b h)
  · exact h
  · rcases ha.1 with rfl | e
    · omega
    · exact absurd e (hb.2 a h)
theorem dot_eq : dot = ⟨#[46]⟩ := by decide
theorem rfind_dot (x : Str) : ∃ a, LastDot x a ∧ ((0 < a ∧ Txt.rfind x dot = (a : Int)) ∨ (a = 0 ∧ Txt.rfind x dot ≤ 0)) := by
  have key : ∀ i, StrLaws.At x dot x.length i ↔ (tx x)[i]? = some 46 := fun i => by
    unfold StrLaws.At
    rw [dot_eq]
    exact StrLaws.subAt_one x 46 i
  rcases PyProof.Rows.rfind_whole x dot with ⟨e, hn⟩ | ⟨i, e, hi, hn⟩
  · exact ⟨0, ⟨.inl rfl, fun k _ => fun h => hn k ((key k).mpr h)⟩, .inr ⟨rfl, by omega⟩⟩
  · refine ⟨i, ⟨.inr ((key i).mp hi), fun k hk => fun h => hn k hk ((key k).mpr h)⟩, ?_⟩
    rcases Nat.eq_zero_or_pos i with rfl | h
    · exact .inr ⟨rfl, by omega⟩
    · exact .inl ⟨h, e⟩
noncomputable def ldot (x : Str) : Nat := (rfind_dot x).choose
theorem ldot_spec (x : Str) : LastDot x (ldot x) := (rfind_dot x).choose_spec.1
theorem ldot_rfind (x : Str) : (0 < ldot x ∧ Txt.rfind x dot = (ldot x : Int)) ∨ (ldot x = 0 ∧ Txt.rfind x dot ≤ 0) := (rfind_dot x).choose_spec.2
theorem ldot_lt (x : Str) : 0 < ldot x → ldot x < x.length := fun h => by
  rcases (ldot_spec x).1 with e | e
  · omega
  · rw [← tx_len]
    exact (List.getElem?_eq_some_iff.mp e).1
/-- the ending -/
noncomputable def endg (x : Str) : Str := if 0 < ldot x ∧ x.length - ldot x ≤ 10 then cutS x (some (ldot x : Int)) none else ""
theorem endg_tx (x : Str) : tx (endg x) = (tx x).drop (x.length - (endg x).length) ∧ (endg x).length ≤ 10 ∧ (endg x).length ≤ x.length := by
  unfold endg
  by_cases h : 0 < ldot x ∧ x.length - ldot x ≤ 10
  · rw [if_pos h]
    have hl := ldot_lt x h.1
    have e : tx (cutS x (some (ldot x : Int)) none) = (tx x).drop (ldot x) := by
      rw [tx_cut, HT.sIx_nat, Nat.min_eq_left (by omega)]
      show List.take (x.length - ldot x) _ = _
      exact List.take_of_length_le (by rw [List.length_drop, tx_len]; omega)
    have el : (cutS x (some (ldot x : Int)) none).length = x.length - ldot x := by rw [← tx_len, e, List.length_drop, tx_len]
    rw [el, e]
    exact ⟨by rw [show x.length - (x.length - ldot x) = ldot x by omega], by omega, by omega⟩
  · rw [if_neg h]
    have e0 : (Str.ofString "").length = 0 := by decide
    rw [e0]
    refine ⟨?_, by omega, by omega⟩
    rw [Nat.sub_zero, ← tx_len, List.drop_length]
    decide
noncomputable def endingB : SD := sSeq (sAsg (eMs dRfind (eVar 0) (aCons (eC (.str ".")) (aNil))) (gN 1))
  (sSeq (sIf (bAnd (bT (e2 dGt (eVar 1) (eC (.int 0)))) (bT (e2 dLe (e2 dSub (eCall dLen (aCons (eVar 0) (aNil))) (eVar 1)) (eC (.int 10))))) (sRet (eSl (eVar 0) (oSome (eVar 1)) (oNone))) (sNil))
  (sRet (eC (.str ""))))
theorem ending_ok (x : Str) (hl : x.length ≤ 16777216) (h : CH) : callP 1 (fnD 2 endingB) [.str x] h = .ok (.str (endg x)) h := by
  refine callP_ok rfl (?_ : fnD 2 endingB [.str x] [] = .ok (.str (endg x)) []) (fz_nr rfl)
  obtain ⟨d, h', e, rfl, rfl⟩ := Good.fn (N := 2) (body := endingB) (ds := [.str x]) (h := []) (ρ := [some (.str x), none]) (T := fun d h' => d = .str (endg x) ∧ h' = []) (by
    unfold endingB endg
    refine Good.seq (Good.nx (ρ := [some (.str x), some (.int (Txt.rfind x dot))]) (h := []) (by (simp only [sSeq, sIf, sB, sE, sAsg, sRet, sRetN, sNil, sExpr, sBrk, sCnt, gN, gT, gsC, gsN, FK.e1, FK.e2, eC, eVar, eCall, aNil, aCons, M.bind, M.pure, eTup, eLst, eNew, eSl, oNone, oSome, bT, bNot, bAnd, bOr, eAnd, eOr, eNot, eIf, eCh, truth, eMs, eMl, dAdd, dSub, dMul, dFdiv, dMod, dLe, dLt, dGe, dGt, dEq, dNe, dIs, dIsnt, D.isNon, dIn, dNotIn, dIdx, dSl, dLen, dInt, dOrd_one, dMax2, dMin2, dTuple, dList, dListC, dApp, dNeg, vw, seq, lstOf, fnD, List.map_cons, List.map_nil, List.length_cons, List.length_nil, List.cons_append, List.nil_append, List.append_nil, List.replicate_succ, List.replicate_zero, List.getElem?_cons_zero, List.getElem?_cons_succ, List.set_cons_zero, List.set_cons_succ, Int.cast_ofNat_Int, Nat.reduceBEq, Int.reduceBEq, Nat.reduceAdd, Nat.reduceSub, Nat.reduceLT, Nat.reduceLeDiff, Nat.zero_add, Nat.add_zero, Nat.sub_zero, Nat.sub_self, ↓reduceIte, if_true, if_false, Bool.not_true, Bool.not_false, Bool.false_eq_true, Bool.true_eq_false, decide_true, decide_false, decide_not, true_and, and_true, and_self, true_or, or_true, not_true_eq_false, not_false_eq_true, ne_eq, reduceCtorEq, Int.reduceLT, Int.reduceLE, Int.reduceNeg, Int.reduceSub, Int.reduceAdd, Int.reduceMul, Int.reducePow, Int.reduceToNat, sz, D.dat, D.datL, D.dep, D.depL, szl, inb, List.any_cons, List.any_nil, Bool.true_and, Bool.false_and, Bool.and_true, Bool.and_false, Bool.or_false, Bool.false_or, Bool.true_or, Bool.or_true, Nat.max_self, Nat.max_zero, Nat.zero_max, Nat.min_self, Nat.zero_le, Nat.min_zero, Nat.zero_min, forL, forX, iR1, iR2, rng1, rng2, iE, itOf, sFor, bYes, dRfind] <;> rfl)) ?_)
    rcases ldot_rfind x with ⟨h0, e⟩ | ⟨h0, e⟩
    · rw [e]
      have hlt := ldot_lt x h0
      have h1 : (0 : Int) < ldot x := by omega
      by_cases h2 : (x.length : Int) - ldot x ≤ 10
      · refine Good.seq (Good.ifT [] (by simp only [sSeq, sIf, sB, sE, sAsg, sRet, sRetN, sNil, sExpr, sBrk, sCnt, gN, gT, gsC, gsN, FK.e1, FK.e2, eC, eVar, eCall, aNil, aCons, M.bind, M.pure, eTup, eLst, eNew, eSl, oNone, oSome, bT, bNot, bAnd, bOr, eAnd, eOr, eNot, eIf, eCh, truth, eMs, eMl, dAdd, dSub, dMul, dFdiv, dMod, dLe, dLt, dGe, dGt, dEq, dNe, dIs, dIsnt, D.isNon, dIn, dNotIn, dIdx, dSl, dLen, dInt, dOrd_one, dMax2, dMin2, dTuple, dList, dListC, dApp, dNeg, vw, seq, lstOf, fnD, List.map_cons, List.map_nil, List.length_cons, List.length_nil, List.cons_append, List.nil_append, List.append_nil, List.replicate_succ, List.replicate_zero, List.getElem?_cons_zero, List.getElem?_cons_succ, List.set_cons_zero, List.set_cons_succ, Int.cast_ofNat_Int, Nat.reduceBEq, Int.reduceBEq, Nat.reduceAdd, Nat.reduceSub, Nat.reduceLT, Nat.reduceLeDiff, Nat.zero_add, Nat.add_zero, Nat.sub_zero, Nat.sub_self, ↓reduceIte, if_true, if_false, Bool.not_true, Bool.not_false, Bool.false_eq_true, Bool.true_eq_false, decide_true, decide_false, decide_not, true_and, and_true, and_self, true_or, or_true, not_true_eq_false, not_false_eq_true, ne_eq, reduceCtorEq, Int.reduceLT, Int.reduceLE, Int.reduceNeg, Int.reduceSub, Int.reduceAdd, Int.reduceMul, Int.reducePow, Int.reduceToNat, sz, D.dat, D.datL, D.dep, D.depL, szl, inb, List.any_cons, List.any_nil, Bool.true_and, Bool.false_and, Bool.and_true, Bool.and_false, Bool.or_false, Bool.false_or, Bool.true_or, Bool.or_true, Nat.max_self, Nat.max_zero, Nat.zero_max, Nat.min_self, Nat.zero_le, Nat.min_zero, Nat.zero_min, forL, forX, iR1, iR2, rng1, rng2, iE, itOf, sFor, bYes, hl, decide_eq_true h1, decide_eq_true h2, gt_iff_lt]) (Good.rt (d := .str (cutS x (some (ldot x : Int)) none)) (ρ := [some (.str x), some (.int (ldot x))]) (h := []) (by simp only [sSeq, sIf, sB, sE, sAsg, sRet, sRetN, sNil, sExpr, sBrk, sCnt, gN, gT, gsC, gsN, FK.e1, FK.e2, eC, eVar, eCall, aNil, aCons, M.bind, M.pure, eTup, eLst, eNew, eSl, oNone, oSome, bT, bNot, bAnd, bOr, eAnd, eOr, eNot, eIf, eCh, truth, eMs, eMl, dAdd, dSub, dMul, dFdiv, dMod, dLe, dLt, dGe, dGt, dEq, dNe, dIs, dIsnt, D.isNon, dIn, dNotIn, dIdx, dSl, dLen, dInt, dOrd_one, dMax2, dMin2, dTuple, dList, dListC, dApp, dNeg, vw, seq, lstOf, fnD, List.map_cons, List.map_nil, List.length_cons, List.length_nil, List.cons_append, List.nil_append, List.append_nil, List.replicate_succ, List.replicate_zero, List.getElem?_cons_zero, List.getElem?_cons_succ, List.set_cons_zero, List.set_cons_succ, Int.cast_ofNat_Int, Nat.reduceBEq, Int.reduceBEq, Nat.reduceAdd, Nat.reduceSub, Nat.reduceLT, Nat.reduceLeDiff, Nat.zero_add, Nat.add_zero, Nat.sub_zero, Nat.sub_self, ↓reduceIte, if_true, if_false, Bool.not_true, Bool.not_false, Bool.false_eq_true, Bool.true_eq_false, decide_true, decide_false, decide_not, true_and, and_true, and_self, true_or, or_true, not_true_eq_false, not_false_eq_true, ne_eq, reduceCtorEq, Int.reduceLT, Int.reduceLE, Int.reduceNeg, Int.reduceSub, Int.reduceAdd, Int.reduceMul, Int.reducePow, Int.reduceToNat, sz, D.dat, D.datL, D.dep, D.depL, szl, inb, List.any_cons, List.any_nil, Bool.true_and, Bool.false_and, Bool.and_true, Bool.and_false, Bool.or_false, Bool.false_or, Bool.true_or, Bool.or_true, Nat.max_self, Nat.max_zero, Nat.zero_max, Nat.min_self, Nat.zero_le, Nat.min_zero, Nat.zero_min, forL, forX, iR1, iR2, rng1, rng2, iE, itOf, sFor, bYes, hl]) ⟨by rw [if_pos ⟨h0, by omega⟩], rfl⟩))
      · refine Good.seq (Good.ifF [] (by simp only [sSeq, sIf, sB, sE, sAsg, sRet, sRetN, sNil, sExpr, sBrk, sCnt, gN, gT, gsC, gsN, FK.e1, FK.e2, eC, eVar, eCall, aNil, aCons, M.bind, M.pure, eTup, eLst, eNew, eSl, oNone, oSome, bT, bNot, bAnd, bOr, eAnd, eOr, eNot, eIf, eCh, truth, eMs, eMl, dAdd, dSub, dMul, dFdiv, dMod, dLe, dLt, dGe, dGt, dEq, dNe, dIs, dIsnt, D.isNon, dIn, dNotIn, dIdx, dSl, dLen, dInt, dOrd_one, dMax2, dMin2, dTuple, dList, dListC, dApp, dNeg, vw, seq, lstOf, fnD, List.map_cons, List.map_nil, List.length_cons, List.length_nil, List.cons_append, List.nil_append, List.append_nil, List.replicate_succ, List.replicate_zero, List.getElem?_cons_zero, List.getElem?_cons_succ, List.set_cons_zero, List.set_cons_succ, Int.cast_ofNat_Int, Nat.reduceBEq, Int.reduceBEq, Nat.reduceAdd, Nat.reduceSub, Nat.reduceLT, Nat.reduceLeDiff, Nat.zero_add, Nat.add_zero, Nat.sub_zero, Nat.sub_self, ↓reduceIte, if_true, if_false, Bool.not_true, Bool.not_false, Bool.false_eq_true, Bool.true_eq_false, decide_true, decide_false, decide_not, true_and, and_true, and_self, true_or, or_true, not_true_eq_false, not_false_eq_true, ne_eq, reduceCtorEq, Int.reduceLT, Int.reduceLE, Int.reduceNeg, Int.reduceSub, Int.reduceAdd, Int.reduceMul, Int.reducePow, Int.reduceToNat, sz, D.dat, D.datL, D.dep, D.depL, szl, inb, List.any_cons, List.any_nil, Bool.true_and, Bool.false_and, Bool.and_true, Bool.and_false, Bool.or_false, Bool.false_or, Bool.true_or, Bool.or_true, Nat.max_self, Nat.max_zero, Nat.zero_max, Nat.min_self, Nat.zero_le, Nat.min_zero, Nat.zero_min, forL, forX, iR1, iR2, rng1, rng2, iE, itOf, sFor, bYes, hl, decide_eq_true h1, decide_eq_false h2, gt_iff_lt]) (Good.nx rfl (Good.rt rfl ⟨by rw [if_neg (by omega)], rfl⟩)))
    · have h1 : ¬ (0 : Int) < Txt.rfind x dot := by omega
      refine Good.seq (Good.ifF [] (by simp only [sSeq, sIf, sB, sE, sAsg, sRet, sRetN, sNil, sExpr, sBrk, sCnt, gN, gT, gsC, gsN, FK.e1, FK.e2, eC, eVar, eCall, aNil, aCons, M.bind, M.pure, eTup, eLst, eNew, eSl, oNone, oSome, bT, bNot, bAnd, bOr, eAnd, eOr, eNot, eIf, eCh, truth, eMs, eMl, dAdd, dSub, dMul, dFdiv, dMod, dLe, dLt, dGe, dGt, dEq, dNe, dIs, dIsnt, D.isNon, dIn, dNotIn, dIdx, dSl, dLen, dInt, dOrd_one, dMax2, dMin2, dTuple, dList, dListC, dApp, dNeg, vw, seq, lstOf, fnD, List.map_cons, List.map_nil, List.length_cons, List.length_nil, List.cons_append, List.nil_append, List.append_nil, List.replicate_succ, List.replicate_zero, List.getElem?_cons_zero, List.getElem?_cons_succ, List.set_cons_zero, List.set_cons_succ, Int.cast_ofNat_Int, Nat.reduceBEq, Int.reduceBEq, Nat.reduceAdd, Nat.reduceSub, Nat.reduceLT, Nat.reduceLeDiff, Nat.zero_add, Nat.add_zero, Nat.sub_zero, Nat.sub_self, ↓reduceIte, if_true, if_false, Bool.not_true, Bool.not_false, Bool.false_eq_true, Bool.true_eq_false, decide_true, decide_false, decide_not, true_and, and_true, and_self, true_or, or_true, not_true_eq_false, not_false_eq_true, ne_eq, reduceCtorEq, Int.reduceLT, Int.reduceLE, Int.reduceNeg, Int.reduceSub, Int.reduceAdd, Int.reduceMul, Int.reducePow, Int.reduceToNat, sz, D.dat, D.datL, D.dep, D.depL, szl, inb, List.any_cons, List.any_nil, Bool.true_and, Bool.false_and, Bool.and_true, Bool.and_false, Bool.or_false, Bool.false_or, Bool.true_or, Bool.or_true, Nat.max_self, Nat.max_zero, Nat.zero_max, Nat.min_self, Nat.zero_le, Nat.min_zero, Nat.zero_min, forL, forX, iR1, iR2, rng1, rng2, iE, itOf, sFor, bYes, hl, decide_eq_false h1, gt_iff_lt]) (Good.nx rfl (Good.rt rfl ⟨by rw [if_neg (by omega)], rfl⟩))))
  exact e
noncomputable def stemB : SD := sRet (eSl (eVar 0) (oNone) (oSome (e2 dSub (eCall dLen (aCons (eVar 0) (aNil))) (eCall dLen (aCons (eCall (callP 1 (fnD 2 endingB)) (aCons (eVar 0) (aNil))) (aNil))))))
noncomputable def stm (x : Str) : Str := cutS x none (some ((x.length - (endg x).length : Nat) : Int))
theorem stm_tx (x : Str) : tx (stm x) = (tx x).take (x.length - (endg x).length) := by
  unfold stm
  rw [tx_cut, HT.sIx_nat, Nat.min_eq_left (by omega)]
  show List.take (x.length - (endg x).length - 0) ((tx x).drop 0) = _
  rw [Nat.sub_zero, List.drop_zero]
theorem stm_len (x : Str) : (stm x).length = x.length - (endg x).length := by rw [← tx_len, stm_tx, List.length_take, tx_len]; omega
theorem stm_end (x : Str) : stm x ++ endg x = x := tx_ext (by
  have h := (endg_tx x).1
  rw [tx_app, stm_tx]
  conv => lhs; rhs; rw [h]
  exact List.take_append_drop _ _)
theorem stem_ok (x : Str) (hl : x.length ≤ 16777216) (h : CH) : callP 1 (fnD 1 stemB) [.str x] h = .ok (.str (stm x)) h := by
  refine callP_ok rfl (fnD_rt (ρ := [some (.str x)]) (ρ' := [some (.str x)]) (d := .str (stm x)) (h' := []) ?_) (fz_nr rfl)
  unfold stemB
  have e := ending_ok x hl []
  have h2 := endg_tx x
  have hle : (endg x).length ≤ 16777216 := by omega
  have hc : (x.length : Int) - (endg x).length = ((x.length - (endg x).length : Nat) : Int) := by omega
  simp only [sSeq, sIf, sB, sE, sAsg, sRet, sRetN, sNil, sExpr, sBrk, sCnt, gN, gT, gsC, gsN, FK.e1, FK.e2, eC, eVar, eCall, aNil, aCons, M.bind, M.pure, eTup, eLst, eNew, eSl, oNone, oSome, bT, bNot, bAnd, bOr, eAnd, eOr, eNot, eIf, eCh, truth, eMs, eMl, dAdd, dSub, dMul, dFdiv, dMod, dLe, dLt, dGe, dGt, dEq, dNe, dIs, dIsnt, D.isNon, dIn, dNotIn, dIdx, dSl, dLen, dInt, dOrd_one, dMax2, dMin2, dTuple, dList, dListC, dApp, dNeg, vw, seq, lstOf, fnD, List.map_cons, List.map_nil, List.length_cons, List.length_nil, List.cons_append, List.nil_append, List.append_nil, List.replicate_succ, List.replicate_zero, List.getElem?_cons_zero, List.getElem?_cons_succ, List.set_cons_zero, List.set_cons_succ, Int.cast_ofNat_Int, Nat.reduceBEq, Int.reduceBEq, Nat.reduceAdd, Nat.reduceSub, Nat.reduceLT, Nat.reduceLeDiff, Nat.zero_add, Nat.add_zero, Nat.sub_zero, Nat.sub_self, ↓reduceIte, if_true, if_false, Bool.not_true, Bool.not_false, Bool.false_eq_true, Bool.true_eq_false, decide_true, decide_false, decide_not, true_and, and_true, and_self, true_or, or_true, not_true_eq_false, not_false_eq_true, ne_eq, reduceCtorEq, Int.reduceLT, Int.reduceLE, Int.reduceNeg, Int.reduceSub, Int.reduceAdd, Int.reduceMul, Int.reducePow, Int.reduceToNat, sz, D.dat, D.datL, D.dep, D.depL, szl, inb, List.any_cons, List.any_nil, Bool.true_and, Bool.false_and, Bool.and_true, Bool.and_false, Bool.or_false, Bool.false_or, Bool.true_or, Bool.or_true, Nat.max_self, Nat.max_zero, Nat.zero_max, Nat.min_self, Nat.zero_le, Nat.min_zero, Nat.zero_min, forL, forX, iR1, iR2, rng1, rng2, iE, itOf, sFor, bYes, e, hl, hle, hc]
  rfl
noncomputable def withB : SD := sSeq (sAsg (e2 dSub (e2 dSub (eVar 0) (eCall dLen (aCons (eVar 2) (aNil)))) (eCall dLen (aCons (eCall (callP 1 (fnD 2 endingB)) (aCons (eVar 1) (aNil))) (aNil)))) (gN 3))
  (sRet (e2 dAdd (e2 dAdd (eSl (eCall (callP 1 (fnD 1 stemB)) (aCons (eVar 1) (aNil))) (oNone) (oSome (eVar 3))) (eVar 2)) (eCall (callP 1 (fnD 2 endingB)) (aCons (eVar 1) (aNil)))))
/-- a name with a word in it, of at most L signs -/
noncomputable def withW (L : Nat) (x w : Str) : Str := cutS (stm x) none (some ((L - w.length - (endg x).length : Nat) : Int)) ++ w ++ endg x
theorem withW_tx (L : Nat) (x w : Str) : tx (withW L x w) = (tx x).take (min (x.length - (endg x).length) (L - w.length - (endg x).length)) ++ tx w ++ tx (endg x) := by
  unfold withW
  rw [tx_app, tx_app, tx_cut, HT.sIx_nat, stm_len]
  show List.take (_ - 0) ((tx (stm x)).drop 0) ++ _ ++ _ = _
  rw [Nat.sub_zero, List.drop_zero, stm_tx, List.take_take, Nat.min_comm (min _ _), Nat.min_comm (L - w.length - (endg x).length)]
  congr 3
  omega
theorem withW_len (L : Nat) (x w : Str) (hw : w.length + (endg x).length ≤ L) : (withW L x w).length ≤ L := by
  rw [← tx_len, withW_tx, List.length_append, List.length_append, List.length_take, tx_len, tx_len, tx_len]
  omega
theorem with_ok (L : Nat) (x w : Str) (hl : x.length ≤ 10000000) (hw : w.length + 10 ≤ L) (hL : L ≤ 1000) (h : CH) : callP 3 (fnD 4 withB) [.int L, .str x, .str w] h = .ok (.str (withW L x w)) h := by
  have h2 := endg_tx x
  have hl2 : x.length ≤ 16777216 := by omega
  have e1 := ending_ok x hl2 []
  have e2 := stem_ok x hl2 []
  have hle : (endg x).length ≤ 16777216 := by omega
  have hls : (stm x).length ≤ 16777216 := by rw [stm_len]; omega
  have hlw : w.length ≤ 16777216 := by omega
  have hc : (L : Int) - w.length - (endg x).length = ((L - w.length - (endg x).length : Nat) : Int) := by omega
  have hlc : (cutS (stm x) none (some ((L - w.length - (endg x).length : Nat) : Int))).length + w.length ≤ 16777216 := by
    rw [len_cut_to]; omega
  have hlc2 : (cutS (stm x) none (some ((L - w.length - (endg x).length : Nat) : Int)) ++ w).length + (endg x).length ≤ 16777216 := by
    rw [PySem.Str.length_append, len_cut_to]; omega
  refine callP_ok rfl (fnD_rt (ρ := [some (.int L), some (.str x), some (.str w), none]) (ρ' := [some (.int L), some (.str x), some (.str w), some (.int ((L - w.length - (endg x).length : Nat) : Int))]) (d := .str (withW L x w)) (h' := []) ?_) (fz_nr rfl)
  unfold withB
  simp only [sSeq, sIf, sB, sE, sAsg, sRet, sRetN, sNil, sExpr, sBrk, sCnt, gN, gT, gsC, gsN, FK.e1, FK.e2, eC, eVar, eCall, aNil, aCons, M.bind, M.pure, eTup, eLst, eNew, eSl, oNone, oSome, bT, bNot, bAnd, bOr, eAnd, eOr, eNot, eIf, eCh, truth, eMs, eMl, dAdd, dSub, dMul, dFdiv, dMod, dLe, dLt, dGe, dGt, dEq, dNe, dIs, dIsnt, D.isNon, dIn, dNotIn, dIdx, dSl, dLen, dInt, dOrd_one, dMax2, dMin2, dTuple, dList, dListC, dApp, dNeg, vw, seq, lstOf, fnD, List.map_cons, List.map_nil, List.length_cons, List.length_nil, List.cons_append, List.nil_append, List.append_nil, List.replicate_succ, List.replicate_zero, List.getElem?_cons_zero, List.getElem?_cons_succ, List.set_cons_zero, List.set_cons_succ, Int.cast_ofNat_Int, Nat.reduceBEq, Int.reduceBEq, Nat.reduceAdd, Nat.reduceSub, Nat.reduceLT, Nat.reduceLeDiff, Nat.zero_add, Nat.add_zero, Nat.sub_zero, Nat.sub_self, ↓reduceIte, if_true, if_false, Bool.not_true, Bool.not_false, Bool.false_eq_true, Bool.true_eq_false, decide_true, decide_false, decide_not, true_and, and_true, and_self, true_or, or_true, not_true_eq_false, not_false_eq_true, ne_eq, reduceCtorEq, Int.reduceLT, Int.reduceLE, Int.reduceNeg, Int.reduceSub, Int.reduceAdd, Int.reduceMul, Int.reducePow, Int.reduceToNat, sz, D.dat, D.datL, D.dep, D.depL, szl, inb, List.any_cons, List.any_nil, Bool.true_and, Bool.false_and, Bool.and_true, Bool.and_false, Bool.or_false, Bool.false_or, Bool.true_or, Bool.or_true, Nat.max_self, Nat.max_zero, Nat.zero_max, Nat.min_self, Nat.zero_le, Nat.min_zero, Nat.zero_min, forL, forX, iR1, iR2, rng1, rng2, iE, itOf, sFor, bYes, e1, e2, hl2, hle, hls, hlw, hc, hlc, hlc2]
  rfl
/-! words -/
def numT (n : Nat) : Str := toString ((n : Nat) : Int)
theorem numT_tx (n : Nat) : tx (numT n) = TL.numL n := TL.tl_num n
theorem numT_len {n k : Nat} (hk : 0 < k) (h : n < 10 ^ k) : (numT n).length ≤ k := by
  rw [← tx_len, numT_tx]
  exact TL.numL_len hk h
theorem log2_lt (n : Nat) (h : n < 2 ^ 64) : ((n : Nat) : Int).natAbs.log2 < 1920 := by
  rw [Int.natAbs_natCast]
  rcases Nat.eq_zero_or_pos n with rfl | h0
  · decide
  · have : n.log2 < 64 := (Nat.log2_lt (by omega)).mpr h
    omega
theorem dStr_nat (n : Nat) (h : n < 2 ^ 64) (c : CH) : dStr [.int n] c = .ok (.str (numT n)) c := if_pos (log2_lt n h)
def wordN (k : Nat) : Str := Str.ofString " " ++ numT k
noncomputable def numbB : SD := sSeq (sIf (bT (e2 dEq (eVar 2) (eC (.int 0)))) (sRet (eVar 1)) (sNil))
  (sRet (eCall (callP 3 (fnD 4 withB)) (aCons (eVar 0) (aCons (eVar 1) (aCons (e2 dAdd (eC (.str " ")) (eCall dStr (aCons (eVar 2) (aNil)))) (aNil))))))
theorem numbS_ok (L : Nat) (x : Str) (k : Nat) (hl : x.length ≤ 10000) (hL : L ≤ 1000) (hL2 : 48 ≤ L) (hk : k + 1 < 10 ^ 5) (h : CH) :
    callP 3 (fnD 3 numbB) [.int L, .str x, .int (k + 1)] h = .ok (.str (withW L x (wordN (k + 1)))) h ∧ (wordN (k + 1)).length + 10 ≤ L := by
  have l4 : (Str.ofString " ").length = 1 := by decide
  have tk := numT_len (k := 5) (by omega) hk
  have sk := dStr_nat (k + 1) (by omega) []
  rw [show ((k + 1 : Nat) : Int) = (k : Int) + 1 by omega] at sk
  have wl : (wordN (k + 1)).length + 10 ≤ L := by
    unfold wordN
    simp only [PySem.Str.length_append, l4]
    omega
  refine ⟨?_, wl⟩
  have e := with_ok L x (wordN (k + 1)) (by omega) wl hL []
  replace e : callP 3 (fnD 4 withB) [.int L, .str x, .str (Str.ofString " " ++ numT (k + 1))] [] = .ok (.str (withW L x (wordN (k + 1)))) [] := e
  have z : 1 + (numT (k + 1)).length ≤ 16777216 := by omega
  have q : ((k : Int) + 1 == 0) = false := by
    rw [beq_eq_false_iff_ne]; omega
  refine callP_ok rfl (fnD_rt (ρ := [some (.int L), some (.str x), some (.int (k + 1))]) (ρ' := [some (.int L), some (.str x), some (.int (k + 1))]) (d := .str (withW L x (wordN (k + 1)))) (h' := []) ?_) (fz_nr rfl)
  unfold numbB
  refine seq_eq (ρ1 := [some (.int L), some (.str x), some (.int (k + 1))]) (h1 := []) ?_ ?_
  · simp only [sSeq, sIf, sB, sE, sAsg, sRet, sRetN, sNil, sExpr, sBrk, sCnt, gN, gT, gsC, gsN, FK.e1, FK.e2, eC, eVar, eCall, aNil, aCons, M.bind, M.pure, eTup, eLst, eNew, eSl, oNone, oSome, bT, bNot, bAnd, bOr, eAnd, eOr, eNot, eIf, eCh, truth, eMs, eMl, dAdd, dSub, dMul, dFdiv, dMod, dLe, dLt, dGe, dGt, dEq, dNe, dIs, dIsnt, D.isNon, dIn, dNotIn, dIdx, dSl, dLen, dInt, dOrd_one, dMax2, dMin2, dTuple, dList, dListC, dApp, dNeg, vw, seq, lstOf, fnD, List.map_cons, List.map_nil, List.length_cons, List.length_nil, List.cons_append, List.nil_append, List.append_nil, List.replicate_succ, List.replicate_zero, List.getElem?_cons_zero, List.getElem?_cons_succ, List.set_cons_zero, List.set_cons_succ, Int.cast_ofNat_Int, Nat.reduceBEq, Int.reduceBEq, Nat.reduceAdd, Nat.reduceSub, Nat.reduceLT, Nat.reduceLeDiff, Nat.zero_add, Nat.add_zero, Nat.sub_zero, Nat.sub_self, ↓reduceIte, if_true, if_false, Bool.not_true, Bool.not_false, Bool.false_eq_true, Bool.true_eq_false, decide_true, decide_false, decide_not, true_and, and_true, and_self, true_or, or_true, not_true_eq_false, not_false_eq_true, ne_eq, reduceCtorEq, Int.reduceLT, Int.reduceLE, Int.reduceNeg, Int.reduceSub, Int.reduceAdd, Int.reduceMul, Int.reducePow, Int.reduceToNat, sz, D.dat, D.datL, D.dep, D.depL, szl, inb, List.any_cons, List.any_nil, Bool.true_and, Bool.false_and, Bool.and_true, Bool.and_false, Bool.or_false, Bool.false_or, Bool.true_or, Bool.or_true, Nat.max_self, Nat.max_zero, Nat.zero_max, Nat.min_self, Nat.zero_le, Nat.min_zero, Nat.zero_min, forL, forX, iR1, iR2, rng1, rng2, iE, itOf, sFor, bYes, D.eqb, D.py, PyData.eqv, q]
  · simp only [sSeq, sIf, sB, sE, sAsg, sRet, sRetN, sNil, sExpr, sBrk, sCnt, gN, gT, gsC, gsN, FK.e1, FK.e2, eC, eVar, eCall, aNil, aCons, M.bind, M.pure, eTup, eLst, eNew, eSl, oNone, oSome, bT, bNot, bAnd, bOr, eAnd, eOr, eNot, eIf, eCh, truth, eMs, eMl, dAdd, dSub, dMul, dFdiv, dMod, dLe, dLt, dGe, dGt, dEq, dNe, dIs, dIsnt, D.isNon, dIn, dNotIn, dIdx, dSl, dLen, dInt, dOrd_one, dMax2, dMin2, dTuple, dList, dListC, dApp, dNeg, vw, seq, lstOf, fnD, List.map_cons, List.map_nil, List.length_cons, List.length_nil, List.cons_append, List.nil_append, List.append_nil, List.replicate_succ, List.replicate_zero, List.getElem?_cons_zero, List.getElem?_cons_succ, List.set_cons_zero, List.set_cons_succ, Int.cast_ofNat_Int, Nat.reduceBEq, Int.reduceBEq, Nat.reduceAdd, Nat.reduceSub, Nat.reduceLT, Nat.reduceLeDiff, Nat.zero_add, Nat.add_zero, Nat.sub_zero, Nat.sub_self, ↓reduceIte, if_true, if_false, Bool.not_true, Bool.not_false, Bool.false_eq_true, Bool.true_eq_false, decide_true, decide_false, decide_not, true_and, and_true, and_self, true_or, or_true, not_true_eq_false, not_false_eq_true, ne_eq, reduceCtorEq, Int.reduceLT, Int.reduceLE, Int.reduceNeg, Int.reduceSub, Int.reduceAdd, Int.reduceMul, Int.reducePow, Int.reduceToNat, sz, D.dat, D.datL, D.dep, D.depL, szl, inb, List.any_cons, List.any_nil, Bool.true_and, Bool.false_and, Bool.and_true, Bool.and_false, Bool.or_false, Bool.false_or, Bool.true_or, Bool.or_true, Nat.max_self, Nat.max_zero, Nat.zero_max, Nat.min_self, Nat.zero_le, Nat.min_zero, Nat.zero_min, forL, forX, iR1, iR2, rng1, rng2, iE, itOf, sFor, bYes, sk, l4, z, e]
theorem numbS0_ok (L : Nat) (x : Str) (h : CH) : callP 3 (fnD 3 numbB) [.int L, .str x, .int 0] h = .ok (.str x) h := by
  refine callP_ok rfl (fnD_rt (ρ := [some (.int L), some (.str x), some (.int 0)]) (ρ' := [some (.int L), some (.str x), some (.int 0)]) (d := .str x) (h' := []) ?_) (fz_nr rfl)
  rfl
end FK

/-! part: FKU -/
set_option linter.all false
set_option maxRecDepth 100000
set_option maxHeartbeats 4000000
namespace FK
open PySem PySem.Spec L2
/-! FKU: rules (instances of Rule), callees that are handed instances. -/
theorem get_last (h : CH) (c : Cell) : (h ++ [c])[h.length]? = some c := by simp
theorem set_last (h : CH) (c d : Cell) : (h ++ [c]).set h.length d = h ++ [d] := by simp
theorem callP_fz {n : Nat} {F : FD} {ds es : List D} {h h' : CH} {d : D} (hn : D.nrL ds = false) (hm : mapO (fz h) ds = some es) (e : F es [] = .ok d h') (hf : d.flat = true) (hl : ds.length = n := by rfl) : callP n F ds h = .ok d h := by
  unfold callP
  rw [if_pos hl, if_neg (by rw [hn]; decide), hm]
  dsimp only
  rw [e]
  dsimp only
  rw [if_pos hf]
noncomputable def ruleB : SD := sSeq (sFldS ["Rule"] "alike" (eVar 0) (eVar 1))
  (sSeq (sFldS ["Rule"] "unfit" (eVar 0) (eVar 2))
  (sSeq (sFldS ["Rule"] "longest" (eVar 0) (eVar 3))
  (sSeq (sFldS ["Rule"] "swaps" (eVar 0) (eVar 4))
  (sSeq (sFldS ["Rule"] "reads" (eVar 0) (eVar 5))
  (sSeq (sFldS ["Rule"] "cuts" (eVar 0) (eVar 6))
  (sFldS ["Rule"] "turns" (eVar 0) (eVar 7)))))))
abbrev ruleNs : List Str := ["alike", "unfit", "longest", "swaps", "reads", "cuts", "turns"]
theorem fld_step {cs : List Str} {f : Str} {eo ev : ED} {ρ : Env} {h : CH} {c : Str} {ns : List Str} {xs : List D} {d : D} {c' : Cell} (e1 : ev ρ (h ++ [.ins c ns xs]) = .ok d (h ++ [.ins c ns xs])) (e2 : eo ρ (h ++ [.ins c ns xs]) = .ok (.ref h.length) (h ++ [.ins c ns xs]))
    (hc : c ∈ cs) (hn : ns.length < 1000) (hp : Cell.ins c (putNs f ns) (putXs f d ns xs) = c') : sFldS cs f eo ev ρ (h ++ [.ins c ns xs]) = .ok .nx ρ (h ++ [c']) := by
  subst hp
  unfold sFldS sE
  rw [e1]
  dsimp only
  rw [e2]
  dsimp only
  rw [get_last]
  dsimp only
  rw [if_pos ⟨hc, hn⟩, set_last]
theorem rule_mk (h : CH) (a b c d e f g : D) : fnD 8 ruleB [.ref h.length, a, b, c, d, e, f, g] (h ++ [.ins "Rule" [] []]) = .ok .non (h ++ [.ins "Rule" ruleNs [a, b, c, d, e, f, g]]) := by
  refine fnD_nx (ρ := [some (.ref h.length), some a, some b, some c, some d, some e, some f, some g]) (ρ' := [some (.ref h.length), some a, some b, some c, some d, some e, some f, some g]) ?_
  unfold ruleB
  refine seq_eq (fld_step rfl rfl (by decide) (by decide) rfl) ?_
  refine seq_eq (fld_step rfl rfl (by decide) (by decide) rfl) ?_
  refine seq_eq (fld_step rfl rfl (by decide) (by decide) rfl) ?_
  refine seq_eq (fld_step rfl rfl (by decide) (by decide) rfl) ?_
  refine seq_eq (fld_step rfl rfl (by decide) (by decide) rfl) ?_
  refine seq_eq (fld_step rfl rfl (by decide) (by decide) rfl) ?_
  exact fld_step rfl rfl (by decide) (by decide) (by rfl)
theorem fz_ins {h : CH} {k : Nat} {c : Str} {ns : List Str} {xs : List D} (e : h[k]? = some (.ins c ns xs)) (n : D.nrL xs = true) : fz h (.ref k) = some (.obj c ns xs) := by
  unfold fz fzF
  rw [if_neg (by simp [D.nr])]
  dsimp only
  rw [e]
  dsimp only
  rw [mapO_id fun x hx => fzF_nr (nrL_iff.mp n x hx)]
  rfl
abbrev ruleX (a b : D) (L : Int) : List D := [a, b, .int L, .bl true, .bl true, .bl true, .bl true]
theorem rule_new (h : CH) (L : Int) : mkO "Rule" (arrG [0, 1, 2, 7, 3, 4, 5, 6] 0 [.tup [], .tup [], .bl true, .bl true, .bl true, .bl true]) (fnD 8 ruleB) [.int L] h = .ok (.ref h.length) (h ++ [.ins "Rule" ruleNs (ruleX (.tup []) (.tup []) L)]) := by
  unfold mkO
  show (match fnD 8 ruleB [.ref h.length, .tup [], .tup [], .int L, .bl true, .bl true, .bl true, .bl true] (h ++ [.ins "Rule" [] []]) with | .ok .non h' => R.ok (D.ref h.length) h' | _ => .bad) = _
  rw [rule_mk]
theorem flat_strs : ∀ zs : List Str, D.flatL (zs.map D.str) = true
  | [] => rfl
  | z :: zs => flat_strs zs
end FK

/-! part: FKG -/
set_option linter.all false
set_option maxRecDepth 100000
set_option maxHeartbeats 4000000
namespace FK
open PySem PySem.Spec L2
/-! FKG: loops that look for something, loops that build a list; ids, paths. -/
theorem set_set {ρ : Env} {v : Nat} {a b : Option D} : (ρ.set v a).set v b = ρ.set v b := by simp
def lastV {X : Type} (en : X → D) (xs : List X) (o : Option D) : Option D := match xs.getLast? with
  | some x => some (en x)
  | none => o
theorem lastV_cons {X : Type} {en : X → D} {x : X} {xs : List X} {o : Option D} : lastV en (x :: xs) o = lastV en xs (some (en x)) := by
  unfold lastV
  cases xs with
  | nil => rfl
  | cons y ys => rw [List.getLast?_cons_cons]; simp [List.getLast?_cons]
theorem set_old {ρ : Env} {v : Nat} {o : Option D} (e : ρ[v]? = some o) : ρ.set v o = ρ := by
  obtain ⟨h, rfl⟩ := List.getElem?_eq_some_iff.mp e
  exact List.set_getElem_self h
/-- a loop that returns at the first item with p -/
theorem find_eq {X : Type} {en : X → D} {p : X → Bool} {val : X → D} {c : BD} {r : ED} {v : Nat} {h : CH} {o : Option Nat} {all : List D} (hg : gd o all h) : ∀ (xs : List X) {ρ : Env} {u : Option D}, ρ[v]? = some u →
    (∀ x ∈ xs, c (ρ.set v (some (en x))) h = .ok (p x) h) → (∀ x ∈ xs, p x = true → r (ρ.set v (some (en x))) h = .ok (val x) h) →
    forX o all (gN v) (sIf c (sRet r) sNil) (xs.map en) ρ h = (match xs.find? p with
      | some x => .ok (.rt (val x)) (ρ.set v (some (en x))) h
      | none => .ok .nx (ρ.set v (lastV en xs u)) h)
  | [], ρ, u, hu, _, _ => by
    rw [List.map_nil, List.find?_nil]
    show _ = RS.ok .nx (ρ.set v u) h
    rw [set_old hu]
    cases o with
    | none => rfl
    | some n => exact if_pos hg
  | x :: xs, ρ, u, hu, hc, hr => by
    have hv : v < ρ.length := (List.getElem?_eq_some_iff.mp hu).1
    have ih := find_eq (en := en) (p := p) (val := val) (c := c) (r := r) (v := v) hg xs (ρ := ρ.set v (some (en x))) (u := some (en x)) (by simp [hv]) (fun y hy => by rw [set_set]; exact hc y (List.mem_cons_of_mem _ hy)) (fun y hy q => by rw [set_set]; exact hr y (List.mem_cons_of_mem _ hy) q)
    simp only [set_set] at ih
    have e1 := hc x List.mem_cons_self
    have body : sIf c (sRet r) sNil (ρ.set v (some (en x))) h = if p x = true then .ok (.rt (val x)) (ρ.set v (some (en x))) h else .ok .nx (ρ.set v (some (en x))) h := by
      unfold sIf sB
      rw [e1]
      dsimp only
      by_cases q : p x = true
      · rw [if_pos q, if_pos q]
        unfold sRet sE
        rw [hr x List.mem_cons_self q]
      · rw [if_neg q, if_neg q]; rfl
    have step : forX o all (gN v) (sIf c (sRet r) sNil) ((x :: xs).map en) ρ h = (match sIf c (sRet r) sNil (ρ.set v (some (en x))) h with
      | .ok .nx ρ2 h2 => forX o all (gN v) (sIf c (sRet r) sNil) (xs.map en) ρ2 h2
      | .ok .ct ρ2 h2 => forX o all (gN v) (sIf c (sRet r) sNil) (xs.map en) ρ2 h2
      | .ok .bk ρ2 h2 => .ok .nx ρ2 h2
      | r => r) := by
      cases o with
      | none => rfl
      | some n => exact (if_pos hg)
    rw [step, body, List.find?_cons, lastV_cons]
    by_cases q : p x = true
    · rw [if_pos q, q]
    · rw [if_neg q, Bool.eq_false_iff.mpr q]
      exact ih
/-- a loop that builds: with I kept, each turn adds f x to what is built; hh: the heap by what is built -/
theorem build {X : Type} {en : X → D} {f : X → List D} {v : Nat} {g : GD} {body : SD} {hh : List D → CH} {o : Option Nat} {all : List D} {I : Env → Prop} {B : Nat} (hg : ∀ acc, gd o all (hh acc)) :
    ∀ (xs : List X) (acc : List D) (ρ : Env), I ρ → acc.length + (xs.flatMap f).length ≤ B → (∀ x ∈ xs, ∀ ρ acc, I ρ → acc.length + (f x).length ≤ B → ∃ ρ1, g (en x) ρ = some ρ1 ∧ ∃ ρ2, I ρ2 ∧ (body ρ1 (hh acc) = .ok .nx ρ2 (hh (acc ++ f x)) ∨ body ρ1 (hh acc) = .ok .ct ρ2 (hh (acc ++ f x)))) →
    ∃ ρ', I ρ' ∧ forX o all g body (xs.map en) ρ (hh acc) = .ok .nx ρ' (hh (acc ++ xs.flatMap f))
  | [], acc, ρ, hI, _, _ => by
    refine ⟨ρ, hI, ?_⟩
    rw [List.flatMap_nil, List.append_nil]
    cases o with
    | none => rfl
    | some n => exact if_pos (hg acc)
  | x :: xs, acc, ρ, hI, hB, st => by
    rw [List.flatMap_cons, List.length_append] at hB
    obtain ⟨ρ1, e1, ρ2, hI2, e2⟩ := st x List.mem_cons_self ρ acc hI (by omega)
    obtain ⟨ρ', hI', e3⟩ := build (body := body) (g := g) (en := en) (f := f) (v := v) hg xs (acc ++ f x) ρ2 hI2 (by rw [List.length_append]; omega) (fun y hy => st y (List.mem_cons_of_mem _ hy))
    refine ⟨ρ', hI', ?_⟩
    rw [List.flatMap_cons, ← List.append_assoc, ← e3]
    have step : forX o all g body ((x :: xs).map en) ρ (hh acc) = (match body ρ1 (hh acc) with
      | .ok .nx ρ2 h2 => forX o all g body (xs.map en) ρ2 h2
      | .ok .ct ρ2 h2 => forX o all g body (xs.map en) ρ2 h2
      | .ok .bk ρ2 h2 => .ok .nx ρ2 h2
      | r => r) := by
      cases o with
      | none =>
        show forL g body (en x :: xs.map en) ρ (hh acc) = _
        unfold forL
        rw [e1]
        rfl
      | some n =>
        show forC n all g body (en x :: xs.map en) ρ (hh acc) = _
        unfold forC
        rw [if_pos (show (hh acc)[n]? = some (.lst all) from hg acc), e1]
        rfl
    rw [step]
    rcases e2 with e2 | e2 <;> rw [e2]
theorem gd_none {all : List D} {h : CH} : gd none all h := trivial
/-- a list that may be a cell -/
theorem itOf_lst {h : CH} {d : D} {xs : List D} (e : lstOf h d = some xs) : ∃ o, itOf d h = .ok (xs, o) h ∧ gd o xs h := by
  unfold lstOf vw at e
  cases d with
  | ref n =>
    dsimp only at e
    cases q : h[n]? with
    | none => rw [q] at e; cases e
    | some c =>
      rw [q] at e
      cases c with
      | lst ys => cases e; exact ⟨some n, by unfold itOf; dsimp only; rw [q], q⟩
      | _ => cases e
  | lst ys => cases e; exact ⟨none, rfl, trivial⟩
  | _ => cases e
/-! equality of a datum with itself -/
mutual
theorem eqb_self : ∀ d : D, D.eqb d d = true
  | .non => rfl
  | .bl b => by cases b <;> rfl
  | .int i => by show PyData.eqv (.int i) (.int i) = true; simp [PyData.eqv]
  | .str x => eqb_refl x
  | .tup xs => eqb_selfL xs
  | .lst xs => eqb_selfL xs
  | .scr xs => eqb_selfL xs
  | .obj _ _ _ => rfl
  | .ref _ => rfl
theorem eqb_selfL : ∀ ds : List D, PyData.eqvAll (D.pyL ds) (D.pyL ds) = true
  | [] => rfl
  | d :: ds => by
    show (PyData.eqv d.py d.py && PyData.eqvAll (D.pyL ds) (D.pyL ds)) = true
    rw [eqb_selfL ds, show PyData.eqv d.py d.py = true from eqb_self d]
    rfl
end
/-! indices -/
theorem atI_n {α : Type} {xs : List α} {k : Nat} {a : α} (e : xs[k]? = some a) : atI xs (k : Int) = some a := L2.atI_nat e
theorem atI0 {α : Type} {a : α} {l : List α} : atI (a :: l) 0 = some a := L2.atI_nat (j := 0) rfl
theorem atI1 {α : Type} {a b : α} {l : List α} : atI (a :: b :: l) 1 = some b := L2.atI_nat (j := 1) rfl
theorem atI2 {α : Type} {a b c : α} {l : List α} : atI (a :: b :: c :: l) 2 = some c := L2.atI_nat (j := 2) rfl
theorem atI3 {α : Type} {a b c d : α} {l : List α} : atI (a :: b :: c :: d :: l) 3 = some d := L2.atI_nat (j := 3) rfl
theorem atI4 {α : Type} {a b c d e : α} {l : List α} : atI (a :: b :: c :: d :: e :: l) 4 = some e := L2.atI_nat (j := 4) rfl
theorem atI5 {α : Type} {a b c d e f : α} {l : List α} : atI (a :: b :: c :: d :: e :: f :: l) 5 = some f := L2.atI_nat (j := 5) rfl
/-! ids -/
abbrev Id := Int × Int
def encI (i : Id) : D := .tup [.int i.1, .int i.2]
def encO : Option Id → D
  | none => .non
  | some i => encI i
theorem encO_none : encO none = .non := rfl
theorem encO_some (i : Id) : encO (some i) = encI i := rfl
def encP (p : List Str) : D := .tup (p.map .str)
theorem eqb_II (i j : Id) : D.eqb (encI i) (encI j) = decide (i = j) := by
  show (PyData.eqv (.int i.1) (.int j.1) && (PyData.eqv (.int i.2) (.int j.2) && true)) = _
  rw [Bool.and_true]
  obtain ⟨a, b⟩ := i
  obtain ⟨c, d⟩ := j
  by_cases h : a = c <;> by_cases h2 : b = d <;> simp [PyData.eqv, h, h2]
theorem eqb_OO (i j : Option Id) : D.eqb (encO i) (encO j) = decide (i = j) := by
  cases i with
  | none => cases j with
    | none => rfl
    | some j => simp [encO, encI, D.eqb, D.py, PyData.eqv]
  | some i => cases j with
    | none => simp [encO, encI, D.eqb, D.py, PyData.eqv]
    | some j => show D.eqb (encI i) (encI j) = _; rw [eqb_II]; simp
theorem eqb_PP (p q : List Str) : D.eqb (encP p) (encP q) = decide (p = q) := by
  show PyData.eqvAll (D.pyL (p.map .str)) (D.pyL (q.map .str)) = _
  induction p generalizing q with
  | nil => cases q with
    | nil => rfl
    | cons y q => rfl
  | cons x p ih => cases q with
    | nil => rfl
    | cons y q =>
      show (PyData.eqv (.str x) (.str y) && PyData.eqvAll (D.pyL (p.map .str)) (D.pyL (q.map .str))) = _
      rw [ih q]
      have : PyData.eqv (.str x) (.str y) = decide (x = y) := by
        show (x == y) = _
        by_cases h : x = y <;> simp [h]
      rw [this]
      by_cases h : x = y <;> by_cases h2 : p = q <;> simp [h, h2]
theorem dat_I (i : Id) : D.dat (encI i) = true := rfl
theorem dep_I (i : Id) : D.dep (encI i) = 1 := rfl
theorem nr_I (i : Id) : D.nr (encI i) = true := rfl
theorem flat_I (i : Id) : D.flat (encI i) = true := rfl
theorem vw_I (i : Id) (h : CH) : vw h (encI i) = encI i := rfl
theorem isNon_I (i : Id) : D.isNon (encI i) = false := rfl
theorem dat_O (i : Option Id) : D.dat (encO i) = true := by cases i <;> rfl
theorem dep_O (i : Option Id) : D.dep (encO i) ≤ 1 := by
  cases i with
  | none => exact Nat.zero_le _
  | some i => exact Nat.le_refl 1
theorem nr_O (i : Option Id) : D.nr (encO i) = true := by cases i <;> rfl
theorem flat_O (i : Option Id) : D.flat (encO i) = true := by cases i <;> rfl
theorem vw_O (i : Option Id) (h : CH) : vw h (encO i) = encO i := by cases i <;> rfl
theorem isNon_O (i : Option Id) : D.isNon (encO i) = i.isNone := by cases i <;> rfl
theorem dat_P (p : List Str) : D.dat (encP p) = true := datL_strs p
theorem dep_P (p : List Str) : D.dep (encP p) = 1 := by show D.depL (p.map .str) + 1 = 1; rw [depL_strs]
theorem nr_P (p : List Str) : D.nr (encP p) = true := nrL_strs p
theorem flat_P (p : List Str) : D.flat (encP p) = true := flat_strs p
theorem vw_P (p : List Str) (h : CH) : vw h (encP p) = encP p := rfl
theorem dEq_II (i j : Id) (h : CH) : dEq (encI i) (encI j) h = .ok (.bl (decide (i = j))) h := by
  unfold dEq
  rw [vw_I, vw_I, if_pos ⟨rfl, rfl, by rw [dep_I, dep_I]; decide⟩, eqb_II]
theorem dEq_OO (i j : Option Id) (h : CH) : dEq (encO i) (encO j) h = .ok (.bl (decide (i = j))) h := by
  unfold dEq
  rw [vw_O, vw_O, if_pos ⟨dat_O i, dat_O j, by have := dep_O i; omega⟩, eqb_OO]
theorem dEq_OI (i : Option Id) (j : Id) (h : CH) : dEq (encO i) (encI j) h = .ok (.bl (decide (i = some j))) h := dEq_OO i (some j) h
theorem dEq_IO (i : Id) (j : Option Id) (h : CH) : dEq (encI i) (encO j) h = .ok (.bl (decide (some i = j))) h := dEq_OO (some i) j h
theorem dEq_PP (p q : List Str) (h : CH) : dEq (encP p) (encP q) h = .ok (.bl (decide (p = q))) h := by
  unfold dEq
  rw [vw_P, vw_P, if_pos ⟨dat_P p, dat_P q, by rw [dep_P, dep_P]; decide⟩, eqb_PP]
theorem dNe_PP (p q : List Str) (h : CH) : dNe (encP p) (encP q) h = .ok (.bl (!decide (p = q))) h := by
  unfold dNe
  rw [vw_P, vw_P, if_pos ⟨dat_P p, dat_P q, by rw [dep_P, dep_P]; decide⟩, eqb_PP]
theorem dAdd_PP (p q : List Str) (h : CH) (hl : p.length + q.length ≤ 16777216) : dAdd (encP p) (encP q) h = .ok (encP (p ++ q)) h := by
  unfold dAdd encP
  dsimp only
  rw [if_pos (by rw [List.length_map, List.length_map, sz]; exact hl), List.map_append]
theorem inb_I (i : Id) (is : List Id) : inb (encI i) (is.map encI) = decide (i ∈ is) := by
  unfold inb
  induction is with
  | nil => simp
  | cons j is ih =>
    rw [List.map_cons, List.any_cons, ih, eqb_II]
    by_cases h : j = i
    · subst h; simp
    · by_cases h2 : i ∈ is <;> simp [h, h2, Ne.symm h]
theorem datL_I : ∀ is : List Id, D.datL (is.map encI) = true
  | [] => rfl
  | i :: is => datL_I is
theorem depL_I : ∀ is : List Id, D.depL (is.map encI) ≤ 1
  | [] => by decide
  | i :: is => by
    have := depL_I is
    show max 1 (D.depL (is.map encI)) ≤ 1
    omega
theorem nrL_I : ∀ is : List Id, D.nrL (is.map encI) = true
  | [] => rfl
  | i :: is => nrL_I is
theorem flatL_I : ∀ is : List Id, D.flatL (is.map encI) = true
  | [] => rfl
  | i :: is => flatL_I is
/-- tuples of ids -/
def encT (is : List Id) : D := .tup (is.map encI)
theorem dIn_IT (i : Id) (is : List Id) (h : CH) : dIn (encI i) (encT is) h = .ok (.bl (decide (i ∈ is))) h := by
  show (match seq h (.tup (is.map encI)) with | some ys => if (vw h (encI i)).dat = true ∧ D.datL ys = true ∧ (vw h (encI i)).dep ≤ 60 then R.ok (D.bl (inb (vw h (encI i)) ys)) h else .bad | none => .bad) = _
  show (if (vw h (encI i)).dat = true ∧ D.datL (is.map encI) = true ∧ (vw h (encI i)).dep ≤ 60 then R.ok (D.bl (inb (vw h (encI i)) (is.map encI))) h else .bad) = _
  rw [vw_I, if_pos ⟨rfl, datL_I is, by rw [dep_I]; decide⟩, inb_I]
theorem dIn_IL (i : Id) (is : List Id) (h : CH) : dIn (encI i) (.lst (is.map encI)) h = .ok (.bl (decide (i ∈ is))) h := by
  show (if (vw h (encI i)).dat = true ∧ D.datL (is.map encI) = true ∧ (vw h (encI i)).dep ≤ 60 then R.ok (D.bl (inb (vw h (encI i)) (is.map encI))) h else .bad) = _
  rw [vw_I, if_pos ⟨rfl, datL_I is, by rw [dep_I]; decide⟩, inb_I]
theorem dIs_O (i : Option Id) (h : CH) : dIs (encO i) .non h = .ok (.bl i.isNone) h := by cases i <;> rfl
theorem dIsnt_O (i : Option Id) (h : CH) : dIsnt (encO i) .non h = .ok (.bl i.isSome) h := by cases i <;> rfl
theorem nr_T (is : List Id) : D.nr (encT is) = true := nrL_I is
theorem dat_T (is : List Id) : D.dat (encT is) = true := datL_I is
theorem flat_T (is : List Id) : D.flat (encT is) = true := flatL_I is
theorem itOf_T (is : List Id) (h : CH) : itOf (encT is) h = .ok (is.map encI, none) h := rfl
theorem rangeD_nat (n : Nat) : rangeD 0 (n : Int) = (List.range n).map fun (k : Nat) => .int (k : Int) := by
  unfold rangeD
  rw [Int.sub_zero, Int.toNat_natCast]
  congr 1
  funext k
  rw [Int.zero_add]
theorem inR_nat {n : Nat} (h : n ≤ 16777217) : inR (n : Int) := ⟨by omega, by omega⟩
/-! runs of defs -/
theorem Good.fnE {body : SD} {N : Nat} {ds : List D} {h h0 : CH} {d0 : D} {ρ : Env} (p : Good (body ρ h) (fun _ h' => d0 = .non ∧ h' = h0) (fun d h' => d = d0 ∧ h' = h0)) (he : ds.map some ++ List.replicate (N - ds.length) none = ρ := by rfl) : fnD N body ds h = .ok d0 h0 := by
  obtain ⟨d, h', e, rfl, rfl⟩ := Good.fn (T := fun d h' => d = d0 ∧ h' = h0) (Good.cut p fun _ _ ⟨a, b⟩ => ⟨a.symm, b⟩) he
  exact e
theorem Good.find {X : Type} {en : X → D} {p : X → Bool} {val : X → D} {c : BD} {r : ED} {v : Nat} {h h0 : CH} {o : Option Nat} {xs : List X} {ρ : Env} {u : Option D} {it : ITD} {N : Env → CH → Prop} {T : D → CH → Prop} (ei : it ρ h0 = .ok (xs.map en, o) h) (hg : gd o (xs.map en) h) (hu : ρ[v]? = some u)
    (hc : ∀ x ∈ xs, c (ρ.set v (some (en x))) h = .ok (p x) h) (hr : ∀ x ∈ xs, p x = true → r (ρ.set v (some (en x))) h = .ok (val x) h) (hs : ∀ x, xs.find? p = some x → T (val x) h) (hn : xs.find? p = none → N (ρ.set v (lastV en xs u)) h) : Good (FK.sFor it (gN v) (sIf c (sRet r) sNil) ρ h0) N T := by
  unfold FK.sFor
  rw [ei]
  dsimp only
  rw [find_eq (p := p) (val := val) hg xs hu hc hr]
  cases q : xs.find? p with
  | none => exact hn q
  | some x => exact hs x q
theorem Good.build {X : Type} {en : X → D} {f : X → List D} {g : GD} {body : SD} {hh : List D → CH} {o : Option Nat} {I : Env → Prop} (B : Nat) {xs : List X} {acc : List D} {ρ : Env} {h0 : CH} {it : ITD} {N : Env → CH → Prop} {T : D → CH → Prop} (ei : it ρ h0 = .ok (xs.map en, o) (hh acc)) (hg : ∀ acc, gd o (xs.map en) (hh acc))
    (hI : I ρ) (hB : acc.length + (xs.flatMap f).length ≤ B) (st : ∀ x ∈ xs, ∀ ρ acc, I ρ → acc.length + (f x).length ≤ B → ∃ ρ1, g (en x) ρ = some ρ1 ∧ ∃ ρ2, I ρ2 ∧ (body ρ1 (hh acc) = .ok .nx ρ2 (hh (acc ++ f x)) ∨ body ρ1 (hh acc) = .ok .ct ρ2 (hh (acc ++ f x))))
    (done : ∀ ρ', I ρ' → N ρ' (hh (acc ++ xs.flatMap f))) : Good (FK.sFor it g body ρ h0) N T := by
  obtain ⟨ρ', hI', e⟩ := FK.build (v := 0) (body := body) (g := g) (en := en) (f := f) (I := I) (all := xs.map en) hg xs acc ρ hI hB st
  unfold FK.sFor
  rw [ei]
  dsimp only
  rw [e]
  exact done ρ' hI'
/-- a loop that carries a state on -/
theorem Good.fold {X S : Type} {en : X → D} {st : S → X → S} {g : GD} {body : SD} {o : Option Nat} {I : S → Env → Prop} {h h0 : CH} {N : Env → CH → Prop} {T : D → CH → Prop} {it : ITD} {xs : List X} {s : S} {ρ : Env} (ei : it ρ h0 = .ok (xs.map en, o) h) (hg : gd o (xs.map en) h) (hI : I s ρ)
    (step : ∀ x ∈ xs, ∀ s ρ, I s ρ → ∃ ρ1, g (en x) ρ = some ρ1 ∧ ∃ ρ2, body ρ1 h = .ok .nx ρ2 h ∧ I (st s x) ρ2) (done : ∀ ρ', I (xs.foldl st s) ρ' → N ρ' h) : Good (FK.sFor it g body ρ h0) N T := by
  have key : ∀ (ys : List X) (s : S) (ρ : Env), (∀ y ∈ ys, y ∈ xs) → I s ρ → ∃ ρ', forX o (xs.map en) g body (ys.map en) ρ h = .ok .nx ρ' h ∧ I (ys.foldl st s) ρ' := by
    intro ys
    induction ys with
    | nil =>
      intro s ρ _ hI
      refine ⟨ρ, ?_, hI⟩
      cases o with
      | none => rfl
      | some n => exact if_pos hg
    | cons y ys ih =>
      intro s ρ hy hI
      obtain ⟨ρ1, e1, ρ2, e2, h2⟩ := step y (hy y List.mem_cons_self) s ρ hI
      obtain ⟨ρ', e3, h3⟩ := ih (st s y) ρ2 (fun z hz => hy z (List.mem_cons_of_mem _ hz)) h2
      refine ⟨ρ', ?_, h3⟩
      rw [← e3]
      cases o with
      | none =>
        show FK.forL g body (en y :: ys.map en) ρ h = _
        unfold FK.forL
        rw [e1]
        dsimp only
        rw [e2]
        rfl
      | some n =>
        show FK.forC n (xs.map en) g body (en y :: ys.map en) ρ h = _
        unfold FK.forC
        rw [if_pos (show h[n]? = some (.lst (xs.map en)) from hg), e1]
        dsimp only
        rw [e2]
        rfl
  obtain ⟨ρ', e, hI'⟩ := key xs s ρ (fun _ h => h) hI
  unfold FK.sFor
  rw [ei]
  dsimp only
  rw [e]
  exact done ρ' hI'
theorem sz' (n : Nat) : (n < sizeLine) = (n < 16777216) := by rw [sizeLine_eq]
theorem vw_last (h : CH) (xs : List D) : vw (h ++ [.lst xs]) (.ref h.length) = .lst xs := by unfold vw; dsimp only; rw [get_last]
theorem app_last (h : CH) (xs : List D) (d : D) (hl : xs.length < 16777216) : dApp (.ref h.length) [d] (h ++ [.lst xs]) = .ok .non (h ++ [.lst (xs ++ [d])]) := by
  unfold dApp
  dsimp only
  rw [get_last]
  dsimp only
  rw [if_pos (by rw [sz']; exact hl), set_last]
theorem eMl_app {f : ED} {fs : AD} {ρ : Env} {h : CH} {xs : List D} {d : D} (e1 : f ρ (h ++ [.lst xs]) = .ok (.ref h.length) (h ++ [.lst xs])) (e2 : fs ρ (h ++ [.lst xs]) = .ok [d] (h ++ [.lst xs])) (hl : xs.length < 16777216) : eMl dApp f fs ρ (h ++ [.lst xs]) = .ok .non (h ++ [.lst (xs ++ [d])]) := by
  unfold eMl M.bind
  rw [e1]
  dsimp only
  rw [vw_last]
  dsimp only
  rw [e2]
  exact app_last h xs d hl
theorem lstOf_last (h : CH) (xs : List D) : lstOf (h ++ [.lst xs]) (.ref h.length) = some xs := by unfold lstOf; rw [vw_last]
theorem lstOf_app {h : CH} {d : D} {xs : List D} (e : lstOf h d = some xs) {j : CH} : lstOf (h ++ j) d = some xs := by
  unfold lstOf vw at *
  cases d with
  | ref k =>
    dsimp only at *
    cases q : h[k]? with
    | none => rw [q] at e; cases e
    | some c =>
      obtain ⟨hk, _⟩ := List.getElem?_eq_some_iff.mp q
      rw [List.getElem?_append_left hk, q]
      rw [q] at e
      exact e
  | lst ys => exact e
  | _ => cases e
theorem fz_lstOf {h : CH} {d : D} {xs : List D} (e : lstOf h d = some xs) (n : D.nrL xs = true) : fz h d = some (.lst xs) := by
  unfold lstOf vw at e
  cases d with
  | ref k =>
    dsimp only at e
    cases q : h[k]? with
    | none => rw [q] at e; cases e
    | some c =>
      rw [q] at e
      cases c with
      | lst ys => cases e; exact fz_ref q n
      | _ => cases e
  | lst ys => cases e; exact fz_nr n
  | _ => cases e
theorem flatL_nrL {xs : List D} (h : D.flatL xs = true) : D.nrL xs = true := D.nr_flat (.tup xs) h
theorem callP_lf {n : Nat} {F : FD} {d r : D} {xs rest : List D} {h h' : CH} (hl : lstOf h d = some xs) (hx : D.nrL xs = true) (hr : D.nrL rest = true) (e : F (.lst xs :: rest) [] = .ok r h') (hf : r.flat = true) (hn : rest.length + 1 = n := by rfl) : callP n F (d :: rest) h = .ok r h := by
  by_cases q : D.nrL (d :: rest) = true
  · have : d = .lst xs := by
      cases d with
      | ref k => cases q
      | lst ys => cases hl; rfl
      | _ => cases hl
    subst this
    exact callP_ok q e (fz_nr (D.nr_flat r hf)) hn
  · refine callP_fz (es := .lst xs :: rest) (Bool.eq_false_iff.mpr q) ?_ e hf hn
    unfold mapO
    rw [fz_lstOf hl hx, mapO_id fun d hd => fz_nr (nrL_iff.mp hr d hd)]
theorem callP_ll {n : Nat} {F : FD} {d : D} {k : Nat} {xs ys rest : List D} {h h' : CH} (hl : lstOf h d = some xs) (hx : D.nrL xs = true) (hr : D.nrL rest = true) (e : F (.lst xs :: rest) [] = .ok (.ref k) h') (hk : h'[k]? = some (.lst ys)) (hf : D.flatL ys = true) (hn : rest.length + 1 = n := by rfl) : callP n F (d :: rest) h = .ok (.lst ys) h := by
  by_cases q : D.nrL (d :: rest) = true
  · have : d = .lst xs := by
      cases d with
      | ref k => cases q
      | lst ys => cases hl; rfl
      | _ => cases hl
    subst this
    exact callP_ok q e (fz_ref hk (flatL_nrL hf)) hn
  · have hm : mapO (fz h) (d :: rest) = some (.lst xs :: rest) := by
      unfold mapO
      rw [fz_lstOf hl hx, mapO_id fun d hd => fz_nr (nrL_iff.mp hr d hd)]
    unfold callP
    rw [if_pos (show (d :: rest).length = n from hn), if_neg q, hm]
    dsimp only
    rw [e]
    dsimp only
    rw [if_neg (show ¬ (D.flat (.ref k) = true) from fun z => nomatch z)]
    unfold own
    dsimp only
    rw [hk]
    dsimp only
    rw [if_pos hf]
theorem callN_ok {n : Nat} {F : FD} {ds ys : List D} {k : Nat} {h h' : CH} (hr : D.nrL ds = true) (e : F ds [] = .ok (.ref k) h') (hk : h'[k]? = some (.lst ys)) (hy : D.nrL ys = true) (hn : ds.length = n := by rfl) : callN n F ds h = .ok (.ref h.length) (h ++ [.lst ys]) := by
  unfold callN
  rw [if_pos hn, if_pos hr, e]
  dsimp only
  rw [hk]
  dsimp only
  rw [if_pos hy]
theorem callN_fzok {n : Nat} {F : FD} {ds es ys : List D} {k : Nat} {h h' : CH} (hr : D.nrL ds = false) (hm : mapO (fz h) ds = some es) (e : F es [] = .ok (.ref k) h') (hk : h'[k]? = some (.lst ys)) (hy : D.flatL ys = true) (hn : ds.length = n := by rfl) : callN n F ds h = .ok (.ref h.length) (h ++ [.lst ys]) := by
  unfold callN
  rw [if_pos hn, if_neg (by rw [hr]; decide), hm]
  dsimp only
  rw [e]
  dsimp only
  rw [hk]
  dsimp only
  rw [if_pos hy]
/-! operators on plain data, one by one -/
theorem dEq_int (a b : Int) (h : CH) : dEq (.int a) (.int b) h = .ok (.bl (decide (a = b))) h := by
  have : D.eqb (.int a) (.int b) = decide (a = b) := by
    show (a == b) = _
    by_cases h : a = b <;> simp [h]
  unfold dEq
  rw [if_pos ⟨rfl, rfl, by show min 0 0 ≤ 60; decide⟩]
  show R.ok (D.bl (D.eqb (.int a) (.int b))) h = _
  rw [this]
theorem dNe_int (a b : Int) (h : CH) : dNe (.int a) (.int b) h = .ok (.bl (!decide (a = b))) h := by
  have : D.eqb (.int a) (.int b) = decide (a = b) := by
    show (a == b) = _
    by_cases h : a = b <;> simp [h]
  unfold dNe
  rw [if_pos ⟨rfl, rfl, by show min 0 0 ≤ 60; decide⟩]
  show R.ok (D.bl (!D.eqb (.int a) (.int b))) h = _
  rw [this]
theorem dIs_non (h : CH) : dIs .non .non h = .ok (.bl true) h := rfl
theorem dIsnt_non (h : CH) : dIsnt .non .non h = .ok (.bl false) h := rfl
theorem dIs_I (i : Id) (h : CH) : dIs (encI i) .non h = .ok (.bl false) h := rfl
theorem dIsnt_I (i : Id) (h : CH) : dIsnt (encI i) .non h = .ok (.bl true) h := rfl
theorem dIdx_tup (xs : List D) (k : Int) (h : CH) : dIdx (.tup xs) (.int k) h = match atI xs k with | some d => .ok d h | none => .bad := rfl
theorem dIdx_lst (xs : List D) (k : Int) (h : CH) : dIdx (.lst xs) (.int k) h = match atI xs k with | some d => .ok d h | none => .bad := rfl
theorem dIdx_scr (xs : List D) (k : Int) (h : CH) : dIdx (.scr xs) (.int k) h = match atI xs k with | some d => .ok d h | none => .bad := rfl
theorem dAdd_int (a b : Int) (h : CH) : dAdd (.int a) (.int b) h = .ok (.int (a + b)) h := rfl
/-! a loop as a machine -/
inductive Stp (S : Type) where
  | ret (d : D)
  | go (s : S)
  | stop (s : S)
def runX {X S : Type} (st : S → X → Stp S) : List X → S → (D × S) ⊕ S
  | [], s => .inr s
  | x :: xs, s => match st s x with
    | .ret d => .inl (d, s)
    | .go s' => runX st xs s'
    | .stop s' => .inr s'
/-- what a turn must show -/
def Turn {S : Type} (r : RS) (hh : S → CH) (I : S → Env → Prop) (s : S) : Stp S → Prop
  | .ret d => ∃ ρ2, r = .ok (.rt d) ρ2 (hh s)
  | .go s => ∃ ρ2, (r = .ok .nx ρ2 (hh s) ∨ r = .ok .ct ρ2 (hh s)) ∧ I s ρ2
  | .stop s => ∃ ρ2, r = .ok .bk ρ2 (hh s) ∧ I s ρ2
/-- the state when all turns so far went on -/
def goX {X S : Type} (st : S → X → Stp S) : List X → S → Option S
  | [], s => some s
  | x :: xs, s => match st s x with
    | .go s' => goX st xs s'
    | _ => none
theorem goX_snoc {X S : Type} {st : S → X → Stp S} {y : X} {s2 : S} : ∀ {xs : List X} {s s1 : S}, goX st xs s = some s1 → st s1 y = .go s2 → goX st (xs ++ [y]) s = some s2
  | [], s, s1, e, q => by
    cases e
    show (match st s y with | .go s' => goX st [] s' | _ => none) = _
    rw [q]
    rfl
  | x :: xs, s, s1, e, q => by
    unfold goX at e
    show (match st s x with | .go s' => goX st (xs ++ [y]) s' | _ => none) = _
    cases h : st s x with
    | go s' => rw [h] at e; exact goX_snoc (xs := xs) e q
    | ret d => rw [h] at e; cases e
    | stop s' => rw [h] at e; cases e
theorem Good.runP {X S : Type} {en : X → D} (st : S → X → Stp S) {hh : S → CH} {g : GD} {body : SD} {o : Option Nat} (I : S → Env → Prop) {h0 : CH} {N : Env → CH → Prop} {T : D → CH → Prop} {it : ITD} {xs : List X} (s : S) {ρ : Env} (ei : it ρ h0 = .ok (xs.map en, o) (hh s)) (hg : ∀ s, gd o (xs.map en) (hh s)) (hI : I s ρ)
    (step : ∀ pre x post, xs = pre ++ x :: post → ∀ s' ρ, goX st pre s = some s' → I s' ρ → ∃ ρ1, g (en x) ρ = some ρ1 ∧ Turn (body ρ1 (hh s')) hh I s' (st s' x)) (ret : ∀ d s', runX st xs s = .inl (d, s') → T d (hh s')) (done : ∀ s' ρ', runX st xs s = .inr s' → I s' ρ' → N ρ' (hh s')) : Good (FK.sFor it g body ρ h0) N T := by
  have key : ∀ (ys pre : List X) (s1 : S) (ρ : Env), xs = pre ++ ys → goX st pre s = some s1 → I s1 ρ → Good (forX o (xs.map en) g body (ys.map en) ρ (hh s1)) (fun ρ' h' => ∃ s', runX st ys s1 = .inr s' ∧ I s' ρ' ∧ h' = hh s') (fun d h' => ∃ s', runX st ys s1 = .inl (d, s') ∧ h' = hh s') := by
    intro ys
    induction ys with
    | nil =>
      intro pre s1 ρ _ _ hI
      cases o with
      | none => exact ⟨s1, rfl, hI, rfl⟩
      | some n =>
        have : forX (some n) (xs.map en) g body (([] : List X).map en) ρ (hh s1) = .ok .nx ρ (hh s1) := if_pos (hg s1)
        rw [this]
        exact ⟨s1, rfl, hI, rfl⟩
    | cons y ys ih =>
      intro pre s1 ρ hx hgo hI
      obtain ⟨ρ1, e1, t⟩ := step pre y ys hx s1 ρ hgo hI
      have one : forX o (xs.map en) g body ((y :: ys).map en) ρ (hh s1) = (match body ρ1 (hh s1) with
        | .ok .nx ρ2 h2 => forX o (xs.map en) g body (ys.map en) ρ2 h2
        | .ok .ct ρ2 h2 => forX o (xs.map en) g body (ys.map en) ρ2 h2
        | .ok .bk ρ2 h2 => .ok .nx ρ2 h2
        | r => r) := by
        cases o with
        | none =>
          show FK.forL g body (en y :: ys.map en) ρ (hh s1) = _
          unfold FK.forL
          rw [e1]
          rfl
        | some n =>
          show FK.forC n (xs.map en) g body (en y :: ys.map en) ρ (hh s1) = _
          unfold FK.forC
          rw [if_pos (show (hh s1)[n]? = some (.lst (xs.map en)) from hg s1), e1]
          rfl
      rw [one]
      unfold runX
      cases q : st s1 y with
      | ret d =>
        rw [q] at t
        obtain ⟨ρ2, e2⟩ := t
        rw [e2]
        exact ⟨s1, rfl, rfl⟩
      | go s' =>
        rw [q] at t
        obtain ⟨ρ2, e2, t2⟩ := t
        have := ih (pre ++ [y]) s' ρ2 (by rw [hx, List.append_assoc]; rfl) (goX_snoc hgo q) t2
        rcases e2 with e2 | e2 <;> rw [e2] <;> exact this
      | stop s' =>
        rw [q] at t
        obtain ⟨ρ2, e2, t2⟩ := t
        rw [e2]
        exact ⟨s', rfl, t2, rfl⟩
  unfold FK.sFor
  rw [ei]
  dsimp only
  have k := key xs [] s ρ rfl rfl hI
  generalize forX o (xs.map en) g body (xs.map en) ρ (hh s) = r at k
  cases r with
  | ok f ρ' h' =>
    cases f with
    | nx => obtain ⟨s', a, b, c⟩ := k; subst c; exact done s' ρ' a b
    | rt d => obtain ⟨s', a, c⟩ := k; subst c; exact ret d s' a
    | _ => exact k.elim
  | _ => exact k.elim
theorem Good.run {X S : Type} {en : X → D} (st : S → X → Stp S) {hh : S → CH} {g : GD} {body : SD} {o : Option Nat} (I : S → Env → Prop) {h0 : CH} {N : Env → CH → Prop} {T : D → CH → Prop} {it : ITD} {xs : List X} (s : S) {ρ : Env} (ei : it ρ h0 = .ok (xs.map en, o) (hh s)) (hg : ∀ s, gd o (xs.map en) (hh s)) (hI : I s ρ)
    (step : ∀ x ∈ xs, ∀ s ρ, I s ρ → ∃ ρ1, g (en x) ρ = some ρ1 ∧ Turn (body ρ1 (hh s)) hh I s (st s x)) (ret : ∀ d s', runX st xs s = .inl (d, s') → T d (hh s')) (done : ∀ s' ρ', runX st xs s = .inr s' → I s' ρ' → N ρ' (hh s')) : Good (FK.sFor it g body ρ h0) N T :=
  Good.runP st I s ei hg hI (fun pre x post hx s' ρ _ hI => step x (by rw [hx]; simp) s' ρ hI) ret done
/-- a loop, by what holds behind each part of the items -/
theorem Good.pre {X : Type} {en : X → D} {g : GD} {body : SD} {o : Option Nat} (I : List X → Env → CH → Prop) {h0 h : CH} {N : Env → CH → Prop} {T : D → CH → Prop} {it : ITD} {xs : List X} {ρ : Env} (ei : it ρ h0 = .ok (xs.map en, o) h) (hI : I [] ρ h) (hgd : ∀ pre ρ h, I pre ρ h → gd o (xs.map en) h)
    (step : ∀ pre x post, xs = pre ++ x :: post → ∀ ρ h, I pre ρ h → ∃ ρ1, g (en x) ρ = some ρ1 ∧ Good (body ρ1 h) (I (pre ++ [x])) T) (done : ∀ ρ' h', I xs ρ' h' → N ρ' h') : Good (FK.sFor it g body ρ h0) N T := by
  have key : ∀ (ys pre : List X) (ρ : Env) (h : CH), xs = pre ++ ys → I pre ρ h → Good (forX o (xs.map en) g body (ys.map en) ρ h) (I xs) T := by
    intro ys
    induction ys with
    | nil =>
      intro pre ρ h e hI
      rw [List.append_nil] at e
      subst e
      have : forX o (xs.map en) g body (([] : List X).map en) ρ h = .ok .nx ρ h := by
        cases o with
        | none => rfl
        | some n => exact if_pos (hgd _ _ _ hI)
      rw [this]
      exact hI
    | cons y ys ih =>
      intro pre ρ h e hI
      obtain ⟨ρ1, e1, t⟩ := step pre y ys e ρ h hI
      have one : forX o (xs.map en) g body ((y :: ys).map en) ρ h = (match body ρ1 h with
        | .ok .nx ρ2 h2 => forX o (xs.map en) g body (ys.map en) ρ2 h2
        | .ok .ct ρ2 h2 => forX o (xs.map en) g body (ys.map en) ρ2 h2
        | .ok .bk ρ2 h2 => .ok .nx ρ2 h2
        | r => r) := by
        cases o with
        | none =>
          show FK.forL g body (en y :: ys.map en) ρ h = _
          unfold FK.forL
          rw [e1]
          rfl
        | some n =>
          show FK.forC n (xs.map en) g body (en y :: ys.map en) ρ h = _
          unfold FK.forC
          rw [if_pos (show h[n]? = some (.lst (xs.map en)) from hgd _ _ _ hI), e1]
          rfl
      rw [one]
      cases eb : body ρ1 h with
      | ok f ρ2 h2 =>
        rw [eb] at t
        cases f with
        | nx => exact ih (pre ++ [y]) ρ2 h2 (by rw [e, List.append_assoc]; rfl) t
        | rt d => exact t
        | _ => exact t.elim
      | _ => rw [eb] at t; exact t.elim
  unfold FK.sFor
  rw [ei]
  dsimp only
  exact Good.cut (key xs [] ρ h rfl hI) done
theorem dSl_L {h : CH} {d : D} {xs : List D} (hl : lstOf h d = some xs) (lo hi : Option Int) : dSl d lo hi h = .ok (.lst (cut xs lo hi)) h := by
  unfold lstOf at hl
  cases d with
  | ref k =>
    unfold dSl
    dsimp only
    cases q : vw h (.ref k) with
    | lst ys => rw [q] at hl; cases hl; rfl
    | _ => rw [q] at hl; cases hl
  | lst ys => cases hl; rfl
  | _ => cases hl
theorem dIdx_L {h : CH} {d : D} {xs : List D} (hl : lstOf h d = some xs) (k : Int) : dIdx d (.int k) h = match atI xs k with | some d => .ok d h | none => .bad := by
  unfold lstOf at hl
  cases d with
  | ref k =>
    unfold dIdx
    dsimp only
    unfold seq
    cases q : vw h (.ref k) with
    | lst ys => rw [q] at hl; cases hl; rfl
    | _ => rw [q] at hl; cases hl
  | lst ys => cases hl; rfl
  | _ => cases hl
theorem dAdd_lst (xs ys : List D) (h : CH) (hl : xs.length + ys.length ≤ 16777216) : dAdd (.lst xs) (.lst ys) h = .ok (.lst (xs ++ ys)) h := by
  unfold dAdd
  exact if_pos (by rw [sz]; exact hl)
theorem cut_to {xs : List D} {k : Nat} (hk : k ≤ xs.length) : cut xs none (some (k : Int)) = xs.take k := by
  unfold cut
  rw [HT.sIx_nat]
  show ((xs.drop 0).take (min k xs.length - 0)) = _
  rw [List.drop_zero, Nat.sub_zero, Nat.min_eq_left hk]
theorem cut_from {xs : List D} {k : Nat} (hk : k ≤ xs.length) : cut xs (some (k : Int)) none = xs.drop k := by
  unfold cut
  rw [HT.sIx_nat]
  show ((xs.drop (min k xs.length)).take (xs.length - min k xs.length)) = _
  rw [Nat.min_eq_left hk, List.take_of_length_le (by rw [List.length_drop]; exact Nat.le_refl _)]
/-- [f for g in xs if b] -/
theorem eLc_fm {X : Type} {en : X → D} (p : X → Bool) (val : X → D) {it : ITD} {g : GD} {b : BD} {f : ED} {vs : List Nat} {ρ : Env} {h : CH} {o : Option Nat} {xs : List X} (ei : it ρ h = .ok (xs.map en, o) h) (hg : gd o (xs.map en) h) (hl : xs.length ≤ 16777216)
    (hq : ∀ x ∈ xs, ∃ ρ1, g (en x) (wipeE ρ vs) = some ρ1 ∧ b ρ1 h = .ok (p x) h ∧ (p x = true → f ρ1 h = .ok (val x) h)) : eLc lcEnd it g b f vs ρ h = .ok (.lst ((xs.filter p).map val)) h := by
  have one : ∀ x ∈ xs, lcT g b f (wipeE ρ vs) (en x) h = .ok (if p x = true then some (val x) else none) h := by
    intro x hx
    obtain ⟨ρ1, e1, e2, e3⟩ := hq x hx
    unfold lcT
    rw [e1]
    dsimp only
    rw [e2]
    cases q : p x with
    | true => dsimp only; rw [e3 q]; rfl
    | false => rfl
  have key : ∀ ys : List X, (∀ y ∈ ys, y ∈ xs) → lcX o (xs.map en) g b f (wipeE ρ vs) (ys.map en) h = .ok ((ys.filter p).map val) h := by
    intro ys
    induction ys with
    | nil =>
      intro _
      cases o with
      | none => rfl
      | some n => exact if_pos hg
    | cons y ys ih =>
      intro hy
      have e1 := one y (hy y List.mem_cons_self)
      have e2 := ih fun z hz => hy z (List.mem_cons_of_mem _ hz)
      have step : lcX o (xs.map en) g b f (wipeE ρ vs) ((y :: ys).map en) h = M.bind (lcT g b f (wipeE ρ vs) (en y)) (fun q => M.bind (lcX o (xs.map en) g b f (wipeE ρ vs) (ys.map en)) fun r => M.pure (q.toList ++ r)) h := by
        cases o with
        | none => rfl
        | some n => exact if_pos hg
      rw [step]
      unfold M.bind
      rw [e1]
      dsimp only
      rw [e2]
      cases q : p y with
      | true => rw [if_pos rfl, List.filter_cons_of_pos q]; rfl
      | false => rw [if_neg (by decide), List.filter_cons_of_neg (by simp [q])]; rfl
  unfold eLc M.bind
  rw [ei]
  dsimp only
  rw [key xs fun _ h => h]
  unfold lcEnd
  have := List.length_filter_le p xs
  exact if_pos (by rw [sz, List.length_map]; omega)
theorem wipe_gN {ρ : Env} {v : Nat} {d : D} : gN v d (wipeE ρ [v]) = some (ρ.set v (some d)) := by
  show some ((ρ.set v none).set v (some d)) = _
  rw [set_set]
theorem Good.toNx {r : RS} {N : Env → CH → Prop} (g : Good r N (fun _ _ => False)) : ∃ ρ h, r = .ok .nx ρ h ∧ N ρ h := by
  cases r with
  | ok f ρ h =>
    cases f with
    | nx => exact ⟨ρ, h, rfl, g⟩
    | rt d => exact g.elim
    | _ => exact g.elim
  | _ => exact g.elim
end FK

/-! part: D_k05 -/
set_option Elab.async false
set_option linter.all false
set_option maxRecDepth 100000
set_option maxHeartbeats 4000000
/-! the defs of law_k05_patterns as functions of data (printed by gen.py) -/
namespace FK
open PySem PySem.Spec L2
noncomputable def b_matches : SD := sSeq (sAsg (eNew (aCons (eC (.bl true)) (aNil))) (gN 2))
  (sSeq (sFor (iE (eVar 1)) (gN 3) (sExpr (eMl dApp (eVar 2) (aCons (eC (.bl false)) (aNil)))))
  (sSeq (sFor (iE (eVar 0)) (gN 4) (sSeq (sAsg (eNew (aCons (eAnd (e2 dEq (eVar 4) (eC (.str "*"))) (e2 dIdx (eVar 2) (eC (.int 0)))) (aNil))) (gN 5))
  (sSeq (sFor (iR1 (aCons (eCall dLen (aCons (eVar 1) (aNil))) (aNil))) (gN 6) (sIf (bT (e2 dEq (eVar 4) (eC (.str "*")))) (sExpr (eMl dApp (eVar 5) (aCons (eOr (e2 dIdx (eVar 5) (eVar 6)) (e2 dIdx (eVar 2) (e2 dAdd (eVar 6) (eC (.int 1))))) (aNil)))) (sExpr (eMl dApp (eVar 5) (aCons (eAnd (e2 dIdx (eVar 2) (eVar 6)) (e2 dEq (eVar 4) (e2 dIdx (eVar 1) (eVar 6)))) (aNil))))))
  (sAsg (eVar 5) (gN 2)))))
  (sRet (e2 dIdx (eVar 2) (e1 dNeg (eC (.int 1)))))))
/-- matches(0 pattern, 1 name, 2 reached, 3 sign, 4 wanted, 5 following, 6 k) -/
noncomputable def d_matches : FD := fnD 7 b_matches
noncomputable def b_ignored : SD := sSeq (sFor (iE (eVar 0)) (gN 2) (sIf (bT (eCall (callP 2 d_matches) (aCons (eVar 2) (aCons (eVar 1) (aNil))))) (sRet (eC (.bl true))) (sNil)))
  (sRet (eC (.bl false)))
/-- ignored(0 patterns, 1 name, 2 pattern) -/
noncomputable def d_ignored : FD := fnD 3 b_ignored
noncomputable def b_l_cells : SD := sSeq (sAsg (eNew (aNil)) (gN 2))
  (sSeq (sFor (iR1 (aCons (eVar 1) (aNil))) (gN 3) (sSeq (sAsg (eC (.int 0)) (gN 4))
  (sSeq (sIf (bT (e2 dLt (eVar 3) (eCall dLen (aCons (eVar 0) (aNil))))) (sAsg (eCall dInt (aCons (e2 dIdx (eVar 0) (eVar 3)) (aNil))) (gN 4)) (sNil))
  (sSeq (sIf (bT (e2 dLt (eVar 4) (eC (.int 0)))) (sAsg (e2 dSub (eC (.int 1)) (e2 dMul (eC (.int 2)) (eVar 4))) (gN 4)) (sNil))
  (sSeq (sIf (bOr (bT (e2 dGe (eVar 3) (eCall dLen (aCons (eVar 0) (aNil))))) (bT (e2 dLt (eVar 4) (eC (.int 1000000000))))) (sSeq (sIf (bT (e2 dGt (eCall dLen (aCons (eVar 0) (aNil))) (eC (.int 0)))) (sAsg (eCall dInt (aCons (e2 dIdx (eVar 0) (e2 dMod (eCall dInt (aCons (eVar 3) (aNil))) (eCall dLen (aCons (eVar 0) (aNil))))) (aNil))) (gN 4)) (sNil))
  (sSeq (sIf (bT (e2 dLt (eVar 4) (eC (.int 0)))) (sAsg (e2 dSub (eC (.int 1)) (e2 dMul (eC (.int 2)) (eVar 4))) (gN 4)) (sNil))
  (sSeq (sAsg (e2 dMod (eCall dInt (aCons (e2 dAdd (e2 dMul (e2 dAdd (e2 dAdd (eVar 4) (e2 dMul (eC (.int 131)) (eVar 3))) (eC (.int 7))) (eC (.int 48271))) (e2 dMul (e2 dMul (eVar 3) (eVar 3)) (eC (.int 69621)))) (aNil))) (eC (.int 1000000007))) (gN 4))
  (sAsg (e2 dMod (eCall dInt (aCons (e2 dMul (e2 dAdd (e2 dAdd (eVar 4) (e2 dMul (eC (.int 17)) (eVar 3))) (eC (.int 3))) (eC (.int 2862933555777941757))) (aNil))) (eC (.int 18446744073709551557))) (gN 4))))) (sNil))
  (sExpr (eMl dApp (eVar 2) (aCons (eVar 4) (aNil)))))))))
  (sRet (eVar 2)))
/-- _law_cells(0 _law_script, 1 _law_count, 2 _law_cells_here, 3 _law_k, 4 _law_cell) -/
noncomputable def d_l_cells : FD := fnD 5 b_l_cells
noncomputable def b_l_matches : SD := sSeq (sAsg (eLst (aCons (eC (.int 0)) (aNil))) (gN 2))
  (sSeq (sFor (iE (eVar 0)) (gN 3) (sSeq (sAsg (eNew (aNil)) (gN 4))
  (sSeq (sFor (iE (eVar 2)) (gN 5) (sIf (bT (e2 dEq (eVar 3) (eC (.str "*")))) (sAsg (e2 dAddC (eVar 4) (eLr (aCons (eVar 5) (aCons (e2 dAdd (eCall dLen (aCons (eVar 1) (aNil))) (eC (.int 1))) (aNil))))) (gN 4)) (sIf (bAnd (bT (e2 dLt (eVar 5) (eCall dLen (aCons (eVar 1) (aNil))))) (bT (e2 dEq (e2 dIdx (eVar 1) (eVar 5)) (eVar 3)))) (sExpr (eMl dApp (eVar 4) (aCons (e2 dAdd (eVar 5) (eC (.int 1))) (aNil)))) (sNil))))
  (sAsg (e1 dSortSet (eVar 4)) (gN 2)))))
  (sRet (e2 dIn (eCall dLen (aCons (eVar 1) (aNil))) (eVar 2))))
/-- _law_matches(0 _law_pattern, 1 _law_name, 2 _law_ends, 3 _law_sign, 4 _law_following, 5 _law_at) -/
noncomputable def d_l_matches : FD := fnD 6 b_l_matches
noncomputable def b_l_word : SD := sSeq (sAsg (eC (.str "")) (gN 4))
  (sSeq (sFor (iR1 (aCons (eVar 2) (aNil))) (gN 5) (sAsg (e2 dAdd (eVar 4) (e2 dIdx (eVar 3) (e2 dMod (eCall dInt (aCons (e2 dIdx (eVar 0) (e2 dAdd (eVar 1) (eVar 5))) (aNil))) (eCall dLen (aCons (eVar 3) (aNil)))))) (gN 4)))
  (sRet (eVar 4)))
/-- _law_word(0 _law_cells_here, 1 _law_at, 2 _law_size, 3 _law_menu, 4 _law_word_here, 5 _law_k) -/
noncomputable def d_l_word : FD := fnD 6 b_l_word
noncomputable def b_law : SD := sSeq (sAsg (eCall (callP 2 d_l_cells) (aCons (eVar 0) (aCons (eC (.int 50)) (aNil)))) (gN 1))
  (sSeq (sAsg (eCall (callP 4 d_l_word) (aCons (eVar 1) (aCons (eC (.int 0)) (aCons (e2 dAdd (eC (.int 1)) (e2 dMod (eCall dInt (aCons (e2 dIdx (eVar 1) (eC (.int 9))) (aNil))) (eC (.int 8)))) (aCons (eC (.str "abA")) (aNil)))))) (gN 2))
  (sSeq (sAsg (eNew (aNil)) (gN 3))
  (sSeq (sFor (iR1 (aCons (eC (.int 3)) (aNil))) (gN 4) (sExpr (eMl dApp (eVar 3) (aCons (eCall (callP 4 d_l_word) (aCons (eVar 1) (aCons (e2 dAdd (eC (.int 10)) (e2 dMul (eC (.int 10)) (eVar 4))) (aCons (e2 dMod (eCall dInt (aCons (e2 dIdx (eVar 1) (e2 dAdd (eC (.int 19)) (e2 dMul (eC (.int 10)) (eVar 4)))) (aNil))) (eC (.int 8))) (aCons (eC (.str "ab**A")) (aNil)))))) (aNil)))))
  (sSeq (sIf (bT (e2 dEq (e2 dMod (e2 dIdx (eVar 1) (eC (.int 45))) (eC (.int 3))) (eC (.int 0)))) (sSetL (eVar 3) (eC (.int 0)) (e2 dAdd (e2 dAdd (eC (.str "*")) (eSl (eVar 2) (oSome (e2 dMod (eCall dInt (aCons (e2 dIdx (eVar 1) (eC (.int 46))) (aNil))) (eCall dLen (aCons (eVar 2) (aNil))))) (oNone))) (eC (.str "*")))) (sNil))
  (sSeq (sFor (iE (eVar 3)) (gN 5) (sIf (bT (e2 dNe (eCall (callP 2 d_matches) (aCons (eVar 5) (aCons (eVar 2) (aNil)))) (eCall (callP 2 d_l_matches) (aCons (eVar 5) (aCons (eVar 2) (aNil)))))) (sRet (eC (.bl false))) (sNil)))
  (sSeq (sAsg (e2 dMod (eCall dInt (aCons (e2 dIdx (eVar 1) (eC (.int 47))) (aNil))) (eC (.int 4))) (gN 6))
  (sSeq (sAsg (eCall dAny (aCons (eLc lcEnd (iE (eSl (eVar 3) (oNone) (oSome (eVar 6)))) (gN 5) (bYes) (eCall (callP 2 d_l_matches) (aCons (eVar 5) (aCons (eVar 2) (aNil)))) [5]) (aNil))) (gN 7))
  (sRet (e2 dEq (eCall (callP 2 d_ignored) (aCons (eSl (eVar 3) (oNone) (oSome (eVar 6))) (aCons (eVar 2) (aNil)))) (eVar 7))))))))))
/-- law(0 _law_script, 1 _law_cells_here, 2 _law_name, 3 _law_patterns, 4 _law_k, 5 _law_pattern, 6 _law_count, 7 _law_expected) -/
noncomputable def d_law : FD := fnD 8 b_law
end FK

namespace FK
open PySem PySem.Spec L2
local macro_rules
  | `(tactic| simp_arith! [$ls,*]) => `(tactic| simp only [sSeq, sIf, sB, sE, sAsg, sRet, sRetN, sNil, sExpr, sBrk, sCnt, gN, gT, gsC, gsN, FK.e1, FK.e2, eC, eVar, eCall, aNil, aCons, M.bind, M.pure, eTup, eLst, eNew, eSl, oNone, oSome, bT, bNot, bAnd, bOr, eAnd, eOr, eNot, eIf, eCh, truth, eMs, eMl, dSub, dMul, dFdiv, dMod, dLe, dLt, dGe, dGt, D.isNon, dSl, dLen, dInt, dOrd_one, dMax2, dMin2, dTuple, dList, dListC, dApp, dNeg, vw, seq, lstOf, fnD, List.map_cons, List.map_nil, List.length_cons, List.length_nil, List.cons_append, List.nil_append, List.append_nil, List.replicate_succ, List.replicate_zero, List.getElem?_cons_zero, List.getElem?_cons_succ, List.set_cons_zero, List.set_cons_succ, Int.cast_ofNat_Int, Nat.reduceBEq, Int.reduceBEq, Nat.reduceAdd, Nat.reduceSub, Nat.reduceLT, Nat.reduceLeDiff, Nat.zero_add, Nat.add_zero, Nat.sub_zero, Nat.sub_self, ↓reduceIte, if_true, if_false, Bool.not_true, Bool.not_false, Bool.false_eq_true, Bool.true_eq_false, decide_true, decide_false, decide_not, true_and, and_true, and_self, true_or, or_true, not_true_eq_false, not_false_eq_true, ne_eq, reduceCtorEq, Int.reduceLT, Int.reduceLE, Int.reduceNeg, Int.reduceSub, Int.reduceAdd, Int.reduceMul, Int.reducePow, Int.reduceToNat, sz, D.dat, D.datL, D.dep, D.depL, szl, inb, List.any_cons, List.any_nil, Bool.true_and, Bool.false_and, Bool.and_true, Bool.and_false, Bool.or_false, Bool.false_or, Bool.true_or, Bool.or_true, Nat.max_self, Nat.max_zero, Nat.zero_max, Nat.min_self, Nat.zero_le, Nat.min_zero, Nat.zero_min, iR1, iR2, rng1, rng2, iE, itOf, sFor, bYes, Option.isNone_some, Option.isSome_some, Option.isNone_none, Option.isSome_none, Option.some.injEq, dEq_int, dNe_int, dEq_II, dEq_OO, dEq_OI, dEq_IO, dEq_PP, dNe_PP, dIs_O, dIsnt_O, dIs_I, dIsnt_I, dIs_non, dIsnt_non, dIn_IT, dIn_IL, dIdx_tup, dIdx_lst, dIdx_scr, dAdd_int, atI0, atI1, atI2, atI3, atI4, atI5, vw_last, get_last, set_last, app_last, $ls,*])

/-! part: M_k05 -/
set_option linter.all false
set_option maxRecDepth 100000
set_option maxHeartbeats 4000000
open PySem PySem.Spec L2
/-! M_k05: patterns. -/
def mtS (x : List Nat) (c : Nat) (R : Nat → Bool) : Nat → Bool := fun k => if c = 42 then (List.range (k + 1)).any R else match k with
  | 0 => false
  | k + 1 => R k && decide (x[k]? = some c)
def R0 : Nat → Bool := fun k => decide (k = 0)
def mtF (x : List Nat) (p : List Nat) : Nat → Bool := p.foldl (fun R c => mtS x c R) R0
def mt (p x : List Nat) : Bool := mtF x p x.length
def bls (R : Nat → Bool) (n : Nat) : List D := (List.range n).map fun k => .bl (R k)
theorem bls_succ (R : Nat → Bool) (n : Nat) : bls R (n + 1) = bls R n ++ [.bl (R n)] := by unfold bls; rw [List.range_succ, List.map_append]; rfl
theorem bls_len (R : Nat → Bool) (n : Nat) : (bls R n).length = n := by unfold bls; rw [List.length_map, List.length_range]
theorem bls_get {R : Nat → Bool} {n k : Nat} (h : k < n) : (bls R n)[k]? = some (.bl (R k)) := by
  unfold bls
  rw [List.getElem?_map, List.getElem?_range h]
  rfl
theorem idx_cell {H : CH} {r : Nat} {xs : List D} {k : Nat} {d : D} (e : H[r]? = some (.lst xs)) (hk : xs[k]? = some d) : dIdx (.ref r) (.int (k : Int)) H = .ok d H := by
  unfold dIdx seq vw
  dsimp only
  rw [e]
  dsimp only
  rw [L2.atI_nat hk]
theorem idx_last {H : CH} {r : Nat} {xs : List D} {d : D} (e : H[r]? = some (.lst (xs ++ [d]))) : dIdx (.ref r) (.int (-1)) H = .ok d H := by
  unfold dIdx seq vw
  dsimp only
  rw [e]
  dsimp only
  have : atI (xs ++ [d]) (-1) = some d := by
    unfold atI ixN
    rw [if_neg (by decide), List.length_append, List.length_singleton, if_pos (by omega)]
    show (xs ++ [d])[((-1 : Int) + ((xs.length + 1 : Nat) : Int)).toNat]? = some d
    rw [show ((-1 : Int) + ((xs.length + 1 : Nat) : Int)).toNat = xs.length by omega, List.getElem?_append_right (Nat.le_refl _), Nat.sub_self]
    rfl
  rw [this]
theorem star_eq (c : Nat) (h : CH) : dEq (.str ⟨#[c]⟩) (.str "*") h = .ok (.bl (decide (c = 42))) h := by
  have : ((⟨#[c]⟩ : Str) == ⟨#[42]⟩) = decide (c = 42) := by
    by_cases q : c = 42
    · subst q; simp
    · rw [decide_eq_false q, beq_eq_false_iff_ne]
      intro e
      cases e
      exact q rfl
  rw [← this]
  rfl
theorem chr_eq (a b : Nat) (h : CH) : dEq (.str ⟨#[a]⟩) (.str ⟨#[b]⟩) h = .ok (.bl (decide (a = b))) h := by
  have : ((⟨#[a]⟩ : Str) == ⟨#[b]⟩) = decide (a = b) := by
    by_cases q : a = b
    · subst q; simp
    · rw [decide_eq_false q, beq_eq_false_iff_ne]
      intro e
      cases e
      exact q rfl
  rw [← this]
  rfl
theorem app_cell5 {f : ED} {fs : AD} {ρ : Env} {h : CH} {n : Nat} {xs : List D} {d : D} (e1 : f ρ h = .ok (.ref n) h) (e2 : fs ρ h = .ok [d] h) (e : h[n]? = some (.lst xs)) (hl : xs.length < 16777216) : FK.sExpr (eMl dApp f fs) ρ h = .ok .nx ρ (h.set n (.lst (xs ++ [d]))) := by
  have : eMl dApp f fs ρ h = .ok .non (h.set n (.lst (xs ++ [d]))) := by
    unfold eMl M.bind
    rw [e1]
    dsimp only
    have v : vw h (.ref n) = .lst xs := by unfold vw; dsimp only; rw [e]
    rw [v]
    dsimp only
    rw [e2]
    dsimp only
    unfold dApp
    dsimp only
    rw [e]
    dsimp only
    rw [if_pos (by rw [szl]; exact hl)]
  unfold FK.sExpr sE
  rw [this]
  rfl
theorem ch_at (x : Str) {k c : Nat} (hx : x.length ≤ 1000) (e : (tx x)[k]? = some c) (h : CH) : dIdx (.str x) (.int (k : Int)) h = .ok (.str ⟨#[c]⟩) h := by
  unfold dIdx
  dsimp only
  rw [L2.atI_nat e]
  dsimp only
  rw [if_pos (by rw [sz]; omega)]
theorem foldl_take {α β : Type} (f : α → β → α) (a : α) {xs : List β} {i : Nat} {x : β} (e : xs[i]? = some x) : (xs.take (i + 1)).foldl f a = f ((xs.take i).foldl f a) x := by
  rw [List.take_succ, e, List.foldl_append]
  rfl
theorem chars_len (x : Str) : (chars x).length = (tx x).length := by unfold chars; rw [List.length_map]
theorem matches_ok (p x : Str) (hp : p.length ≤ 1000) (hx : x.length ≤ 1000) (h : CH) : callP 2 d_matches [.str p, .str x] h = .ok (.bl (mt (tx p) (tx x))) h := by
  have hx2 : x.length ≤ 16777216 := by omega
  have ln : ∀ h, dLen [.str x] h = .ok (.int x.length) h := fun h => if_pos (by rw [sz]; omega)
  have hr : inR (x.length : Int) := inR_nat (by omega)
  have txl : (tx x).length = x.length := tx_len x
  have txp : (tx p).length = p.length := tx_len p
  obtain ⟨d, h', e, rfl⟩ := Good.fn (N := 7) (body := b_matches) (ds := [.str p, .str x]) (h := []) (ρ := [some (.str p), some (.str x), none, none, none, none, none]) (T := fun d h' => d = .bl (mt (tx p) (tx x))) (by
    unfold b_matches
    refine Good.seq (Good.nx (ρ := [some (.str p), some (.str x), some (.ref 0), none, none, none, none]) (h := [.lst (bls R0 1)]) (by (simp_arith! [] <;> rfl)) ?_)
    refine Good.seq (Good.sFor (ds := chars x) (h1 := [.lst (bls R0 1)]) rfl (Good.forL (fun i ρ h => ∃ y3, ρ = [some (.str p), some (.str x), some (.ref 0), y3, none, none, none] ∧ h = [.lst (bls R0 (i + 1))]) _ ⟨none, rfl, rfl⟩ ?_ ?_))
    · rintro i d ρ h e ⟨y3, rfl, rfl⟩
      have hi : i < x.length := by
        have := (List.getElem?_eq_some_iff.mp e).1
        rw [chars_len] at this
        omega
      refine ⟨_, rfl, Good.nx (app_cell5 (f := eVar 2) (fs := (aCons (eC (.bl false)) (aNil))) (n := 0) (xs := bls R0 (i + 1)) (d := .bl false) rfl rfl rfl (by rw [bls_len]; omega)) ⟨_, rfl, ?_⟩⟩
      rw [bls_succ R0 (i + 1)]
      rfl
    rintro ρ h ⟨y3, rfl, rfl⟩
    rw [chars_len, txl]
    refine Good.seq (Good.sFor (ds := chars p) (h1 := [.lst (bls R0 (x.length + 1))]) rfl (Good.forL (fun j ρ h => ∃ (r : Nat) (y4 y5 y6 : Option D), ρ = [some (.str p), some (.str x), some (.ref r), y3, y4, y5, y6] ∧ h[r]? = some (.lst (bls (mtF (tx x) ((tx p).take j)) (x.length + 1)))) _ ⟨0, none, none, none, rfl, rfl⟩ ?_ ?_))
    · rintro j d ρ h e ⟨r, y4, y5, y6, rfl, hr1⟩
      obtain ⟨c, ec, rfl⟩ := chars_get e
      refine ⟨_, rfl, ?_⟩
      obtain ⟨R, hR⟩ : ∃ R, R = mtF (tx x) ((tx p).take j) := ⟨_, rfl⟩
      have hR2 : mtF (tx x) ((tx p).take (j + 1)) = mtS (tx x) c R := by
        rw [hR]
        unfold mtF
        rw [foldl_take _ _ ec]
      rw [hR2]
      rw [← hR] at hr1
      have rl : r < h.length := (List.getElem?_eq_some_iff.mp hr1).1
      have st := star_eq c h
      have i0 : dIdx (.ref r) (.int 0) h = .ok (.bl (R 0)) h := idx_cell hr1 (k := 0) (bls_get (Nat.succ_pos _))
      have b0 : (if decide (c = 42) = true then R 0 else decide (c = 42)) = mtS (tx x) c R 0 := by
        unfold mtS
        by_cases q : c = 42
        · rw [if_pos q, if_pos (decide_eq_true q)]
          simp
        · rw [if_neg q, if_neg (by rw [decide_eq_false q]; decide), decide_eq_false q]
      have first : sAsg (eNew (aCons (eAnd (FK.e2 dEq (eVar 4) (eC (.str "*"))) (FK.e2 dIdx (eVar 2) (eC (.int 0)))) (aNil))) (gN 5) [some (.str p), some (.str x), some (.ref r), y3, some (.str ⟨#[c]⟩), y5, y6] h = .ok .nx [some (.str p), some (.str x), some (.ref r), y3, some (.str ⟨#[c]⟩), some (.ref h.length), y6] (h ++ [.lst (bls (mtS (tx x) c R) 1)]) := by
        have : bls (mtS (tx x) c R) 1 = [.bl (mtS (tx x) c R 0)] := rfl
        rw [this, ← b0]
        cases q : decide (c = 42) with
        | true => rw [q] at st; (simp_arith! [st, i0] <;> rfl)
        | false => rw [q] at st; (simp_arith! [st] <;> rfl)
      refine Good.seq (Good.nx first ?_)
      obtain ⟨H0, hH0⟩ : ∃ H0, H0 = h := ⟨_, rfl⟩
      refine Good.seq (Good.sFor (ds := rangeD 0 (x.length : Int)) (h1 := h ++ [.lst (bls (mtS (tx x) c R) 1)]) (by have l1 := ln (h ++ [.lst (bls (mtS (tx x) c R) 1)]); simp_arith! [l1, if_pos hr, -dLen]) (Good.forL (fun i ρ h' => ∃ y6, ρ = [some (.str p), some (.str x), some (.ref r), y3, some (.str ⟨#[c]⟩), some (.ref h.length), y6] ∧ h' = h ++ [.lst (bls (mtS (tx x) c R) (i + 1))]) _ ⟨_, rfl, rfl⟩ ?_ ?_))
      · rintro i d ρ h' e ⟨y6, rfl, rfl⟩
        obtain ⟨rfl, hi⟩ := getElem?_rangeD e
        rw [Int.zero_add]
        have hi : i < x.length := by omega
        refine ⟨_, rfl, ?_⟩
        have gl : (h ++ [Cell.lst (bls (mtS (tx x) c R) (i + 1))])[h.length]? = some (.lst (bls (mtS (tx x) c R) (i + 1))) := get_last _ _
        have gr : (h ++ [Cell.lst (bls (mtS (tx x) c R) (i + 1))])[r]? = some (.lst (bls R (x.length + 1))) := by rw [List.getElem?_append_left rl]; exact hr1
        have st := star_eq c (h ++ [Cell.lst (bls (mtS (tx x) c R) (i + 1))])
        have j1 := idx_cell gl (k := i) (bls_get (Nat.lt_succ_self i))
        have j2 : dIdx (.ref r) (.int ((i : Int) + 1)) (h ++ [Cell.lst (bls (mtS (tx x) c R) (i + 1))]) = .ok (.bl (R (i + 1))) (h ++ [Cell.lst (bls (mtS (tx x) c R) (i + 1))]) := idx_cell gr (k := i + 1) (bls_get (by omega))
        have j3 := idx_cell gr (k := i) (bls_get (by omega))
        have se : (h ++ [Cell.lst (bls (mtS (tx x) c R) (i + 1))]).set h.length (.lst (bls (mtS (tx x) c R) (i + 1) ++ [.bl (mtS (tx x) c R (i + 1))])) = h ++ [.lst (bls (mtS (tx x) c R) (i + 1 + 1))] := by rw [set_last, bls_succ _ (i + 1)]
        have fin : ∀ {fs : AD}, fs [some (.str p), some (.str x), some (.ref r), y3, some (.str ⟨#[c]⟩), some (.ref h.length), some (.int i)] (h ++ [Cell.lst (bls (mtS (tx x) c R) (i + 1))]) = .ok [.bl (mtS (tx x) c R (i + 1))] (h ++ [Cell.lst (bls (mtS (tx x) c R) (i + 1))]) → FK.sExpr (eMl dApp (eVar 5) fs) [some (.str p), some (.str x), some (.ref r), y3, some (.str ⟨#[c]⟩), some (.ref h.length), some (.int i)] (h ++ [Cell.lst (bls (mtS (tx x) c R) (i + 1))]) = .ok .nx [some (.str p), some (.str x), some (.ref r), y3, some (.str ⟨#[c]⟩), some (.ref h.length), some (.int i)] (h ++ [.lst (bls (mtS (tx x) c R) (i + 1 + 1))]) := fun {fs} ef => by
          rw [← se]
          exact app_cell5 rfl ef gl (by rw [bls_len]; omega)
        by_cases q : c = 42
        · rw [decide_eq_true q] at st
          have v : mtS (tx x) c R (i + 1) = (if mtS (tx x) c R i = true then mtS (tx x) c R i else R (i + 1)) := by
            unfold mtS
            rw [if_pos q, if_pos q, List.range_succ (n := i + 1), List.any_append]
            cases (List.range (i + 1)).any R <;> simp
          refine Good.ifT (h ++ [Cell.lst (bls (mtS (tx x) c R) (i + 1))]) (by (simp_arith! [st] <;> rfl)) (Good.nx (fin ?_) ⟨_, rfl, rfl⟩)
          rw [v]
          generalize hL : bls (mtS (tx x) c R) (i + 1) = LL at j1 j2 ⊢
          cases q2 : mtS (tx x) c R i with
          | true => rw [q2] at j1; (simp_arith! [j1] <;> rfl)
          | false => rw [q2] at j1; (simp_arith! [j1, j2] <;> rfl)
        · rw [decide_eq_false q] at st
          obtain ⟨b, hb⟩ : ∃ b, (tx x)[i]? = some b := ⟨_, List.getElem?_eq_getElem (by omega)⟩
          have cb := chr_eq c b (h ++ [Cell.lst (bls (mtS (tx x) c R) (i + 1))])
          have ca := ch_at x hx hb (h ++ [Cell.lst (bls (mtS (tx x) c R) (i + 1))])
          have v : mtS (tx x) c R (i + 1) = (if R i = true then decide (c = b) else R i) := by
            unfold mtS
            rw [if_neg q]
            show (R i && decide ((tx x)[i]? = some c)) = _
            rw [hb]
            have : decide (some b = some c) = decide (c = b) := by
              by_cases z : c = b
              · subst z; simp
              · rw [decide_eq_false z, decide_eq_false (fun y => z (Option.some.inj y).symm)]
            rw [this]
            cases R i <;> simp
          refine Good.ifF (h ++ [Cell.lst (bls (mtS (tx x) c R) (i + 1))]) (by (simp_arith! [st] <;> rfl)) (Good.nx (fin ?_) ⟨_, rfl, rfl⟩)
          rw [v]
          generalize hL : bls (mtS (tx x) c R) (i + 1) = LL at j3 cb ca ⊢
          cases q2 : R i with
          | true => rw [q2] at j3; (simp_arith! [j3, ca, cb] <;> rfl)
          | false => rw [q2] at j3; (simp_arith! [j3] <;> rfl)
      · rintro ρ h' ⟨y6, rfl, rfl⟩
        rw [length_rangeD]
        refine Good.nx (ρ := [some (.str p), some (.str x), some (.ref h.length), y3, some (.str ⟨#[c]⟩), some (.ref h.length), y6]) (h := h ++ [.lst (bls (mtS (tx x) c R) (((x.length : Int) - 0).toNat + 1))]) rfl ⟨_, _, _, _, rfl, ?_⟩
        rw [get_last, show ((x.length : Int) - 0).toNat = x.length by omega]
    · rintro ρ h ⟨r, y4, y5, y6, rfl, hr1⟩
      rw [chars_len, List.take_length] at hr1
      have la : dIdx (.ref r) (.int (-1)) h = .ok (.bl (mt (tx p) (tx x))) h := by
        rw [bls_succ] at hr1
        have := idx_last hr1
        rw [this]
        unfold mt
        rw [txl]
      exact Good.rt (d := .bl (mt (tx p) (tx x))) (h := h) (by (simp_arith! [dNeg, la] <;> rfl)) rfl)
  exact callP_ok rfl e (fz_nr rfl)
/-! the law's own way -/
def rI (lo hi : Int) : List Int := (List.range (hi - lo).toNat).map fun k : Nat => lo + k
theorem rI_D (lo hi : Int) : rangeD lo hi = (rI lo hi).map D.int := by
  unfold rI rangeD
  rw [List.map_map]
  rfl
theorem mem_rI {lo hi z : Int} : z ∈ rI lo hi ↔ lo ≤ z ∧ z < hi := by
  unfold rI
  rw [List.mem_map]
  constructor
  · rintro ⟨k, hk, rfl⟩
    have := List.mem_range.mp hk
    omega
  · rintro ⟨h1, h2⟩
    exact ⟨(z - lo).toNat, List.mem_range.mpr (by omega), by omega⟩
def ctr (x : List Nat) (c : Nat) (a : Int) : List Int := if c = 42 then rI a (x.length + 1) else if a < x.length ∧ x[a.toNat]? = some c then [a + 1] else []
def tri : Nat → Nat
  | 0 => 0
  | n + 1 => n + 1 + tri n
theorem tri_mono : ∀ {a b : Nat}, a ≤ b → tri a ≤ tri b
  | a, 0, h => by obtain rfl := Nat.le_zero.mp h; exact Nat.le_refl _
  | a, b + 1, h => by
    rcases Nat.lt_or_ge b a with q | q
    · have : a = b + 1 := by omega
      rw [this]
      exact Nat.le_refl _
    · have := tri_mono q
      show tri a ≤ b + 1 + tri b
      omega
theorem ctr_len (x : List Nat) (c : Nat) (a : Int) (h1 : a ≤ x.length) : (ctr x c a).length ≤ ((x.length : Int) + 1 - a).toNat := by
  unfold ctr
  split
  · unfold rI
    rw [List.length_map, List.length_range]
    exact Nat.le_refl _
  · split
    · show 1 ≤ _
      omega
    · exact Nat.zero_le _
theorem few5 (x : List Nat) (c : Nat) : ∀ (E : List Int) (lo : Int), E.Pairwise (· < ·) → (∀ z ∈ E, lo ≤ z ∧ z ≤ x.length) → (E.flatMap (ctr x c)).length ≤ tri ((x.length : Int) + 1 - lo).toNat
  | [], lo, _, _ => Nat.zero_le _
  | a :: E, lo, h, b => by
    obtain ⟨h1, h2⟩ := List.pairwise_cons.mp h
    obtain ⟨b1, b2⟩ := b a List.mem_cons_self
    have ih := few5 x c E (a + 1) h2 fun z hz => ⟨by have := h1 z hz; omega, (b z (List.mem_cons_of_mem _ hz)).2⟩
    have l := ctr_len x c a b2
    rw [List.flatMap_cons, List.length_append]
    have e : ((x.length : Int) + 1 - a).toNat = ((x.length : Int) + 1 - (a + 1)).toNat + 1 := by omega
    have t : tri ((x.length : Int) + 1 - a).toNat = ((x.length : Int) + 1 - a).toNat + tri ((x.length : Int) + 1 - (a + 1)).toNat := by rw [e]; rfl
    have mo := tri_mono (a := ((x.length : Int) + 1 - a).toNat) (b := ((x.length : Int) + 1 - lo).toNat) (by omega)
    omega
theorem intsD_map : ∀ ns : List Int, intsD (ns.map D.int) = some ns
  | [] => rfl
  | n :: ns => by
    show (intsD (ns.map D.int)).map (n :: ·) = _
    rw [intsD_map ns]
    rfl
theorem dIn_ints (k : Int) (E : List Int) (h : CH) : dIn (.int k) (.lst (E.map .int)) h = .ok (.bl (decide (k ∈ E))) h := by
  have dl : ∀ E : List Int, D.datL (E.map D.int) = true := fun E => by
    induction E with
    | nil => rfl
    | cons a E ih => exact ih
  have ib : ∀ E : List Int, inb (.int k) (E.map .int) = decide (k ∈ E) := fun E => by
    unfold inb
    induction E with
    | nil => simp
    | cons a E ih =>
      rw [List.map_cons, List.any_cons, ih]
      have : D.eqb (.int a) (.int k) = decide (k = a) := by
        show (a == k) = _
        by_cases q : k = a
        · subst q; simp
        · rw [decide_eq_false q, beq_eq_false_iff_ne]; omega
      rw [this]
      by_cases q : k = a <;> simp [q]
  show (if (vw h (.int k)).dat = true ∧ D.datL (E.map D.int) = true ∧ (vw h (.int k)).dep ≤ 60 then R.ok (D.bl (inb (vw h (.int k)) (E.map D.int))) h else .bad) = _
  rw [show vw h (.int k) = .int k from rfl, if_pos ⟨rfl, dl E, by show 0 ≤ 60; decide⟩, ib]
structure Ends5 (x : List Nat) (R : Nat → Bool) (E : List Int) : Prop where
  asc : E.Pairwise (· < ·)
  bd : ∀ z ∈ E, 0 ≤ z ∧ z ≤ x.length
  eq : ∀ k : Nat, k ≤ x.length → ((k : Int) ∈ E ↔ R k = true)
theorem Ends5.step {x : List Nat} {R : Nat → Bool} {E : List Int} (w : Ends5 x R E) (c : Nat) : Ends5 x (mtS x c R) (sortU (E.flatMap (ctr x c))) := by
  refine ⟨asc_sortU _, fun z hz => ?_, fun k hk => ?_⟩
  · rw [mem_sortU, List.mem_flatMap] at hz
    obtain ⟨a, ha, hz⟩ := hz
    have b := w.bd a ha
    unfold ctr at hz
    split at hz
    · have := mem_rI.mp hz; omega
    · split at hz
      · rw [List.mem_singleton.mp hz]; omega
      · cases hz
  · rw [mem_sortU, List.mem_flatMap]
    unfold mtS ctr
    by_cases q : c = 42
    · rw [if_pos q, List.any_eq_true]
      simp only [if_pos q]
      constructor
      · rintro ⟨a, ha, hz⟩
        have b := w.bd a ha
        have z := mem_rI.mp hz
        have e := (w.eq a.toNat (by omega)).mp (by rw [show ((a.toNat : Nat) : Int) = a by omega]; exact ha)
        exact ⟨a.toNat, List.mem_range.mpr (by omega), e⟩
      · rintro ⟨j, hj, e⟩
        have hj := List.mem_range.mp hj
        exact ⟨(j : Int), (w.eq j (by omega)).mpr e, mem_rI.mpr (by omega)⟩
    · rw [if_neg q]
      simp only [if_neg q]
      cases k with
      | zero =>
        constructor
        · rintro ⟨a, ha, hz⟩
          have b := w.bd a ha
          split at hz
          · have := List.mem_singleton.mp hz; omega
          · cases hz
        · intro z; cases z
      | succ k =>
        show _ ↔ (R k && decide (x[k]? = some c)) = true
        rw [Bool.and_eq_true, decide_eq_true_eq]
        constructor
        · rintro ⟨a, ha, hz⟩
          split at hz
          · rename_i g
            have z := List.mem_singleton.mp hz
            have e : a = (k : Int) := by omega
            subst e
            exact ⟨(w.eq k (by omega)).mp ha, g.2⟩
          · cases hz
        · rintro ⟨h1, h2⟩
          refine ⟨(k : Int), (w.eq k (by omega)).mpr h1, ?_⟩
          rw [if_pos ⟨by omega, by rw [Int.toNat_natCast]; exact h2⟩]
          rw [List.mem_singleton]; omega
theorem ends0 (x : List Nat) : Ends5 x R0 [0] := ⟨List.pairwise_singleton _ _, fun z hz => by rw [List.mem_singleton.mp hz]; omega, fun k _ => by
  unfold R0
  rw [List.mem_singleton, decide_eq_true_eq]
  omega⟩
theorem l_matches_ok (p x : Str) (hp : p.length ≤ 1000) (hx : x.length ≤ 8) (h : CH) : callP 2 d_l_matches [.str p, .str x] h = .ok (.bl (mt (tx p) (tx x))) h := by
  have txl : (tx x).length = x.length := tx_len x
  have ln : ∀ h, dLen [.str x] h = .ok (.int x.length) h := fun h => if_pos (by rw [sz]; omega)
  obtain ⟨d, h', e, rfl⟩ := Good.fn (N := 6) (body := b_l_matches) (ds := [.str p, .str x]) (h := []) (ρ := [some (.str p), some (.str x), none, none, none, none]) (T := fun d h' => d = .bl (mt (tx p) (tx x))) (by
    unfold b_l_matches
    refine Good.seq (Good.nx (ρ := [some (.str p), some (.str x), some (.lst (([0] : List Int).map .int)), none, none, none]) (h := []) (by (simp_arith! [] <;> rfl)) ?_)
    refine Good.seq (Good.sFor (ds := chars p) (h1 := []) rfl (Good.forL (fun j ρ h => ∃ (E : List Int) (y3 y4 y5 : Option D), ρ = [some (.str p), some (.str x), some (.lst (E.map .int)), y3, y4, y5] ∧ Ends5 (tx x) (mtF (tx x) ((tx p).take j)) E) _ ⟨[0], none, none, none, rfl, ends0 _⟩ ?_ ?_))
    · rintro j d ρ h e ⟨E, y3, y4, y5, rfl, w⟩
      obtain ⟨c, ec, rfl⟩ := chars_get e
      refine ⟨_, rfl, ?_⟩
      have hR2 : mtF (tx x) ((tx p).take (j + 1)) = mtS (tx x) c (mtF (tx x) ((tx p).take j)) := by
        unfold mtF
        rw [foldl_take _ _ ec]
      have w2 := w.step c
      rw [← hR2] at w2
      have few : (E.flatMap (ctr (tx x) c)).length ≤ 45 := by
        have := few5 (tx x) c E 0 w.asc w.bd
        have m := tri_mono (a := (((tx x).length : Int) + 1 - 0).toNat) (b := 9) (by omega)
        have : tri 9 = 45 := rfl
        omega
      obtain ⟨EE, hEE⟩ : ∃ X, X = D.lst (E.map D.int) := ⟨_, rfl⟩
      have itE : ∀ h, itOf EE h = .ok (E.map D.int, none) h := fun h => by rw [hEE]; rfl
      rw [← hEE]
      have nw := eNew_nil [some (.str p), some (.str x), some EE, some (.str ⟨#[c]⟩), y4, y5] h
      refine Good.seq (Good.nx (ρ := [some (.str p), some (.str x), some EE, some (.str ⟨#[c]⟩), some (.ref h.length), y5]) (h := h ++ [.lst []]) (by simp_arith! [eNew_nil, -eNew]) ?_)
      refine Good.seq (Good.pre (en := D.int) (o := none) (xs := E) (h := h ++ [.lst []]) (I := fun pre ρ H => ∃ (m : Nat) (y5 : Option D), ρ = [some (.str p), some (.str x), some EE, some (.str ⟨#[c]⟩), some (.ref m), y5] ∧ H[m]? = some (.lst ((pre.flatMap (ctr (tx x) c)).map .int))) (by show itOf EE _ = _; exact itE _) ⟨_, _, rfl, get_last _ _⟩ (fun _ _ _ _ => trivial) ?_ ?_)
      · rintro pre a post hE ρ H ⟨m, y5, rfl, hm⟩
        refine ⟨_, rfl, ?_⟩
        have am : a ∈ E := by rw [hE]; simp
        have ab := w.bd a am
        have st := star_eq c H
        have ll := ln H
        have pl : (pre.flatMap (ctr (tx x) c)).length ≤ 45 := by
          have := few
          rw [hE, List.flatMap_append, List.length_append] at this
          omega
        have fl : (pre ++ [a]).flatMap (ctr (tx x) c) = pre.flatMap (ctr (tx x) c) ++ ctr (tx x) c a := by rw [List.flatMap_append, List.flatMap_cons, List.flatMap_nil, List.append_nil]
        have lr : lstOf H (.ref m) = some ((pre.flatMap (ctr (tx x) c)).map .int) := by unfold lstOf vw; dsimp only; rw [hm]
        by_cases q : c = 42
        · rw [decide_eq_true q] at st
          have ct : ctr (tx x) c a = rI a (x.length + 1) := by unfold ctr; rw [if_pos q, txl]
          have lrg : dListR [.int a, .int ((x.length : Int) + 1)] H = .ok (.lst ((rI a (x.length + 1)).map .int)) H := by
            unfold dListR
            dsimp only
            rw [if_pos ⟨⟨by omega, by omega, by omega, by omega⟩, by omega⟩, rI_D]
          have cl : (rI a (x.length + 1)).length ≤ 10 := by unfold rI; rw [List.length_map, List.length_range]; omega
          have ad : dAddC (.ref m) (.lst ((rI a (x.length + 1)).map .int)) H = .ok (.ref H.length) (H ++ [.lst (((pre ++ [a]).flatMap (ctr (tx x) c)).map .int)]) := by
            unfold dAddC
            rw [lr, show lstOf H (.lst ((rI a (x.length + 1)).map .int)) = some ((rI a (x.length + 1)).map .int) from rfl]
            dsimp only
            rw [if_pos (by rw [sz, List.length_map, List.length_map]; omega), fl, ct, List.map_append]
          refine Good.ifT H (by (simp_arith! [st] <;> rfl)) (Good.nx (ρ := [some (.str p), some (.str x), some EE, some (.str ⟨#[c]⟩), some (.ref H.length), some (.int a)]) (h := H ++ [.lst (((pre ++ [a]).flatMap (ctr (tx x) c)).map .int)]) ?_ ⟨_, _, rfl, get_last _ _⟩)
          generalize hL : (rI a (x.length + 1)).map D.int = LL at lrg ad
          (simp_arith! [eLr, ll, lrg, ad, -dLen] <;> rfl)
        · rw [decide_eq_false q] at st
          refine Good.ifF H (by (simp_arith! [st] <;> rfl)) ?_
          by_cases b : a < (x.length : Int)
          · obtain ⟨ca, hca⟩ : ∃ ca, (tx x)[a.toNat]? = some ca := ⟨_, List.getElem?_eq_getElem (by omega)⟩
            have xa := ch_at x (by omega) hca H
            rw [show ((a.toNat : Nat) : Int) = a by omega] at xa
            have ce := chr_eq ca c H
            have bb := decide_eq_true b
            by_cases g : ca = c
            · rw [decide_eq_true g] at ce
              have ct : ctr (tx x) c a = [a + 1] := by unfold ctr; rw [if_neg q, if_pos ⟨by omega, by rw [hca, g]⟩]
              have ap := app_cell5 (f := eVar 4) (fs := (aCons (FK.e2 dAdd (eVar 5) (eC (.int 1))) (aNil))) (ρ := [some (.str p), some (.str x), some EE, some (.str ⟨#[c]⟩), some (.ref m), some (.int a)]) (h := H) (n := m) (xs := (pre.flatMap (ctr (tx x) c)).map .int) (d := .int (a + 1)) rfl rfl hm (by rw [List.length_map]; omega)
              refine Good.ifT H (by (simp_arith! [ll, bb, xa, ce, -dLen] <;> rfl)) (Good.nx ap ⟨m, _, rfl, ?_⟩)
              rw [List.getElem?_set_self (List.getElem?_eq_some_iff.mp hm).1, fl, ct, List.map_append]
              rfl
            · rw [decide_eq_false g] at ce
              have ct : ctr (tx x) c a = [] := by unfold ctr; rw [if_neg q, if_neg (fun z => g (by rw [hca] at z; exact Option.some.inj z.2))]
              exact Good.ifF H (by (simp_arith! [ll, bb, xa, ce, -dLen] <;> rfl)) (Good.nx rfl ⟨m, _, rfl, by rw [fl, ct, List.append_nil]; exact hm⟩)
          · have bb := decide_eq_false b
            have ct : ctr (tx x) c a = [] := by unfold ctr; rw [if_neg q, if_neg (fun z => b (by omega))]
            exact Good.ifF H (by (simp_arith! [ll, bb, -dLen] <;> rfl)) (Good.nx rfl ⟨m, _, rfl, by rw [fl, ct, List.append_nil]; exact hm⟩)
      · rintro ρ H ⟨m, y5, rfl, hm⟩
        have lr : lstOf H (.ref m) = some ((E.flatMap (ctr (tx x) c)).map .int) := by unfold lstOf vw; dsimp only; rw [hm]
        have so : dSortSet (.ref m) H = .ok (.lst ((sortU (E.flatMap (ctr (tx x) c))).map .int)) H := by
          unfold dSortSet
          rw [lr]
          dsimp only
          rw [intsD_map]
          dsimp only
          rw [if_pos (by omega)]
        exact Good.nx (ρ := [some (.str p), some (.str x), some (.lst ((sortU (E.flatMap (ctr (tx x) c))).map .int)), some (.str ⟨#[c]⟩), some (.ref m), y5]) (h := H) (by (simp_arith! [so] <;> rfl)) ⟨_, _, _, _, rfl, w2⟩
    · rintro ρ h ⟨E, y3, y4, y5, rfl, w⟩
      rw [chars_len, List.take_length] at w
      have di := dIn_ints (x.length : Int) E h
      have : decide ((x.length : Int) ∈ E) = mt (tx p) (tx x) := by
        have := w.eq x.length (by omega)
        unfold mt
        rw [txl]
        cases q : mtF (tx x) (tx p) x.length with
        | true => exact decide_eq_true (this.mpr q)
        | false => exact decide_eq_false fun z => by rw [this.mp z] at q; cases q
      rw [this] at di
      obtain ⟨EE, hEE⟩ : ∃ X, X = D.lst (E.map D.int) := ⟨_, rfl⟩
      rw [← hEE] at di ⊢
      have ll := ln h
      exact Good.rt (d := .bl (mt (tx p) (tx x))) (h := h) (by (simp_arith! [ll, di, -dLen] <;> rfl)) rfl)
  exact callP_ok rfl e (fz_nr rfl)
theorem ignored_ok (ps : List Str) (hp : ∀ p ∈ ps, p.length ≤ 1000) (x : Str) (hx : x.length ≤ 1000) (h : CH) : callP 2 d_ignored [.lst (ps.map .str), .str x] h = .ok (.bl (ps.any fun p => mt (tx p) (tx x))) h := by
  have nr : D.nrL [.lst (ps.map .str), .str x] = true := by
    show (D.nrL (ps.map .str) && (true && true)) = true
    rw [nrL_strs]; rfl
  obtain ⟨d, h', e, rfl⟩ := Good.fn (N := 3) (body := b_ignored) (ds := [.lst (ps.map .str), .str x]) (h := []) (ρ := [some (.lst (ps.map .str)), some (.str x), none]) (T := fun d h' => d = .bl (ps.any fun p => mt (tx p) (tx x))) (by
    unfold b_ignored
    obtain ⟨PS, hPS⟩ : ∃ X, X = D.lst (ps.map D.str) := ⟨_, rfl⟩
    have itP : ∀ h, itOf PS h = .ok (ps.map D.str, none) h := fun h => by rw [hPS]; rfl
    rw [← hPS]
    refine Good.seq (Good.pre (en := D.str) (o := none) (xs := ps) (h := []) (I := fun pre ρ H => ∃ y2, ρ = [some PS, some (.str x), y2] ∧ (pre.any fun p => mt (tx p) (tx x)) = false) (by show itOf PS _ = _; exact itP _) ⟨_, rfl, rfl⟩ (fun _ _ _ _ => trivial) ?_ ?_)
    · rintro pre p post hx2 ρ H ⟨y2, rfl, hf⟩
      refine ⟨_, rfl, ?_⟩
      have pm : p ∈ ps := by rw [hx2]; simp
      have m := matches_ok p x (hp p pm) hx H
      cases q : mt (tx p) (tx x) with
      | true =>
        rw [q] at m
        refine Good.ifT H (by (simp_arith! [m] <;> rfl)) (Good.rt (d := .bl true) rfl ?_)
        rw [List.any_eq_true.mpr ⟨p, pm, q⟩]
      | false =>
        rw [q] at m
        exact Good.ifF H (by (simp_arith! [m] <;> rfl)) (Good.nx rfl ⟨_, rfl, by rw [List.any_append, hf, List.any_cons, q]; rfl⟩)
    · rintro ρ H ⟨y2, rfl, hf⟩
      exact Good.rt (d := .bl false) (h := H) rfl (by rw [hf]))
  exact callP_ok nr e (fz_nr rfl)
theorem l_word_ok (cs : List Int) (hl : cs.length = 50) (a n : Nat) (hb : a + n ≤ 50) (m : Str) (m0 : 0 < m.length) (m1 : m.length ≤ 10) (h : CH) : ∃ y : Str, y.length = n ∧ callP 4 d_l_word [.lst (cs.map .int), .int a, .int n, .str m] h = .ok (.str y) h := by
  have hr : inR (n : Int) := inR_nat (by omega)
  obtain ⟨C, hC⟩ : ∃ C, C = D.lst (cs.map .int) := ⟨_, rfl⟩
  have nrC : D.nr C = true := by rw [hC]; exact nrL_ints cs
  have at_ : ∀ (j : Nat), a + j < cs.length → ∃ c, ∀ h, dIdx C (.int ((a : Int) + (j : Int))) h = .ok (.int c) h := fun j hj => by
    obtain ⟨c, e⟩ := atI_in (ns := cs) (k := (a : Int) + (j : Int)) (by omega) (by omega)
    refine ⟨c, fun h => ?_⟩
    rw [hC, dIdx_lst, e]
  rw [← hC]
  have ln : ∀ h, dLen [.str m] h = .ok (.int m.length) h := fun h => if_pos (by rw [sz]; omega)
  have mp : (0 : Int) < m.length := by omega
  obtain ⟨d, h', e, y, rfl, hy⟩ := Good.fn (N := 6) (body := b_l_word) (ds := [C, .int a, .int n, .str m]) (h := []) (ρ := [some C, some (.int a), some (.int n), some (.str m), none, none]) (T := fun d h' => ∃ y : Str, d = .str y ∧ y.length = n) (by
    unfold b_l_word
    refine Good.seq (Good.nx (ρ := [some C, some (.int a), some (.int n), some (.str m), some (.str ""), none]) (h := []) rfl ?_)
    refine Good.seq (Good.sFor (ds := rangeD 0 n) (h1 := []) (by simp_arith! [if_pos hr]) (Good.forL (fun j ρ h => ∃ (y : Str) (y5 : Option D), ρ = [some C, some (.int a), some (.int n), some (.str m), some (.str y), y5] ∧ y.length = j) _ ⟨_, _, rfl, rfl⟩ ?_ ?_))
    · rintro j d ρ h e ⟨y, y5, rfl, hy⟩
      obtain ⟨rfl, hj⟩ := getElem?_rangeD e
      rw [Int.zero_add]
      refine ⟨_, rfl, ?_⟩
      obtain ⟨c, ec⟩ := at_ j (by omega)
      have ll := ln h
      have q0 := Int.emod_nonneg c (show (m.length : Int) ≠ 0 by omega)
      have q1 := Int.emod_lt_of_pos c mp
      obtain ⟨u, hu⟩ : ∃ u, (tx m)[(c % m.length).toNat]? = some u := ⟨_, List.getElem?_eq_getElem (by rw [tx_len]; omega)⟩
      have xa := ch_at m (by omega) hu h
      rw [show (((c % (m.length : Int)).toNat : Nat) : Int) = c % m.length by omega] at xa
      have ad : dAdd (.str y) (.str ⟨#[u]⟩) h = .ok (.str (y ++ ⟨#[u]⟩)) h := if_pos (by rw [sz, hy]; show j + 1 ≤ _; omega)
      have ec := ec h
      exact Good.nx (ρ := [some C, some (.int a), some (.int n), some (.str m), some (.str (y ++ ⟨#[u]⟩)), some (.int j)]) (h := h) (by (simp_arith! [ec, ll, if_pos mp, xa, ad, -dLen] <;> rfl)) ⟨_, _, rfl, by rw [PySem.Str.length_append, hy]; rfl⟩
    · rintro ρ h ⟨y, y5, rfl, hy⟩
      rw [length_rangeD] at hy
      exact Good.rt (d := .str y) (h := h) rfl ⟨y, rfl, by omega⟩)
  exact ⟨y, hy, callP_ok (by show (D.nr C && (true && (true && (true && true)))) = true; rw [nrC]; rfl) e (fz_nr rfl)⟩
theorem law_true : ∀ ns : List Int, ns.length ≤ 63 → ∃ h, d_law [scrD ns] [] = .ok (.bl true) h := by
  intro ns hl
  suffices g : ∃ d H, fnD 8 b_law [scrD ns] [] = .ok d H ∧ d = .bl true by
    obtain ⟨d, H, e, rfl⟩ := g
    exact ⟨H, e⟩
  refine Good.fn (N := 8) (body := b_law) (ds := [scrD ns]) (h := []) (ρ := [some (scrD ns), none, none, none, none, none, none, none]) (T := fun d _ => d = .bl true) ?_
  unfold b_law
  obtain ⟨cs, hcl, hc0, ce⟩ := cells_ok ns 50 hl (by decide) []
  have ce : callP 2 d_l_cells [scrD ns, .int 50] [] = .ok (.lst (cs.map .int)) [] := ce
  obtain ⟨CS, hCS⟩ : ∃ X, X = D.lst (cs.map .int) := ⟨_, rfl⟩
  have at_ : ∀ (j : Int), 0 ≤ j → j < 50 → ∃ c, ∀ h, dIdx CS (.int j) h = .ok (.int c) h := fun j h0 hj => by
    obtain ⟨c, e⟩ := atI_in (ns := cs) (k := j) h0 (by omega)
    refine ⟨c, fun h => ?_⟩
    rw [hCS, dIdx_lst, e]
  have wd : ∀ (a n : Int) (m : Str), 0 ≤ a → 0 ≤ n → a + n ≤ 50 → 0 < m.length → m.length ≤ 10 → ∀ h, ∃ y : Str, (y.length : Int) = n ∧ callP 4 d_l_word [CS, .int a, .int n, .str m] h = .ok (.str y) h := fun a n m a0 n0 b m0 m1 h => by
    obtain ⟨y, hy, e⟩ := l_word_ok cs hcl a.toNat n.toNat (by omega) m m0 m1 h
    rw [← hCS, show ((a.toNat : Nat) : Int) = a by omega, show ((n.toNat : Nat) : Int) = n by omega] at e
    exact ⟨y, by omega, e⟩
  rw [← hCS] at ce
  obtain ⟨c9, e9⟩ := at_ 9 (by decide) (by decide)
  obtain ⟨c45, e45⟩ := at_ 45 (by decide) (by decide)
  obtain ⟨c46, e46⟩ := at_ 46 (by decide) (by decide)
  obtain ⟨c47, e47⟩ := at_ 47 (by decide) (by decide)
  obtain ⟨x, hx, ex⟩ := wd 0 (1 + c9 % 8) "abA" (by decide) (by omega) (by omega) (by decide +kernel) (by decide +kernel) []
  have xl : x.length ≤ 8 := by omega
  have x1 : 1 ≤ x.length := by omega
  refine Good.seq (Good.nx (ρ := [some (scrD ns), some CS, none, none, none, none, none, none]) (h := []) (by (simp_arith! [ce] <;> rfl)) ?_)
  refine Good.seq (Good.nx (ρ := [some (scrD ns), some CS, some (.str x), none, none, none, none, none]) (h := []) (by (simp_arith! [e9, ex] <;> rfl)) ?_)
  refine Good.seq (Good.nx (ρ := [some (scrD ns), some CS, some (.str x), some (.ref 0), none, none, none, none]) (h := [.lst (([] : List Str).map D.str)]) (by simp_arith! [eNew_nil, -eNew]) ?_)
  have h3 : inR (3 : Int) := inR_nat (n := 3) (by decide)
  refine Good.seq (Good.sFor (ds := rangeD 0 3) (h1 := [.lst (([] : List Str).map D.str)]) (by simp_arith! [if_pos h3]) (Good.forL (fun j ρ h => ∃ (y4 : Option D) (ps : List Str), ρ = [some (scrD ns), some CS, some (.str x), some (.ref 0), y4, none, none, none] ∧ h = [.lst (ps.map D.str)] ∧ ps.length = j ∧ ∀ p ∈ ps, p.length ≤ 10) _ ⟨none, [], rfl, rfl, rfl, by simp⟩ ?_ ?_))
  · rintro j d ρ h e ⟨y4, ps, rfl, rfl, hj, hp⟩
    obtain ⟨rfl, hj2⟩ := getElem?_rangeD e
    rw [Int.zero_add]
    refine ⟨_, rfl, ?_⟩
    obtain ⟨c, ec⟩ := at_ (19 + 10 * (j : Int)) (by omega) (by omega)
    obtain ⟨y, hy, ey⟩ := wd (10 + 10 * (j : Int)) (c % 8) "ab**A" (by omega) (by omega) (by omega) (by decide +kernel) (by decide +kernel) [.lst (ps.map D.str)]
    have m1 : ∀ h, dMul (.int 10) (.int (j : Int)) h = .ok (.int (10 * (j : Int))) h := fun h => if_pos (.inl (by decide))
    have m1 := m1 [.lst (ps.map D.str)]
    have ap := app_cell5 (f := eVar 3) (fs := (aCons (eCall (callP 4 d_l_word) (aCons (eVar 1) (aCons (FK.e2 dAdd (eC (.int 10)) (FK.e2 dMul (eC (.int 10)) (eVar 4))) (aCons (FK.e2 dMod (eCall dInt (aCons (FK.e2 dIdx (eVar 1) (FK.e2 dAdd (eC (.int 19)) (FK.e2 dMul (eC (.int 10)) (eVar 4)))) (aNil))) (eC (.int 8))) (aCons (eC (.str "ab**A")) (aNil)))))) (aNil))) (ρ := [some (scrD ns), some CS, some (.str x), some (.ref 0), some (.int j), none, none, none]) (h := [.lst (ps.map D.str)]) (n := 0) (xs := ps.map D.str) (d := .str y) rfl (by (simp_arith! [m1, ec, ey, -dMul] <;> rfl)) rfl (by rw [List.length_map]; omega)
    refine Good.nx ap ⟨_, ps ++ [y], rfl, by rw [List.map_append]; rfl, by simp [hj], fun p hp2 => ?_⟩
    rcases List.mem_append.mp hp2 with z | z
    · exact hp p z
    · rw [List.mem_singleton.mp z]; omega
  rintro ρ h ⟨y4, ps, rfl, rfl, hj, hp⟩
  rw [length_rangeD] at hj
  have hj : ps.length = 3 := by omega
  refine Good.seq (Good.cut (N' := fun ρ h => ∃ ps : List Str, ρ = [some (scrD ns), some CS, some (.str x), some (.ref 0), y4, none, none, none] ∧ h = [.lst (ps.map D.str)] ∧ ps.length = 3 ∧ ∀ p ∈ ps, p.length ≤ 10) (Good.ite (h1 := [.lst (ps.map D.str)]) (decide (c45 % 3 = 0)) (by (simp_arith! [e45] <;> rfl)) (fun q => ?_) (fun q => Good.nx rfl ⟨ps, rfl, rfl, hj, hp⟩)) ?_)
  · have mp : (0 : Int) < x.length := by omega
    have ll : dLen [.str x] [.lst (ps.map D.str)] = .ok (.int x.length) [.lst (ps.map D.str)] := if_pos (by rw [sz]; omega)
    obtain ⟨z, hz⟩ : ∃ z, z = cutS x (some (c46 % x.length)) none := ⟨_, rfl⟩
    have zl : z.length ≤ 8 := by
      have := len_cut_le x (some (c46 % x.length)) none
      rw [hz]; omega
    have s1 : dSl (.str x) (some (c46 % x.length)) none [.lst (ps.map D.str)] = .ok (.str z) [.lst (ps.map D.str)] := by
      rw [hz]
      exact if_pos (by rw [sz]; omega)
    have sl : (Str.ofString "*").length = 1 := by decide +kernel
    have a1 : dAdd (.str "*") (.str z) [.lst (ps.map D.str)] = .ok (.str ("*" ++ z)) [.lst (ps.map D.str)] := if_pos (by rw [sz, sl]; omega)
    have zl2 : (("*" : Str) ++ z).length ≤ 9 := by rw [PySem.Str.length_append, sl]; omega
    have a2 : dAdd (.str ("*" ++ z)) (.str "*") [.lst (ps.map D.str)] = .ok (.str ("*" ++ z ++ "*")) [.lst (ps.map D.str)] := if_pos (by rw [sz, sl]; omega)
    have zl3 : (("*" : Str) ++ z ++ "*").length ≤ 10 := by rw [PySem.Str.length_append, sl]; omega
    refine Good.nx (ρ := [some (scrD ns), some CS, some (.str x), some (.ref 0), y4, none, none, none]) (h := [.lst ((ps.set 0 ("*" ++ z ++ "*")).map D.str)]) ?_ ⟨_, rfl, rfl, by rw [List.length_set]; exact hj, fun p hp2 => ?_⟩
    · obtain ⟨XS, hXS⟩ : ∃ X, X = ps.map D.str := ⟨_, rfl⟩
      have xs3 : XS.length = 3 := by rw [hXS, List.length_map, hj]
      rw [← hXS] at ll s1 a1 a2
      have st : ∀ d : D, sSetL (eVar 3) (eC (.int 0)) (eC d) [some (scrD ns), some CS, some (.str x), some (.ref 0), y4, none, none, none] [.lst XS] = .ok .nx [some (scrD ns), some CS, some (.str x), some (.ref 0), y4, none, none, none] [.lst (XS.set 0 d)] := fun d => by
        unfold sSetL sE eC eVar
        show (match ixN XS.length 0 with | some j => _ | none => _) = _
        rw [xs3]
        rfl
      have ev : (FK.e2 dAdd (FK.e2 dAdd (eC (.str "*")) (eSl (eVar 2) (oSome (FK.e2 dMod (eCall dInt (aCons (FK.e2 dIdx (eVar 1) (eC (.int 46))) (aNil))) (eCall dLen (aCons (eVar 2) (aNil))))) (oNone))) (eC (.str "*"))) [some (scrD ns), some CS, some (.str x), some (.ref 0), y4, none, none, none] [.lst XS] = .ok (.str ("*" ++ z ++ "*")) [.lst XS] := by
        (simp_arith! [e46, ll, if_pos mp, s1, a1, a2, -dLen, -dSl] <;> rfl)
      have := st (.str ("*" ++ z ++ "*"))
      rw [List.map_set, ← hXS]
      refine Eq.trans ?_ this
      unfold sSetL sE
      rw [ev]
      rfl
    · rcases List.mem_or_eq_of_mem_set hp2 with q | q
      · exact hp p q
      · rw [q]; exact zl3
  rintro ρ h ⟨ps, rfl, rfl, hj, hp⟩
  obtain ⟨H, hH⟩ : ∃ H : CH, H = [.lst (ps.map D.str)] := ⟨_, rfl⟩
  have g0 : H[0]? = some (.lst (ps.map D.str)) := by rw [hH]; rfl
  rw [← hH]
  have it : itOf (.ref 0) H = .ok (ps.map D.str, some 0) H := by
    unfold itOf
    dsimp only
    rw [g0]
  refine Good.seq (Good.pre (en := D.str) (o := some 0) (xs := ps) (h := H) (I := fun pre ρ h => h = H ∧ ∃ y5, ρ = [some (scrD ns), some CS, some (.str x), some (.ref 0), y4, y5, none, none]) (by show itOf (.ref 0) _ = _; exact it) ⟨rfl, _, rfl⟩ (fun _ _ _ hI => by obtain ⟨rfl, _⟩ := hI; exact g0) ?_ ?_)
  · rintro pre p post hx2 ρ h' ⟨hh, y5, rfl⟩
    obtain rfl := hh.symm
    refine ⟨_, rfl, ?_⟩
    have pm := hp p (by rw [hx2]; simp)
    have a := matches_ok p x (by omega) (by omega) H
    have b := l_matches_ok p x (by omega) xl H
    have n1 : dNe (.bl (mt (tx p) (tx x))) (.bl (mt (tx p) (tx x))) H = .ok (.bl false) H := by cases mt (tx p) (tx x) <;> rfl
    exact Good.ifF H (by (simp_arith! [a, b, n1] <;> rfl)) (Good.nx rfl ⟨rfl, _, rfl⟩)
  rintro ρ h' ⟨hh, y5, rfl⟩
  obtain rfl := hh.symm
  refine Good.seq (Good.nx (ρ := [some (scrD ns), some CS, some (.str x), some (.ref 0), y4, y5, some (.int (c47 % 4)), none]) (h := H) (by (simp_arith! [e47] <;> rfl)) ?_)
  obtain ⟨n, hn⟩ : ∃ n : Nat, (n : Int) = c47 % 4 := ⟨(c47 % 4).toNat, by omega⟩
  have sl : dSl (.ref 0) none (some (c47 % 4)) H = .ok (.lst ((ps.take n).map D.str)) H := by
    have v : vw H (.ref 0) = .lst (ps.map D.str) := by unfold vw; dsimp only; rw [g0]
    unfold dSl
    dsimp only
    rw [v]
    dsimp only
    rw [← hn, cut_to (by rw [List.length_map]; omega), ← List.map_take]
  have tp : ∀ p ∈ ps.take n, p.length ≤ 1000 := fun p h => Nat.le_trans (hp p (List.mem_of_mem_take h)) (by decide)
  have l := eLc_fm (en := D.str) (fun _ => true) (fun p => .bl (mt (tx p) (tx x))) (it := (iE (eSl (eVar 3) (oNone) (oSome (eVar 6))))) (g := gN 5) (b := bYes) (f := (eCall (callP 2 d_l_matches) (aCons (eVar 5) (aCons (eVar 2) (aNil))))) (vs := [5]) (ρ := [some (scrD ns), some CS, some (.str x), some (.ref 0), y4, y5, some (.int (c47 % 4)), none]) (h := H) (o := none) (xs := ps.take n) (by (simp_arith! [sl, -dSl] <;> rfl)) trivial (by rw [List.length_take]; omega) (fun p hp => ⟨_, wipe_gN, rfl, fun _ => by have b := l_matches_ok p x (tp p hp) xl H; (simp_arith! [b] <;> rfl)⟩)
  rw [List.filter_eq_self.mpr (by simp), show (fun p : Str => D.bl (mt (tx p) (tx x))) = D.bl ∘ (fun p => mt (tx p) (tx x)) from rfl, ← List.map_map] at l
  have an : dAny [.lst (((ps.take n).map fun p => mt (tx p) (tx x)).map D.bl)] H = .ok (.bl ((ps.take n).any fun p => mt (tx p) (tx x))) H := by
    unfold dAny
    dsimp only
    show (match blsD _ with | some bs => R.ok (D.bl (bs.any id)) H | none => .bad) = _
    rw [blsD_map]
    dsimp only
    rw [List.any_map]
    rfl
  obtain ⟨BL, hBL⟩ : ∃ X, X = D.lst (((ps.take n).map fun p => mt (tx p) (tx x)).map D.bl) := ⟨_, rfl⟩
  rw [← hBL] at l an
  refine Good.seq (Good.nx (ρ := [some (scrD ns), some CS, some (.str x), some (.ref 0), y4, y5, some (.int (c47 % 4)), some (.bl ((ps.take n).any fun p => mt (tx p) (tx x)))]) (h := H) (by (simp_arith! [l, an] <;> rfl)) ?_)
  have ig := ignored_ok (ps.take n) tp x (by omega) H
  have eqb : dEq (.bl ((ps.take n).any fun p => mt (tx p) (tx x))) (.bl ((ps.take n).any fun p => mt (tx p) (tx x))) H = .ok (.bl true) H := by cases (ps.take n).any fun p => mt (tx p) (tx x) <;> rfl
  obtain ⟨PL, hPL⟩ : ∃ X, X = D.lst ((ps.take n).map D.str) := ⟨_, rfl⟩
  rw [← hPL] at sl ig
  exact Good.rt (d := .bl true) (h := H) (by (simp_arith! [sl, ig, eqb, -dSl] <;> rfl)) rfl

end FK
/-! part: W_k05 -/
set_option Elab.async false
set_option linter.all false
set_option maxRecDepth 100000
set_option maxHeartbeats 4000000
/-! law_k05_patterns: each def is what it is said to be; the end (printed by gen.py) -/
namespace FK
open PySem PySem.Spec L2
def top (i : Nat) : Stmt := PySem.Challenge.pw_foldkeep_k05_patterns.main.body.getD i (.Pass ⟨0, 0, 0, 0⟩)
structure Bi (K : PySem.W.Frag) (mg : Str → Option Value) : Prop where
  any : mg "any" = none
  int : mg "int" = none
  len : mg "len" = none
  list : mg "list" = none
  range : mg "range" = none
  set : mg "set" = none
  sorted : mg "sorted" = none
abbrev s_matches : Stmt := top 1
abbrev N_matches : List Str := ["pattern", "name", "reached", "sign", "wanted", "following", "k"]
theorem sc_matches : FnScope ["pattern", "name", "reached", "sign", "wanted", "following", "k"] ["pattern", "name"] (defScope s_matches) := ⟨rfl, rfl, rfl, by decide +kernel, rfl, by decide +kernel, by decide +kernel⟩
abbrev s_ignored : Stmt := top 2
abbrev N_ignored : List Str := ["patterns", "name", "pattern"]
theorem sc_ignored : FnScope ["patterns", "name", "pattern"] ["patterns", "name"] (defScope s_ignored) := ⟨rfl, rfl, rfl, by decide +kernel, rfl, by decide +kernel, by decide +kernel⟩
abbrev s_l_cells : Stmt := top 4
abbrev N_l_cells : List Str := ["_law_script", "_law_count", "_law_cells_here", "_law_k", "_law_cell"]
theorem sc_l_cells : FnScope ["_law_script", "_law_count", "_law_cells_here", "_law_k", "_law_cell"] ["_law_script", "_law_count"] (defScope s_l_cells) := ⟨rfl, rfl, rfl, by decide +kernel, rfl, by decide +kernel, by decide +kernel⟩
abbrev s_l_matches : Stmt := top 6
abbrev N_l_matches : List Str := ["_law_pattern", "_law_name", "_law_ends", "_law_sign", "_law_following", "_law_at"]
theorem sc_l_matches : FnScope ["_law_pattern", "_law_name", "_law_ends", "_law_sign", "_law_following", "_law_at"] ["_law_pattern", "_law_name"] (defScope s_l_matches) := ⟨rfl, rfl, rfl, by decide +kernel, rfl, by decide +kernel, by decide +kernel⟩
abbrev s_l_word : Stmt := top 5
abbrev N_l_word : List Str := ["_law_cells_here", "_law_at", "_law_size", "_law_menu", "_law_word_here", "_law_k"]
theorem sc_l_word : FnScope ["_law_cells_here", "_law_at", "_law_size", "_law_menu", "_law_word_here", "_law_k"] ["_law_cells_here", "_law_at", "_law_size", "_law_menu"] (defScope s_l_word) := ⟨rfl, rfl, rfl, by decide +kernel, rfl, by decide +kernel, by decide +kernel⟩
abbrev s_law : Stmt := top 7
abbrev N_law : List Str := ["_law_script", "_law_cells_here", "_law_name", "_law_patterns", "_law_k", "_law_pattern", "_law_count", "_law_expected"]
theorem sc_law : FnScope ["_law_script", "_law_cells_here", "_law_name", "_law_patterns", "_law_k", "_law_pattern", "_law_count", "_law_expected"] ["_law_script"] (defScope s_law) := ⟨rfl, rfl, rfl, by decide +kernel, rfl, by decide +kernel, by decide +kernel⟩
section
variable {P : Program} {w : World} {K : PySem.W.Frag} {mg : Str → Option Value} {base : Heap}
theorem ok_matches {a : Addr} {fd : FuncData} (D0 : DefAt K mg "matches" s_matches ["pattern", "name"] a fd) (B : Bi K mg) : FnOk P w K mg base (L2.CX P w) 1 a fd ["pattern", "name"] (spF K mg 2 d_matches) := by
  refine fn_ok (N := N_matches) (ps := ["pattern", "name"]) (k := 0) (body := b_matches) D0.F sc_matches (fun cdv A outer s H E hr => ?_)
  exact (ss_cons (ss_asg (se_new (sa_cons se_bl sa_nil)) (sg_name (i := 2) sc_matches.nd rfl (by first | exact Or.inl rfl | exact Or.inr rfl)))
    (ss_cons (ss_for (passes_of rfl) rfl (si_of (se_var (i := 1) rfl (by first | exact Or.inl rfl | exact Or.inr (Or.inl rfl) | exact Or.inr (Or.inr rfl)))) (sg_name (i := 3) sc_matches.nd rfl (by first | exact Or.inl rfl | exact Or.inr rfl)) (ss_one (ss_expr (se_app (se_var (i := 2) rfl (by first | exact Or.inl rfl | exact Or.inr (Or.inl rfl) | exact Or.inr (Or.inr rfl))) (sa_cons se_bl sa_nil)))))
    (ss_cons (ss_for (passes_of rfl) rfl (si_of (se_var (i := 0) rfl (by first | exact Or.inl rfl | exact Or.inr (Or.inl rfl) | exact Or.inr (Or.inr rfl)))) (sg_name (i := 4) sc_matches.nd rfl (by first | exact Or.inl rfl | exact Or.inr rfl)) (ss_cons (ss_asg (se_new (sa_cons (se_and (se_cmp (op_dEq (u60 hr)) (se_var (i := 4) rfl (by first | exact Or.inl rfl | exact Or.inr (Or.inl rfl) | exact Or.inr (Or.inr rfl))) se_str (by first | exact nomark _ | rfl)) (se_one (se_idx (se_var (i := 2) rfl (by first | exact Or.inl rfl | exact Or.inr (Or.inl rfl) | exact Or.inr (Or.inr rfl))) se_int ix_dIdx))) sa_nil)) (sg_name (i := 5) sc_matches.nd rfl (by first | exact Or.inl rfl | exact Or.inr rfl)))
    (ss_cons (ss_for (passes_of rfl) rfl (si_range1 rfl B.range (sa_cons (sb_len  B.len (sa_cons (se_var (i := 1) rfl (by first | exact Or.inl rfl | exact Or.inr (Or.inl rfl) | exact Or.inr (Or.inr rfl))) sa_nil)) sa_nil)) (sg_name (i := 6) sc_matches.nd rfl (by first | exact Or.inl rfl | exact Or.inr rfl)) (ss_one (ss_if (st_cmp bo_eq (op_dEq (u60 hr)) (se_var (i := 4) rfl (by first | exact Or.inl rfl | exact Or.inr (Or.inl rfl) | exact Or.inr (Or.inr rfl))) se_str (by first | exact nomark _ | rfl)) (ss_one (ss_expr (se_app (se_var (i := 5) rfl (by first | exact Or.inl rfl | exact Or.inr (Or.inl rfl) | exact Or.inr (Or.inr rfl))) (sa_cons (se_or (se_idx (se_var (i := 5) rfl (by first | exact Or.inl rfl | exact Or.inr (Or.inl rfl) | exact Or.inr (Or.inr rfl))) (se_var (i := 6) rfl (by first | exact Or.inl rfl | exact Or.inr (Or.inl rfl) | exact Or.inr (Or.inr rfl))) ix_dIdx) (se_one (se_idx (se_var (i := 2) rfl (by first | exact Or.inl rfl | exact Or.inr (Or.inl rfl) | exact Or.inr (Or.inr rfl))) (se_op op_dAdd (se_var (i := 6) rfl (by first | exact Or.inl rfl | exact Or.inr (Or.inl rfl) | exact Or.inr (Or.inr rfl))) se_int) ix_dIdx))) sa_nil)))) (ss_one (ss_expr (se_app (se_var (i := 5) rfl (by first | exact Or.inl rfl | exact Or.inr (Or.inl rfl) | exact Or.inr (Or.inr rfl))) (sa_cons (se_and (se_idx (se_var (i := 2) rfl (by first | exact Or.inl rfl | exact Or.inr (Or.inl rfl) | exact Or.inr (Or.inr rfl))) (se_var (i := 6) rfl (by first | exact Or.inl rfl | exact Or.inr (Or.inl rfl) | exact Or.inr (Or.inr rfl))) ix_dIdx) (se_one (se_cmp (op_dEq (u60 hr)) (se_var (i := 4) rfl (by first | exact Or.inl rfl | exact Or.inr (Or.inl rfl) | exact Or.inr (Or.inr rfl))) (se_idx (se_var (i := 1) rfl (by first | exact Or.inl rfl | exact Or.inr (Or.inl rfl) | exact Or.inr (Or.inr rfl))) (se_var (i := 6) rfl (by first | exact Or.inl rfl | exact Or.inr (Or.inl rfl) | exact Or.inr (Or.inr rfl))) ix_dIdx) (by first | exact nomark _ | rfl)))) sa_nil)))))))
    (ss_one (ss_asg (se_var (i := 5) rfl (by first | exact Or.inl rfl | exact Or.inr (Or.inl rfl) | exact Or.inr (Or.inr rfl))) (sg_name (i := 2) sc_matches.nd rfl (by first | exact Or.inl rfl | exact Or.inr rfl)))))))
    (ss_one (ss_ret (se_idx (se_var (i := 2) rfl (by first | exact Or.inl rfl | exact Or.inr (Or.inl rfl) | exact Or.inr (Or.inr rfl))) (se_neg se_int) ix_dIdx))))))
theorem ok_ignored {a : Addr} {fd : FuncData} (D0 : DefAt K mg "ignored" s_ignored ["patterns", "name"] a fd) (B : Bi K mg) {a_matches : Addr} {f_matches : FuncData} (D_matches : DefAt K mg "matches" s_matches ["pattern", "name"] a_matches f_matches) (G_matches : FnOk P w K mg base (L2.CX P w) 1 a_matches f_matches ["pattern", "name"] (spF K mg 2 d_matches)) : FnOk P w K mg base (L2.CX P w) 2 a fd ["patterns", "name"] (spF K mg 2 d_ignored) := by
  refine fn_ok (N := N_ignored) (ps := ["patterns", "name"]) (k := 1) (body := b_ignored) D0.F sc_ignored (fun cdv A outer s H E hr => ?_)
  exact (ss_cons (ss_for (passes_of rfl) rfl (si_of (se_var (i := 0) rfl (by first | exact Or.inl rfl | exact Or.inr (Or.inl rfl) | exact Or.inr (Or.inr rfl)))) (sg_name (i := 2) sc_ignored.nd rfl (by first | exact Or.inl rfl | exact Or.inr rfl)) (ss_one (ss_if (st_truth (se_def callP (.inr (.inl rfl)) (takes_of rfl rfl rfl rfl) D_matches G_matches hr (sa_cons (se_var (i := 2) rfl (by first | exact Or.inl rfl | exact Or.inr (Or.inl rfl) | exact Or.inr (Or.inr rfl))) (sa_cons (se_var (i := 1) rfl (by first | exact Or.inl rfl | exact Or.inr (Or.inl rfl) | exact Or.inr (Or.inr rfl))) sa_nil)))) (ss_one (ss_ret se_bl)) ss_nil)))
    (ss_one (ss_ret se_bl)))
theorem ok_l_cells {a : Addr} {fd : FuncData} (D0 : DefAt K mg "_law_cells" s_l_cells ["_law_script", "_law_count"] a fd) (B : Bi K mg) : FnOk P w K mg base (L2.CX P w) 1 a fd ["_law_script", "_law_count"] (spF K mg 2 d_l_cells) := by
  refine fn_ok (N := N_l_cells) (ps := ["_law_script", "_law_count"]) (k := 0) (body := b_l_cells) D0.F sc_l_cells (fun cdv A outer s H E hr => ?_)
  exact (ss_cons (ss_asg (se_new sa_nil) (sg_name (i := 2) sc_l_cells.nd rfl (by first | exact Or.inl rfl | exact Or.inr rfl)))
    (ss_cons (ss_for (passes_of rfl) rfl (si_range1 rfl B.range (sa_cons (se_var (i := 1) rfl (by first | exact Or.inl rfl | exact Or.inr (Or.inl rfl) | exact Or.inr (Or.inr rfl))) sa_nil)) (sg_name (i := 3) sc_l_cells.nd rfl (by first | exact Or.inl rfl | exact Or.inr rfl)) (ss_cons (ss_asg se_int (sg_name (i := 4) sc_l_cells.nd rfl (by first | exact Or.inl rfl | exact Or.inr rfl)))
    (ss_cons (ss_if (st_cmp bo_lt (op_dLt (u0 hr)) (se_var (i := 3) rfl (by first | exact Or.inl rfl | exact Or.inr (Or.inl rfl) | exact Or.inr (Or.inr rfl))) (sb_len  B.len (sa_cons (se_var (i := 0) rfl (by first | exact Or.inl rfl | exact Or.inr (Or.inl rfl) | exact Or.inr (Or.inr rfl))) sa_nil)) (by first | exact nomark _ | rfl)) (ss_one (ss_asg (sb_int  B.int (sa_cons (se_idx (se_var (i := 0) rfl (by first | exact Or.inl rfl | exact Or.inr (Or.inl rfl) | exact Or.inr (Or.inr rfl))) (se_var (i := 3) rfl (by first | exact Or.inl rfl | exact Or.inr (Or.inl rfl) | exact Or.inr (Or.inr rfl))) ix_dIdx) sa_nil)) (sg_name (i := 4) sc_l_cells.nd rfl (by first | exact Or.inl rfl | exact Or.inr rfl)))) ss_nil)
    (ss_cons (ss_if (st_cmp bo_lt (op_dLt (u0 hr)) (se_var (i := 4) rfl (by first | exact Or.inl rfl | exact Or.inr (Or.inl rfl) | exact Or.inr (Or.inr rfl))) se_int (by first | exact nomark _ | rfl)) (ss_one (ss_asg (se_op op_dSub se_int (se_op op_dMul se_int (se_var (i := 4) rfl (by first | exact Or.inl rfl | exact Or.inr (Or.inl rfl) | exact Or.inr (Or.inr rfl))))) (sg_name (i := 4) sc_l_cells.nd rfl (by first | exact Or.inl rfl | exact Or.inr rfl)))) ss_nil)
    (ss_cons (ss_if (sw_or (st_cmp bo_ge op_dGe (se_var (i := 3) rfl (by first | exact Or.inl rfl | exact Or.inr (Or.inl rfl) | exact Or.inr (Or.inr rfl))) (sb_len  B.len (sa_cons (se_var (i := 0) rfl (by first | exact Or.inl rfl | exact Or.inr (Or.inl rfl) | exact Or.inr (Or.inr rfl))) sa_nil)) (by first | exact nomark _ | rfl)) (sw_or1 (st_cmp bo_lt (op_dLt (u0 hr)) (se_var (i := 4) rfl (by first | exact Or.inl rfl | exact Or.inr (Or.inl rfl) | exact Or.inr (Or.inr rfl))) se_int (by first | exact nomark _ | rfl)))).pt (ss_cons (ss_if (st_cmp bo_gt op_dGt (sb_len  B.len (sa_cons (se_var (i := 0) rfl (by first | exact Or.inl rfl | exact Or.inr (Or.inl rfl) | exact Or.inr (Or.inr rfl))) sa_nil)) se_int (by first | exact nomark _ | rfl)) (ss_one (ss_asg (sb_int  B.int (sa_cons (se_idx (se_var (i := 0) rfl (by first | exact Or.inl rfl | exact Or.inr (Or.inl rfl) | exact Or.inr (Or.inr rfl))) (se_op op_dMod (sb_int  B.int (sa_cons (se_var (i := 3) rfl (by first | exact Or.inl rfl | exact Or.inr (Or.inl rfl) | exact Or.inr (Or.inr rfl))) sa_nil)) (sb_len  B.len (sa_cons (se_var (i := 0) rfl (by first | exact Or.inl rfl | exact Or.inr (Or.inl rfl) | exact Or.inr (Or.inr rfl))) sa_nil))) ix_dIdx) sa_nil)) (sg_name (i := 4) sc_l_cells.nd rfl (by first | exact Or.inl rfl | exact Or.inr rfl)))) ss_nil)
    (ss_cons (ss_if (st_cmp bo_lt (op_dLt (u0 hr)) (se_var (i := 4) rfl (by first | exact Or.inl rfl | exact Or.inr (Or.inl rfl) | exact Or.inr (Or.inr rfl))) se_int (by first | exact nomark _ | rfl)) (ss_one (ss_asg (se_op op_dSub se_int (se_op op_dMul se_int (se_var (i := 4) rfl (by first | exact Or.inl rfl | exact Or.inr (Or.inl rfl) | exact Or.inr (Or.inr rfl))))) (sg_name (i := 4) sc_l_cells.nd rfl (by first | exact Or.inl rfl | exact Or.inr rfl)))) ss_nil)
    (ss_cons (ss_asg (se_op op_dMod (sb_int  B.int (sa_cons (se_op op_dAdd (se_op op_dMul (se_op op_dAdd (se_op op_dAdd (se_var (i := 4) rfl (by first | exact Or.inl rfl | exact Or.inr (Or.inl rfl) | exact Or.inr (Or.inr rfl))) (se_op op_dMul se_int (se_var (i := 3) rfl (by first | exact Or.inl rfl | exact Or.inr (Or.inl rfl) | exact Or.inr (Or.inr rfl))))) se_int) se_int) (se_op op_dMul (se_op op_dMul (se_var (i := 3) rfl (by first | exact Or.inl rfl | exact Or.inr (Or.inl rfl) | exact Or.inr (Or.inr rfl))) (se_var (i := 3) rfl (by first | exact Or.inl rfl | exact Or.inr (Or.inl rfl) | exact Or.inr (Or.inr rfl)))) se_int)) sa_nil)) se_int) (sg_name (i := 4) sc_l_cells.nd rfl (by first | exact Or.inl rfl | exact Or.inr rfl)))
    (ss_one (ss_asg (se_op op_dMod (sb_int  B.int (sa_cons (se_op op_dMul (se_op op_dAdd (se_op op_dAdd (se_var (i := 4) rfl (by first | exact Or.inl rfl | exact Or.inr (Or.inl rfl) | exact Or.inr (Or.inr rfl))) (se_op op_dMul se_int (se_var (i := 3) rfl (by first | exact Or.inl rfl | exact Or.inr (Or.inl rfl) | exact Or.inr (Or.inr rfl))))) se_int) se_int) sa_nil)) se_int) (sg_name (i := 4) sc_l_cells.nd rfl (by first | exact Or.inl rfl | exact Or.inr rfl))))))) ss_nil)
    (ss_one (ss_expr (se_app (se_var (i := 2) rfl (by first | exact Or.inl rfl | exact Or.inr (Or.inl rfl) | exact Or.inr (Or.inr rfl))) (sa_cons (se_var (i := 4) rfl (by first | exact Or.inl rfl | exact Or.inr (Or.inl rfl) | exact Or.inr (Or.inr rfl))) sa_nil)))))))))
    (ss_one (ss_ret (se_var (i := 2) rfl (by first | exact Or.inl rfl | exact Or.inr (Or.inl rfl) | exact Or.inr (Or.inr rfl)))))))
theorem ok_l_matches {a : Addr} {fd : FuncData} (D0 : DefAt K mg "_law_matches" s_l_matches ["_law_pattern", "_law_name"] a fd) (B : Bi K mg) : FnOk P w K mg base (L2.CX P w) 1 a fd ["_law_pattern", "_law_name"] (spF K mg 2 d_l_matches) := by
  refine fn_ok (N := N_l_matches) (ps := ["_law_pattern", "_law_name"]) (k := 0) (body := b_l_matches) D0.F sc_l_matches (fun cdv A outer s H E hr => ?_)
  exact (ss_cons (ss_asg (se_lst (sa_cons se_int sa_nil)) (sg_name (i := 2) sc_l_matches.nd rfl (by first | exact Or.inl rfl | exact Or.inr rfl)))
    (ss_cons (ss_for (passes_of rfl) rfl (si_of (se_var (i := 0) rfl (by first | exact Or.inl rfl | exact Or.inr (Or.inl rfl) | exact Or.inr (Or.inr rfl)))) (sg_name (i := 3) sc_l_matches.nd rfl (by first | exact Or.inl rfl | exact Or.inr rfl)) (ss_cons (ss_asg (se_new sa_nil) (sg_name (i := 4) sc_l_matches.nd rfl (by first | exact Or.inl rfl | exact Or.inr rfl)))
    (ss_cons (ss_for (passes_of rfl) rfl (si_of (se_var (i := 2) rfl (by first | exact Or.inl rfl | exact Or.inr (Or.inl rfl) | exact Or.inr (Or.inr rfl)))) (sg_name (i := 5) sc_l_matches.nd rfl (by first | exact Or.inl rfl | exact Or.inr rfl)) (ss_one (ss_if (st_cmp bo_eq (op_dEq (u60 hr)) (se_var (i := 3) rfl (by first | exact Or.inl rfl | exact Or.inr (Or.inl rfl) | exact Or.inr (Or.inr rfl))) se_str (by first | exact nomark _ | rfl)) (ss_one (ss_asg (se_op op_dAddC (se_var (i := 4) rfl (by first | exact Or.inl rfl | exact Or.inr (Or.inl rfl) | exact Or.inr (Or.inr rfl))) (se_listR rfl B.list B.range (sa_cons (se_var (i := 5) rfl (by first | exact Or.inl rfl | exact Or.inr (Or.inl rfl) | exact Or.inr (Or.inr rfl))) (sa_cons (se_op op_dAdd (sb_len  B.len (sa_cons (se_var (i := 1) rfl (by first | exact Or.inl rfl | exact Or.inr (Or.inl rfl) | exact Or.inr (Or.inr rfl))) sa_nil)) se_int) sa_nil)))) (sg_name (i := 4) sc_l_matches.nd rfl (by first | exact Or.inl rfl | exact Or.inr rfl)))) (ss_one (ss_if (sw_and (st_cmp bo_lt (op_dLt (u0 hr)) (se_var (i := 5) rfl (by first | exact Or.inl rfl | exact Or.inr (Or.inl rfl) | exact Or.inr (Or.inr rfl))) (sb_len  B.len (sa_cons (se_var (i := 1) rfl (by first | exact Or.inl rfl | exact Or.inr (Or.inl rfl) | exact Or.inr (Or.inr rfl))) sa_nil)) (by first | exact nomark _ | rfl)) (sw_and1 (st_cmp bo_eq (op_dEq (u60 hr)) (se_idx (se_var (i := 1) rfl (by first | exact Or.inl rfl | exact Or.inr (Or.inl rfl) | exact Or.inr (Or.inr rfl))) (se_var (i := 5) rfl (by first | exact Or.inl rfl | exact Or.inr (Or.inl rfl) | exact Or.inr (Or.inr rfl))) ix_dIdx) (se_var (i := 3) rfl (by first | exact Or.inl rfl | exact Or.inr (Or.inl rfl) | exact Or.inr (Or.inr rfl))) (by first | exact nomark _ | rfl)))).pt (ss_one (ss_expr (se_app (se_var (i := 4) rfl (by first | exact Or.inl rfl | exact Or.inr (Or.inl rfl) | exact Or.inr (Or.inr rfl))) (sa_cons (se_op op_dAdd (se_var (i := 5) rfl (by first | exact Or.inl rfl | exact Or.inr (Or.inl rfl) | exact Or.inr (Or.inr rfl))) se_int) sa_nil)))) ss_nil)))))
    (ss_one (ss_asg (se_sortSet rfl B.sorted B.set (se_var (i := 4) rfl (by first | exact Or.inl rfl | exact Or.inr (Or.inl rfl) | exact Or.inr (Or.inr rfl)))) (sg_name (i := 2) sc_l_matches.nd rfl (by first | exact Or.inl rfl | exact Or.inr rfl)))))))
    (ss_one (ss_ret (se_cmp (op_dIn (u61 hr)) (sb_len  B.len (sa_cons (se_var (i := 1) rfl (by first | exact Or.inl rfl | exact Or.inr (Or.inl rfl) | exact Or.inr (Or.inr rfl))) sa_nil)) (se_var (i := 2) rfl (by first | exact Or.inl rfl | exact Or.inr (Or.inl rfl) | exact Or.inr (Or.inr rfl))) (by first | exact nomark _ | rfl))))))
theorem ok_l_word {a : Addr} {fd : FuncData} (D0 : DefAt K mg "_law_word" s_l_word ["_law_cells_here", "_law_at", "_law_size", "_law_menu"] a fd) (B : Bi K mg) : FnOk P w K mg base (L2.CX P w) 1 a fd ["_law_cells_here", "_law_at", "_law_size", "_law_menu"] (spF K mg 4 d_l_word) := by
  refine fn_ok (N := N_l_word) (ps := ["_law_cells_here", "_law_at", "_law_size", "_law_menu"]) (k := 0) (body := b_l_word) D0.F sc_l_word (fun cdv A outer s H E hr => ?_)
  exact (ss_cons (ss_asg se_str (sg_name (i := 4) sc_l_word.nd rfl (by first | exact Or.inl rfl | exact Or.inr rfl)))
    (ss_cons (ss_for (passes_of rfl) rfl (si_range1 rfl B.range (sa_cons (se_var (i := 2) rfl (by first | exact Or.inl rfl | exact Or.inr (Or.inl rfl) | exact Or.inr (Or.inr rfl))) sa_nil)) (sg_name (i := 5) sc_l_word.nd rfl (by first | exact Or.inl rfl | exact Or.inr rfl)) (ss_one (ss_asg (se_op op_dAdd (se_var (i := 4) rfl (by first | exact Or.inl rfl | exact Or.inr (Or.inl rfl) | exact Or.inr (Or.inr rfl))) (se_idx (se_var (i := 3) rfl (by first | exact Or.inl rfl | exact Or.inr (Or.inl rfl) | exact Or.inr (Or.inr rfl))) (se_op op_dMod (sb_int  B.int (sa_cons (se_idx (se_var (i := 0) rfl (by first | exact Or.inl rfl | exact Or.inr (Or.inl rfl) | exact Or.inr (Or.inr rfl))) (se_op op_dAdd (se_var (i := 1) rfl (by first | exact Or.inl rfl | exact Or.inr (Or.inl rfl) | exact Or.inr (Or.inr rfl))) (se_var (i := 5) rfl (by first | exact Or.inl rfl | exact Or.inr (Or.inl rfl) | exact Or.inr (Or.inr rfl)))) ix_dIdx) sa_nil)) (sb_len  B.len (sa_cons (se_var (i := 3) rfl (by first | exact Or.inl rfl | exact Or.inr (Or.inl rfl) | exact Or.inr (Or.inr rfl))) sa_nil))) ix_dIdx)) (sg_name (i := 4) sc_l_word.nd rfl (by first | exact Or.inl rfl | exact Or.inr rfl)))))
    (ss_one (ss_ret (se_var (i := 4) rfl (by first | exact Or.inl rfl | exact Or.inr (Or.inl rfl) | exact Or.inr (Or.inr rfl)))))))
theorem ok_law {a : Addr} {fd : FuncData} (D0 : DefAt K mg "law" s_law ["_law_script"] a fd) (B : Bi K mg) {a_ignored : Addr} {f_ignored : FuncData} (D_ignored : DefAt K mg "ignored" s_ignored ["patterns", "name"] a_ignored f_ignored) (G_ignored : FnOk P w K mg base (L2.CX P w) 2 a_ignored f_ignored ["patterns", "name"] (spF K mg 2 d_ignored)) {a_l_cells : Addr} {f_l_cells : FuncData} (D_l_cells : DefAt K mg "_law_cells" s_l_cells ["_law_script", "_law_count"] a_l_cells f_l_cells) (G_l_cells : FnOk P w K mg base (L2.CX P w) 1 a_l_cells f_l_cells ["_law_script", "_law_count"] (spF K mg 2 d_l_cells)) {a_l_matches : Addr} {f_l_matches : FuncData} (D_l_matches : DefAt K mg "_law_matches" s_l_matches ["_law_pattern", "_law_name"] a_l_matches f_l_matches) (G_l_matches : FnOk P w K mg base (L2.CX P w) 1 a_l_matches f_l_matches ["_law_pattern", "_law_name"] (spF K mg 2 d_l_matches)) {a_l_word : Addr} {f_l_word : FuncData} (D_l_word : DefAt K mg "_law_word" s_l_word ["_law_cells_here", "_law_at", "_law_size", "_law_menu"] a_l_word f_l_word) (G_l_word : FnOk P w K mg base (L2.CX P w) 1 a_l_word f_l_word ["_law_cells_here", "_law_at", "_law_size", "_law_menu"] (spF K mg 4 d_l_word)) {a_matches : Addr} {f_matches : FuncData} (D_matches : DefAt K mg "matches" s_matches ["pattern", "name"] a_matches f_matches) (G_matches : FnOk P w K mg base (L2.CX P w) 1 a_matches f_matches ["pattern", "name"] (spF K mg 2 d_matches)) : FnOk P w K mg base (L2.CX P w) 3 a fd ["_law_script"] (spF K mg 1 d_law) := by
  refine fn_ok (N := N_law) (ps := ["_law_script"]) (k := 2) (body := b_law) D0.F sc_law (fun cdv A outer s H E hr => ?_)
  exact (ss_cons (ss_asg (se_def callP (.inr (.inl rfl)) (takes_of rfl rfl rfl rfl) D_l_cells G_l_cells hr (sa_cons (se_var (i := 0) rfl (by first | exact Or.inl rfl | exact Or.inr (Or.inl rfl) | exact Or.inr (Or.inr rfl))) (sa_cons se_int sa_nil))) (sg_name (i := 1) sc_law.nd rfl (by first | exact Or.inl rfl | exact Or.inr rfl)))
    (ss_cons (ss_asg (se_def callP (.inr (.inl rfl)) (takes_of rfl rfl rfl rfl) D_l_word G_l_word hr (sa_cons (se_var (i := 1) rfl (by first | exact Or.inl rfl | exact Or.inr (Or.inl rfl) | exact Or.inr (Or.inr rfl))) (sa_cons se_int (sa_cons (se_op op_dAdd se_int (se_op op_dMod (sb_int  B.int (sa_cons (se_idx (se_var (i := 1) rfl (by first | exact Or.inl rfl | exact Or.inr (Or.inl rfl) | exact Or.inr (Or.inr rfl))) se_int ix_dIdx) sa_nil)) se_int)) (sa_cons se_str sa_nil))))) (sg_name (i := 2) sc_law.nd rfl (by first | exact Or.inl rfl | exact Or.inr rfl)))
    (ss_cons (ss_asg (se_new sa_nil) (sg_name (i := 3) sc_law.nd rfl (by first | exact Or.inl rfl | exact Or.inr rfl)))
    (ss_cons (ss_for (passes_of rfl) rfl (si_range1 rfl B.range (sa_cons se_int sa_nil)) (sg_name (i := 4) sc_law.nd rfl (by first | exact Or.inl rfl | exact Or.inr rfl)) (ss_one (ss_expr (se_app (se_var (i := 3) rfl (by first | exact Or.inl rfl | exact Or.inr (Or.inl rfl) | exact Or.inr (Or.inr rfl))) (sa_cons (se_def callP (.inr (.inl rfl)) (takes_of rfl rfl rfl rfl) D_l_word G_l_word hr (sa_cons (se_var (i := 1) rfl (by first | exact Or.inl rfl | exact Or.inr (Or.inl rfl) | exact Or.inr (Or.inr rfl))) (sa_cons (se_op op_dAdd se_int (se_op op_dMul se_int (se_var (i := 4) rfl (by first | exact Or.inl rfl | exact Or.inr (Or.inl rfl) | exact Or.inr (Or.inr rfl))))) (sa_cons (se_op op_dMod (sb_int  B.int (sa_cons (se_idx (se_var (i := 1) rfl (by first | exact Or.inl rfl | exact Or.inr (Or.inl rfl) | exact Or.inr (Or.inr rfl))) (se_op op_dAdd se_int (se_op op_dMul se_int (se_var (i := 4) rfl (by first | exact Or.inl rfl | exact Or.inr (Or.inl rfl) | exact Or.inr (Or.inr rfl))))) ix_dIdx) sa_nil)) se_int) (sa_cons se_str sa_nil))))) sa_nil)))))
    (ss_cons (ss_if (st_cmp bo_eq (op_dEq (u60 hr)) (se_op op_dMod (se_idx (se_var (i := 1) rfl (by first | exact Or.inl rfl | exact Or.inr (Or.inl rfl) | exact Or.inr (Or.inr rfl))) se_int ix_dIdx) se_int) se_int (by first | exact nomark _ | rfl)) (ss_one (ss_setL (se_var (i := 3) rfl (by first | exact Or.inl rfl | exact Or.inr (Or.inl rfl) | exact Or.inr (Or.inr rfl))) se_int (se_op op_dAdd (se_op op_dAdd se_str (se_sl (se_var (i := 2) rfl (by first | exact Or.inl rfl | exact Or.inr (Or.inl rfl) | exact Or.inr (Or.inr rfl))) (so_some (se_op op_dMod (sb_int  B.int (sa_cons (se_idx (se_var (i := 1) rfl (by first | exact Or.inl rfl | exact Or.inr (Or.inl rfl) | exact Or.inr (Or.inr rfl))) se_int ix_dIdx) sa_nil)) (sb_len  B.len (sa_cons (se_var (i := 2) rfl (by first | exact Or.inl rfl | exact Or.inr (Or.inl rfl) | exact Or.inr (Or.inr rfl))) sa_nil)))) so_none)) se_str))) ss_nil)
    (ss_cons (ss_for (passes_of rfl) rfl (si_of (se_var (i := 3) rfl (by first | exact Or.inl rfl | exact Or.inr (Or.inl rfl) | exact Or.inr (Or.inr rfl)))) (sg_name (i := 5) sc_law.nd rfl (by first | exact Or.inl rfl | exact Or.inr rfl)) (ss_one (ss_if (st_cmp bo_ne (op_dNe (u60 hr)) (se_def callP (.inr (.inl rfl)) (takes_of rfl rfl rfl rfl) D_matches G_matches hr (sa_cons (se_var (i := 5) rfl (by first | exact Or.inl rfl | exact Or.inr (Or.inl rfl) | exact Or.inr (Or.inr rfl))) (sa_cons (se_var (i := 2) rfl (by first | exact Or.inl rfl | exact Or.inr (Or.inl rfl) | exact Or.inr (Or.inr rfl))) sa_nil))) (se_def callP (.inr (.inl rfl)) (takes_of rfl rfl rfl rfl) D_l_matches G_l_matches hr (sa_cons (se_var (i := 5) rfl (by first | exact Or.inl rfl | exact Or.inr (Or.inl rfl) | exact Or.inr (Or.inr rfl))) (sa_cons (se_var (i := 2) rfl (by first | exact Or.inl rfl | exact Or.inr (Or.inl rfl) | exact Or.inr (Or.inr rfl))) sa_nil))) (by first | exact nomark _ | rfl)) (ss_one (ss_ret se_bl)) ss_nil)))
    (ss_cons (ss_asg (se_op op_dMod (sb_int  B.int (sa_cons (se_idx (se_var (i := 1) rfl (by first | exact Or.inl rfl | exact Or.inr (Or.inl rfl) | exact Or.inr (Or.inr rfl))) se_int ix_dIdx) sa_nil)) se_int) (sg_name (i := 6) sc_law.nd rfl (by first | exact Or.inl rfl | exact Or.inr rfl)))
    (ss_cons (ss_asg (sb_any rfl B.any (sa_cons (se_lc (fin := lcEnd) (own := [("_law_pattern", 5)]) (vs := [5]) (.inl rfl) rfl sc_law.nd (si_of (se_sl (se_var (i := 3) rfl (by first | exact Or.inl rfl | exact Or.inr (Or.inl rfl) | exact Or.inr (Or.inr rfl))) so_none (so_some (se_var (i := 6) rfl (by first | exact Or.inl rfl | exact Or.inr (Or.inl rfl) | exact Or.inr (Or.inr rfl)))))) (blkOk_by (N := N_law) (sc := (defScope s_law)) (own := [("_law_pattern", 5)]) (by decide +kernel)) (fun _ _ _ _ _ => (sg_name (i := 5) sc_law.nd rfl (by first | exact Or.inl rfl | exact Or.inr rfl))) (fun _ _ _ _ _ => sl_yes) (fun _ _ _ _ _ => (se_def callP (.inr (.inl rfl)) takes0 D_l_matches G_l_matches hr (sa_cons (se_var (i := 5) rfl (by first | exact Or.inl rfl | exact Or.inr (Or.inl rfl) | exact Or.inr (Or.inr rfl))) (sa_cons (se_var (i := 2) rfl (by first | exact Or.inl rfl | exact Or.inr (Or.inl rfl) | exact Or.inr (Or.inr rfl))) sa_nil)))) (by decide)) sa_nil)) (sg_name (i := 7) sc_law.nd rfl (by first | exact Or.inl rfl | exact Or.inr rfl)))
    (ss_one (ss_ret (se_cmp (op_dEq (u60 hr)) (se_def callP (.inr (.inl rfl)) (takes_of rfl rfl rfl rfl) D_ignored G_ignored hr (sa_cons (se_sl (se_var (i := 3) rfl (by first | exact Or.inl rfl | exact Or.inr (Or.inl rfl) | exact Or.inr (Or.inr rfl))) so_none (so_some (se_var (i := 6) rfl (by first | exact Or.inl rfl | exact Or.inr (Or.inl rfl) | exact Or.inr (Or.inr rfl))))) (sa_cons (se_var (i := 2) rfl (by first | exact Or.inl rfl | exact Or.inr (Or.inl rfl) | exact Or.inr (Or.inr rfl))) sa_nil))) (se_var (i := 7) rfl (by first | exact Or.inl rfl | exact Or.inr (Or.inl rfl) | exact Or.inr (Or.inr rfl))) (by first | exact nomark _ | rfl))))))))))))
end
theorem all_mk {l : PySem.W.OpenLaw} {w : World} {K : PySem.W.Frag} {h : Heap} {mg : Str → Option Value} {fa : Addr} (X : K.In h) (G : h.Ns mainGlobals mg) (hfa : mg "law" = some (.ref fa))
    {a0 : Addr} {od0 an0 : Option Addr} {sl0 : Array (Option Value)} {oc0 dc0 pm0 cd0 ct0 : Value} {kV0 : Value}
    (n0 : PySem.W.nsIn K mainGlobals "matches" = some (some (.ref a0)))
    (l0 : K.lookup a0 = some ⟨oc0, od0, .func (PySem.W.fnOf "matches" "matches" (defArgs s_matches) (defBody s_matches) (defScope s_matches) .none kV0 dc0 pm0 an0 cd0 ct0), sl0⟩)
    (c0 : PySem.W.codeIn K cd0 "matches" = true)
    (k0 : PySem.W.keepIn K (.ref a0) = true)
    {a1 : Addr} {od1 an1 : Option Addr} {sl1 : Array (Option Value)} {oc1 dc1 pm1 cd1 ct1 : Value} {kV1 : Value}
    (n1 : PySem.W.nsIn K mainGlobals "ignored" = some (some (.ref a1)))
    (l1 : K.lookup a1 = some ⟨oc1, od1, .func (PySem.W.fnOf "ignored" "ignored" (defArgs s_ignored) (defBody s_ignored) (defScope s_ignored) .none kV1 dc1 pm1 an1 cd1 ct1), sl1⟩)
    (c1 : PySem.W.codeIn K cd1 "ignored" = true)
    (k1 : PySem.W.keepIn K (.ref a1) = true)
    {a2 : Addr} {od2 an2 : Option Addr} {sl2 : Array (Option Value)} {oc2 dc2 pm2 cd2 ct2 : Value} {kV2 : Value}
    (n2 : PySem.W.nsIn K mainGlobals "_law_cells" = some (some (.ref a2)))
    (l2 : K.lookup a2 = some ⟨oc2, od2, .func (PySem.W.fnOf "_law_cells" "_law_cells" (defArgs s_l_cells) (defBody s_l_cells) (defScope s_l_cells) .none kV2 dc2 pm2 an2 cd2 ct2), sl2⟩)
    (c2 : PySem.W.codeIn K cd2 "_law_cells" = true)
    (k2 : PySem.W.keepIn K (.ref a2) = true)
    {a3 : Addr} {od3 an3 : Option Addr} {sl3 : Array (Option Value)} {oc3 dc3 pm3 cd3 ct3 : Value} {kV3 : Value}
    (n3 : PySem.W.nsIn K mainGlobals "_law_matches" = some (some (.ref a3)))
    (l3 : K.lookup a3 = some ⟨oc3, od3, .func (PySem.W.fnOf "_law_matches" "_law_matches" (defArgs s_l_matches) (defBody s_l_matches) (defScope s_l_matches) .none kV3 dc3 pm3 an3 cd3 ct3), sl3⟩)
    (c3 : PySem.W.codeIn K cd3 "_law_matches" = true)
    (k3 : PySem.W.keepIn K (.ref a3) = true)
    {a4 : Addr} {od4 an4 : Option Addr} {sl4 : Array (Option Value)} {oc4 dc4 pm4 cd4 ct4 : Value} {kV4 : Value}
    (n4 : PySem.W.nsIn K mainGlobals "_law_word" = some (some (.ref a4)))
    (l4 : K.lookup a4 = some ⟨oc4, od4, .func (PySem.W.fnOf "_law_word" "_law_word" (defArgs s_l_word) (defBody s_l_word) (defScope s_l_word) .none kV4 dc4 pm4 an4 cd4 ct4), sl4⟩)
    (c4 : PySem.W.codeIn K cd4 "_law_word" = true)
    (k4 : PySem.W.keepIn K (.ref a4) = true)
    {a5 : Addr} {od5 an5 : Option Addr} {sl5 : Array (Option Value)} {oc5 dc5 pm5 cd5 ct5 : Value} {kV5 : Value}
    (n5 : PySem.W.nsIn K mainGlobals "law" = some (some (.ref a5)))
    (l5 : K.lookup a5 = some ⟨oc5, od5, .func (PySem.W.fnOf "law" "law" (defArgs s_law) (defBody s_law) (defScope s_law) .none kV5 dc5 pm5 an5 cd5 ct5), sl5⟩)
    (c5 : PySem.W.codeIn K cd5 "law" = true)
    (k5 : PySem.W.keepIn K (.ref a5) = true)
    (z_any : PySem.W.nsIn K mainGlobals "any" = some none)
    (z_int : PySem.W.nsIn K mainGlobals "int" = some none)
    (z_len : PySem.W.nsIn K mainGlobals "len" = some none)
    (z_list : PySem.W.nsIn K mainGlobals "list" = some none)
    (z_range : PySem.W.nsIn K mainGlobals "range" = some none)
    (z_set : PySem.W.nsIn K mainGlobals "set" = some none)
    (z_sorted : PySem.W.nsIn K mainGlobals "sorted" = some none)
    : ∃ fd : FuncData, (∀ (s : Shared) (v : Value), BindsTo s fd ⟨[v], []⟩ [("_law_script", v)]) ∧ ∀ base : Heap, K.In base → base.Ns mainGlobals mg → FnOk l.prog w K mg base (L2.CX l.prog w) 3 fa fd ["_law_script"] (spF K mg 1 d_law) := by
  have e := hfa.symm.trans (PySem.W.mg_of X G n5)
  cases e
  have B : Bi K mg := ⟨PySem.W.mg_none_of X G z_any, PySem.W.mg_none_of X G z_int, PySem.W.mg_none_of X G z_len, PySem.W.mg_none_of X G z_list, PySem.W.mg_none_of X G z_range, PySem.W.mg_none_of X G z_set, PySem.W.mg_none_of X G z_sorted⟩
  have F0 := fun_mk (st := s_matches) l0 c0 k0
  have D0 : DefAt K mg "matches" s_matches ["pattern", "name"] a0 _ := ⟨F0, PySem.W.mg_of X G n0, F0.binds (ps := ["pattern", "name"]) fun _ _ _ _ _ _ us hl => match us, hl with | [_, _], _ => rfl⟩
  have F1 := fun_mk (st := s_ignored) l1 c1 k1
  have D1 : DefAt K mg "ignored" s_ignored ["patterns", "name"] a1 _ := ⟨F1, PySem.W.mg_of X G n1, F1.binds (ps := ["patterns", "name"]) fun _ _ _ _ _ _ us hl => match us, hl with | [_, _], _ => rfl⟩
  have F2 := fun_mk (st := s_l_cells) l2 c2 k2
  have D2 : DefAt K mg "_law_cells" s_l_cells ["_law_script", "_law_count"] a2 _ := ⟨F2, PySem.W.mg_of X G n2, F2.binds (ps := ["_law_script", "_law_count"]) fun _ _ _ _ _ _ us hl => match us, hl with | [_, _], _ => rfl⟩
  have F3 := fun_mk (st := s_l_matches) l3 c3 k3
  have D3 : DefAt K mg "_law_matches" s_l_matches ["_law_pattern", "_law_name"] a3 _ := ⟨F3, PySem.W.mg_of X G n3, F3.binds (ps := ["_law_pattern", "_law_name"]) fun _ _ _ _ _ _ us hl => match us, hl with | [_, _], _ => rfl⟩
  have F4 := fun_mk (st := s_l_word) l4 c4 k4
  have D4 : DefAt K mg "_law_word" s_l_word ["_law_cells_here", "_law_at", "_law_size", "_law_menu"] a4 _ := ⟨F4, PySem.W.mg_of X G n4, F4.binds (ps := ["_law_cells_here", "_law_at", "_law_size", "_law_menu"]) fun _ _ _ _ _ _ us hl => match us, hl with | [_, _, _, _], _ => rfl⟩
  have F5 := fun_mk (st := s_law) l5 c5 k5
  have D5 : DefAt K mg "law" s_law ["_law_script"] fa _ := ⟨F5, PySem.W.mg_of X G n5, F5.binds (ps := ["_law_script"]) fun _ _ _ _ _ _ us hl => match us, hl with | [_], _ => rfl⟩
  refine ⟨PySem.W.fnOf "law" "law" (defArgs s_law) (defBody s_law) (defScope s_law) .none kV5 dc5 pm5 an5 cd5 ct5, fun s v => .of_eq rfl, fun base _ _ => ?_⟩
  have G0 := ok_matches (P := l.prog) (w := w) (base := base) D0 B
  have G1 := ok_ignored (P := l.prog) (w := w) (base := base) D1 B D0 G0
  have G2 := ok_l_cells (P := l.prog) (w := w) (base := base) D2 B
  have G3 := ok_l_matches (P := l.prog) (w := w) (base := base) D3 B
  have G4 := ok_l_word (P := l.prog) (w := w) (base := base) D4 B
  have G5 := ok_law (P := l.prog) (w := w) (base := base) D5 B D1 G1 D2 G2 D3 G3 D4 G4 D0 G0
  exact G5
end FK
open PySem PySem.W PyProof.Rows
set_option maxRecDepth 100000 in
set_option maxHeartbeats 0 in
theorem PySem.Challenge.cw_foldkeep_k05_patterns_holds : PySem.Challenge.rw_foldkeep_k05_patterns.Holds := by
  w_on; o_law; k_head; (case hw => w_witness2)
  k_fill
  refine FK.law_walk (l := PySem.Challenge.rw_foldkeep_k05_patterns) (k := 3) (x := "_law_script") (F := FK.d_law) rfl rfl ⟨rfl, by decide, by decide⟩ (fun w h Y => PySem.W.kIn_of Y) ?F FK.law_true
  case F =>
    intro w mg fa h KX G hmg
    refine' FK.all_mk KX G hmg ?n0 ?l0 ?c0 ?k0 ?n1 ?l1 ?c1 ?k1 ?n2 ?l2 ?c2 ?k2 ?n3 ?l3 ?c3 ?k3 ?n4 ?l4 ?c4 ?k4 ?n5 ?l5 ?c5 ?k5 ?z_any ?z_int ?z_len ?z_list ?z_range ?z_set ?z_sorted
    (case n0 => k_is)
    (case l0 => k_is)
    (case c0 => k_is)
    (case k0 => k_is)
    (case n1 => k_is)
    (case l1 => k_is)
    (case c1 => k_is)
    (case k1 => k_is)
    (case n2 => k_is)
    (case l2 => k_is)
    (case c2 => k_is)
    (case k2 => k_is)
    (case n3 => k_is)
    (case l3 => k_is)
    (case c3 => k_is)
    (case k3 => k_is)
    (case n4 => k_is)
    (case l4 => k_is)
    (case c4 => k_is)
    (case k4 => k_is)
    (case n5 => k_is)
    (case l5 => k_is)
    (case c5 => k_is)
    (case k5 => k_is)
    (case z_any => k_is)
    (case z_int => k_is)
    (case z_len => k_is)
    (case z_list => k_is)
    (case z_range => k_is)
    (case z_set => k_is)
    (case z_sorted => k_is)
#print axioms PySem.Challenge.cw_foldkeep_k05_patterns_holds

