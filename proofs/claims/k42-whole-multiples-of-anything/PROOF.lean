import PyProof.Rows.All
import Wide.All
import OpenK.AllK
import Wide.FinOn
import KE.KStateDown
import HandS.Base
import HandS.Call
import HandS.List
import HandS.Comp
import HandS.Ends
import HandS.More
import HandS.Words
import HandS.WordsExc
import HandS.Defaults
import HandS.HeadHook1
import HandS.ExcInit
import HandS.TupAny
import HandS.TupMul
import HandS.Wide
import HandS.WideBits
import HandS.Gcd
import HandS.Exc
import HandS.Text
import HandS.Style
import HandS.Deep
import PyProof.StrBlock2
import HandS.Flow
import HandS.Dict
import HandS.IsInst
import HandS.SortInts
import HandS.Conv
import HandS.WordsDict
import HandS.ExcOwn
import HandS.CallSlots
import HandS.Iter
import HandS.Zip
import KE.GoesEnum
import HandS.MakeKwOnly
import HandS.MapJoin
import HandS.EndBits
import HandS.HeadEnd
import HandS.HeadWalk
import HandS.Head0
import HandS.Head1
import HandS.Head2
import HandS.HeadHook2
import HandS.HeadHook3
import HandS.HeadHook4
import HandS.ExcField
import HandS.ExcIs
import HandS.Small
import HandS.TryMany
import HandS.Replace
import HandS.ReplaceLit
import HandS.SetFor
import KE.GoesMore
import KE.GoesZip
import PyProof.Draws
import HandS.Head3
import PySem.Challenge.RW_openduels_k42_whole_multiples_of_anythin
set_option Elab.async false
set_option linter.all false
set_option maxRecDepth 100000
section
/-! Y1: deep values, the store, the relation to the abstract heap. -/
namespace Y
open PySem PySem.Spec PyProof.Rows L2

/-- deep values: fls a list that is read alone (the script); gl x what the module's name x stands for; exo an exception held as a value -/
inductive D where
  | non | bl (b : Bool) | int (i : Int) | str (x : Str)
  | tup (l : List D) | lst (l : List D) | fls (l : List D) | dct (ks : List Key) (l : List D)
  | gl (x : Str) | ty (n : String)
  | exo (C : Str) (ns : List Str) (l : List D)
  deriving Inhabited
/-- what a name holds: deep data; the n-th cell of the store; the exception that an except suite holds -/
inductive Wt where
  | d (x : D) | loc (n : Nat) | hex (C : Str) (ns : List Str) (l : List D)
  deriving Inhabited

inductive Cell where
  | dead | lst (l : List D) | dK (l : List (Key × D)) | frz (d : D) | ins (C : Str) (l : List (Str × D))
  deriving Inhabited
def Cell.live : Cell → Bool
  | .lst _ => true
  | .dK _ => true
  | .ins _ _ => true
  | _ => false
abbrev Store := List Cell
abbrev Ads := List (Option Addr)
abbrev Ev := List (Option Wt)

/-- a list that is read alone: let alone, or the module's own -/
def FL (K : PySem.W.Frag) (lv : Addr → Prop) (H : Hp) (a : Addr) (xs : List V) : Prop := (¬ lv a ∧ Rd H a (.lst xs)) ∨
  ∃ (o : Obj) (its : Array Value) (n : Nat), K.lookup a = some o ∧ o.cls = .type "list" ∧ o.dict = none ∧ o.data = .seq its n ∧ its.size ≤ sizeLine ∧ Vals xs its.toList
theorem FL.sq {K : PySem.W.Frag} {lv : Addr → Prop} {H : Hp} {a : Addr} {xs : List V} (h : FL K lv H a xs) : SqL K H a xs := by
  rcases h with ⟨_, h⟩ | h
  · exact .inl h
  · exact .inr h
/-- at a: an exception of the class at C, its dict at d, held as a value -/
def exv (a C : Addr) (d : Option Addr) : HO := .ext fun h => ∃ (oe : Obj) (vs : Array Value), h.get? a = some oe ∧ Zc (.ref C) d oe ∧ oe.data = .fields vs
mutual
inductive RP (K : PySem.W.Frag) (lv : Addr → Prop) (H : Hp) : D → V → Prop
  | non : RP K lv H .non .non
  | bl (b : Bool) : RP K lv H (.bl b) (.bl b)
  | int (i : Int) : RP K lv H (.int i) (.int i)
  | str (x : Str) : RP K lv H (.str x) (.str x)
  | tup {a : Addr} {vs : List V} {ds : List D} : SqT K H a vs → RPs K lv H ds vs → RP K lv H (.tup ds) (.ref a)
  | lst {a : Addr} {vs : List V} {ds : List D} : ¬ lv a → H a = some (.lst vs) → RPs K lv H ds vs → RP K lv H (.lst ds) (.ref a)
  | fls {a : Addr} {vs : List V} {ds : List D} : FL K lv H a vs → RPs K lv H ds vs → RP K lv H (.fls ds) (.ref a)
  | dct {a : Addr} {kvs : List (Key × V)} {ds : List D} : ¬ lv a → Rd H a (.dK kvs) → RPs K lv H ds (kvs.map (·.2)) → RP K lv H (.dct (kvs.map (·.1)) ds) (.ref a)
  | gl (x : Str) : RP K lv H (.gl x) (.ref (He.ga K x))
  | ty (n : String) : RP K lv H (.ty n) (.ty n)
  | exo {C : Str} {ns : List Str} {ds : List D} {a d : Addr} {vs : List V} : ¬ lv a → H a = some (exv a (He.ga K C) (some d)) → ¬ lv d → H d = some (.xd (ns.zip vs)) → ns.length = ds.length → RPs K lv H ds vs → RP K lv H (.exo C ns ds) (.ref a)
  | exo0 {C : Str} {a : Addr} : ¬ lv a → H a = some (exv a (He.ga K C) none) → RP K lv H (.exo C [] []) (.ref a)
inductive RPs (K : PySem.W.Frag) (lv : Addr → Prop) (H : Hp) : List D → List V → Prop
  | nil : RPs K lv H [] []
  | cons {d : D} {v : V} {ds : List D} {vs : List V} : RP K lv H d v → RPs K lv H ds vs → RPs K lv H (d :: ds) (v :: vs)
end

section
variable {K : PySem.W.Frag} {lv lv' : Addr → Prop} {H H' : Hp}
theorem RPs.length : ∀ {ds : List D} {vs : List V}, RPs K lv H ds vs → ds.length = vs.length
  | [], _, h => by cases h; rfl
  | _ :: ds, _, h => by
    cases h with
    | cons _ h2 => simp [RPs.length h2]
theorem rd_mono (hl : ∀ a u, ¬ lv a → H a = some u → ¬ lv' a ∧ H' a = some u) {a : Addr} {u : HO} (n : ¬ lv a) (h : Rd H a u) : ¬ lv' a ∧ Rd H' a u := by
  rcases h with h | ⟨o, h⟩
  · exact ⟨(hl a _ n h).1, .inl (hl a _ n h).2⟩
  · exact ⟨(hl a _ n h).1, .inr ⟨o, (hl a _ n h).2⟩⟩
theorem FL.mono (hl : ∀ a u, ¬ lv a → H a = some u → ¬ lv' a ∧ H' a = some u) {a : Addr} {xs : List V} (h : FL K lv H a xs) : FL K lv' H' a xs := by
  rcases h with ⟨n, h⟩ | h
  · exact .inl (rd_mono hl n h)
  · exact .inr h
mutual
theorem RP.mono (ht : ∀ a vs, SqT K H a vs → SqT K H' a vs) (hl : ∀ a u, ¬ lv a → H a = some u → ¬ lv' a ∧ H' a = some u) : ∀ (d : D) (v : V), RP K lv H d v → RP K lv' H' d v
  | .non, _, h => by cases h; exact .non
  | .bl b, _, h => by cases h; exact .bl b
  | .int b, _, h => by cases h; exact .int b
  | .str b, _, h => by cases h; exact .str b
  | .tup ds, _, h => by
    cases h with
    | tup h1 h2 => exact .tup (ht _ _ h1) (RPs.mono ht hl ds _ h2)
  | .lst ds, _, h => by
    cases h with
    | lst h0 h1 h2 => exact .lst (hl _ _ h0 h1).1 (hl _ _ h0 h1).2 (RPs.mono ht hl ds _ h2)
  | .fls ds, _, h => by
    cases h with
    | fls h1 h2 => exact .fls (h1.mono hl) (RPs.mono ht hl ds _ h2)
  | .dct ks ds, _, h => by
    cases h with
    | dct h0 h1 h2 => exact .dct (rd_mono hl h0 h1).1 (rd_mono hl h0 h1).2 (RPs.mono ht hl ds _ h2)
  | .gl x, _, h => by cases h; exact .gl x
  | .ty n, _, h => by cases h; exact .ty n
  | .exo C ns ds, _, h => by
    cases h with
    | exo h0 h1 h2 h3 h4 h5 => exact .exo (hl _ _ h0 h1).1 (hl _ _ h0 h1).2 (hl _ _ h2 h3).1 (hl _ _ h2 h3).2 h4 (RPs.mono ht hl ds _ h5)
    | exo0 h0 h1 => exact .exo0 (hl _ _ h0 h1).1 (hl _ _ h0 h1).2
theorem RPs.mono (ht : ∀ a vs, SqT K H a vs → SqT K H' a vs) (hl : ∀ a u, ¬ lv a → H a = some u → ¬ lv' a ∧ H' a = some u) : ∀ (ds : List D) (vs : List V), RPs K lv H ds vs → RPs K lv' H' ds vs
  | [], _, h => by cases h; exact .nil
  | d :: ds, _, h => by
    cases h with
    | cons h1 h2 => exact .cons (RP.mono ht hl d _ h1) (RPs.mono ht hl ds _ h2)
end
theorem RPs.get : ∀ {ds : List D} {vs : List V} {i : Nat} {d : D}, RPs K lv H ds vs → ds[i]? = some d → ∃ v, vs[i]? = some v ∧ RP K lv H d v
  | _, _, _, _, .nil, e => by simp at e
  | _, _, 0, _, .cons r _, e => by simp at e; subst e; exact ⟨_, rfl, r⟩
  | _, _, i + 1, x, .cons _ t, e => by
    obtain ⟨u, h1, h2⟩ := RPs.get (i := i) (d := x) t (by simpa using e)
    exact ⟨u, by simpa using h1, h2⟩
theorem RPs.get' : ∀ {ds : List D} {vs : List V} {i : Nat} {v : V}, RPs K lv H ds vs → vs[i]? = some v → ∃ d, ds[i]? = some d ∧ RP K lv H d v
  | _, _, _, _, .nil, e => by simp at e
  | _, _, 0, _, .cons r _, e => by simp at e; subst e; exact ⟨_, rfl, r⟩
  | _, _, i + 1, x, .cons _ t, e => by
    obtain ⟨u, h1, h2⟩ := RPs.get' (i := i) (v := x) t (by simpa using e)
    exact ⟨u, by simpa using h1, h2⟩
theorem RPs.append : ∀ {ds es : List D} {vs us : List V}, RPs K lv H ds vs → RPs K lv H es us → RPs K lv H (ds ++ es) (vs ++ us)
  | _, _, _, _, .nil, s => s
  | _, _, _, _, .cons r t, s => .cons r (RPs.append t s)
theorem RPs.one {d : D} {v : V} (h : RP K lv H d v) : RPs K lv H [d] [v] := .cons h .nil
theorem RPs.take : ∀ {ds : List D} {vs : List V} (n : Nat), RPs K lv H ds vs → RPs K lv H (ds.take n) (vs.take n)
  | _, _, 0, _ => by simpa using RPs.nil
  | _, _, _ + 1, .nil => by simpa using RPs.nil
  | _, _, n + 1, .cons r t => by simpa using RPs.cons r (RPs.take n t)
theorem RPs.drop : ∀ {ds : List D} {vs : List V} (n : Nat), RPs K lv H ds vs → RPs K lv H (ds.drop n) (vs.drop n)
  | _, _, 0, h => by simpa using h
  | _, _, _ + 1, .nil => by simpa using RPs.nil
  | _, _, n + 1, .cons r t => by simpa using RPs.drop n t
theorem RPs.set {d : D} {v : V} (r : RP K lv H d v) : ∀ {ds : List D} {vs : List V} (i : Nat), RPs K lv H ds vs → RPs K lv H (ds.set i d) (vs.set i v)
  | _, _, _, .nil => by simpa using RPs.nil
  | _, _, 0, .cons _ t => by simpa using RPs.cons r t
  | _, _, i + 1, .cons q t => by simpa using RPs.cons q (RPs.set r i t)
theorem RPs.rev : ∀ {ds : List D} {vs : List V}, RPs K lv H ds vs → RPs K lv H ds.reverse vs.reverse
  | _, _, .nil => by simpa using RPs.nil
  | _, _, .cons r t => by simpa using RPs.append (RPs.rev t) (RPs.one r)
end

/-! ### the store over the heap -/
def Live (A : Ads) (S : Store) (a : Addr) : Prop := ∃ (n : Nat) (c : Cell), A[n]? = some (some a) ∧ S[n]? = some c ∧ c.live = true
def COk (K : PySem.W.Frag) (lv : Addr → Prop) (H : Hp) (a : Addr) : Cell → Prop
  | .dead => False
  | .lst l => ∃ vs, H a = some (.lst vs) ∧ RPs K lv H l vs
  | .dK l => ∃ kvs, H a = some (.dK kvs) ∧ kvs.map (·.1) = l.map (·.1) ∧ RPs K lv H (l.map (·.2)) (kvs.map (·.2))
  | .frz d => RP K lv H d (.ref a) ∧ ∃ u, H a = some u
  | .ins C l => ∃ dx fs, H a = some (.ins (He.ga K C) dx fs) ∧ fs.map (·.1) = l.map (·.1) ∧ RPs K lv H (l.map (·.2)) (fs.map (·.2))
structure Rel (K : PySem.W.Frag) (A : Ads) (S : Store) (H : Hp) : Prop where
  len : A.length = S.length
  inj : ∀ (n m : Nat) (a : Addr), A[n]? = some (some a) → A[m]? = some (some a) → n = m
  cell : ∀ (n : Nat) (c : Cell), S[n]? = some c → (c = .dead ∧ A[n]? = some none) ∨ ∃ a, A[n]? = some (some a) ∧ COk K (Live A S) H a c
/-- what is not live stands as it stood, what is live was so or is new -/
structure Fr (A : Ads) (S : Store) (H : Hp) (A' : Ads) (S' : Store) (H' : Hp) : Prop where
  frame : ∀ b o, H b = some o → ¬ Live A S b → H' b = some o
  new : ∀ b, Live A' S' b → Live A S b ∨ H b = none
structure Stp (A : Ads) (S : Store) (H : Hp) (A' : Ads) (S' : Store) (H' : Hp) : Prop where
  ext : ∀ (n : Nat) (a : Addr), A[n]? = some (some a) → A'[n]? = some (some a)
  le : A.length ≤ A'.length
  fr : Fr A S H A' S' H'
section
variable {K : PySem.W.Frag} {A A' A1 A2 : Ads} {S S' S1 S2 : Store} {H H' H1 H2 : Hp}
theorem Fr.refl : Fr A S H A S H := ⟨fun _ _ h _ => h, fun _ h => .inl h⟩
theorem Fr.trans (x : Fr A S H A1 S1 H1) (y : Fr A1 S1 H1 A2 S2 H2) : Fr A S H A2 S2 H2 := by
  refine ⟨fun b o h n => y.frame b o (x.frame b o h n) fun l => ?_, fun b l => ?_⟩
  · rcases x.new b l with l | e
    · exact n l
    · rw [e] at h; cases h
  · rcases y.new b l with l | e
    · exact x.new b l
    · by_cases n : Live A S b
      · exact .inl n
      · cases q : H b with
        | none => exact .inr rfl
        | some o => rw [x.frame b o q n] at e; cases e
theorem Stp.refl : Stp A S H A S H := ⟨fun _ _ h => h, Nat.le_refl _, .refl⟩
theorem Stp.trans (x : Stp A S H A1 S1 H1) (y : Stp A1 S1 H1 A2 S2 H2) : Stp A S H A2 S2 H2 := ⟨fun n a h => y.ext n a (x.ext n a h), Nat.le_trans x.le y.le, x.fr.trans y.fr⟩
/-- a live address holds a list, a dict, an instance -/
theorem Rel.live (R : Rel K A S H) {a : Addr} (l : Live A S a) : ∃ u, H a = some u ∧ ((∃ vs, u = .lst vs) ∨ (∃ kvs, u = .dK kvs) ∨ ∃ C dx fs, u = .ins C dx fs) := by
  obtain ⟨n, c, ha, hc, hl⟩ := l
  rcases R.cell n c hc with ⟨rfl, _⟩ | ⟨a', ha', ok⟩
  · cases hl
  · rw [ha] at ha'
    obtain rfl := Option.some.inj (Option.some.inj ha')
    cases c with
    | dead => cases hl
    | frz d => cases hl
    | lst l => obtain ⟨vs, h, _⟩ := ok; exact ⟨_, h, .inl ⟨_, rfl⟩⟩
    | dK l => obtain ⟨vs, h, _⟩ := ok; exact ⟨_, h, .inr (.inl ⟨_, rfl⟩)⟩
    | ins C l => obtain ⟨dx, vs, h, _⟩ := ok; exact ⟨_, h, .inr (.inr ⟨_, _, _, rfl⟩)⟩
theorem Rel.notLive (R : Rel K A S H) {a : Addr} {u : HO} (h : H a = some u) (n : ∀ vs, u ≠ .lst vs) (n2 : ∀ kvs, u ≠ .dK kvs) (n3 : ∀ C dx fs, u ≠ .ins C dx fs) : ¬ Live A S a := fun l => by
  obtain ⟨u', h', q⟩ := R.live l
  rw [h] at h'
  cases h'
  rcases q with ⟨_, e⟩ | ⟨_, e⟩ | ⟨_, _, _, e⟩
  · exact n _ e
  · exact n2 _ e
  · exact n3 _ _ _ e
theorem Rel.known (R : Rel K A S H) {n : Nat} {a : Addr} (h : A[n]? = some (some a)) : ∃ c u, S[n]? = some c ∧ H a = some u ∧ COk K (Live A S) H a c := by
  have hn : n < S.length := by rw [← R.len]; exact (List.getElem?_eq_some_iff.mp h).1
  have hc : S[n]? = some S[n] := List.getElem?_eq_getElem hn
  rcases R.cell n _ hc with ⟨_, e⟩ | ⟨a', ha', ok⟩
  · rw [h] at e; cases e
  · rw [h] at ha'
    obtain rfl := Option.some.inj (Option.some.inj ha')
    generalize S[n] = c at hc ok
    cases c with
    | dead => exact ok.elim
    | frz d => exact ⟨_, _, hc, ok.2.choose_spec, ok⟩
    | lst l => obtain ⟨vs, q, z⟩ := id ok; exact ⟨_, _, hc, q, ok⟩
    | dK l => obtain ⟨vs, q, z⟩ := id ok; exact ⟨_, _, hc, q, ok⟩
    | ins C l => obtain ⟨dx, vs, q, z⟩ := id ok; exact ⟨_, _, hc, q, ok⟩
theorem Fr.sqT (R : Rel K A S H) (f : Fr A S H A' S' H') {a : Addr} {vs : List V} (h : SqT K H a vs) : SqT K H' a vs := by
  rcases h with (h | ⟨o, h⟩) | h
  · exact .inl (.inl (f.frame _ _ h (R.notLive h (fun _ e => nomatch e) (fun _ e => nomatch e) (fun _ _ _ e => nomatch e))))
  · exact .inl (.inr ⟨o, f.frame _ _ h (R.notLive h (fun _ e => nomatch e) (fun _ e => nomatch e) (fun _ _ _ e => nomatch e))⟩)
  · exact .inr h
theorem Fr.tr (f : Fr A S H A' S' H') (a : Addr) (u : HO) (n : ¬ Live A S a) (h : H a = some u) : ¬ Live A' S' a ∧ H' a = some u := by
  refine ⟨fun l => ?_, f.frame _ _ h n⟩
  rcases f.new a l with l | e
  · exact n l
  · rw [e] at h; cases h
theorem RP.fr (R : Rel K A S H) (f : Fr A S H A' S' H') {d : D} {v : V} (h : RP K (Live A S) H d v) : RP K (Live A' S') H' d v :=
  RP.mono (fun _ _ q => f.sqT R q) f.tr d v h
theorem RPs.fr (R : Rel K A S H) (f : Fr A S H A' S' H') {ds : List D} {vs : List V} (h : RPs K (Live A S) H ds vs) : RPs K (Live A' S') H' ds vs :=
  RPs.mono (fun _ _ q => f.sqT R q) f.tr ds vs h
end

/-! ### what a slot holds -/
/-- the exception that a suite holds: where it stands, its class, its dict -/
abbrev Hx := Addr → Addr → Addr → Prop
abbrev hx0 : Hx := fun _ _ _ => False
def RV (K : PySem.W.Frag) (hx : Hx) (A : Ads) (lv : Addr → Prop) (H : Hp) (d : Wt) (v : V) : Prop := match d with
  | .loc n => ∃ a, A[n]? = some (some a) ∧ v = .ref a
  | .hex C ns l => ∃ a dd vs, v = .ref a ∧ hx a (He.ga K C) dd ∧ H dd = some (.xd (ns.zip vs)) ∧ RPs K lv H l vs ∧ ns.length = l.length
  | .d x => RP K lv H x v
structure RE (K : PySem.W.Frag) (hx : Hx) (A : Ads) (lv : Addr → Prop) (H : Hp) (σd : Ev) (σ : L2.St) : Prop where
  len : σd.length = σ.length
  at_ : ∀ (i : Nat) (d : Wt), σd[i]? = some (some d) → ∃ v, σ[i]? = some (some v) ∧ RV K hx A lv H d v
section
variable {K : PySem.W.Frag} {hx : Hx} {A A' A1 A2 : Ads} {S S' S1 S2 : Store} {H H' H1 H2 : Hp} {d : Wt} {x : D} {v : V} {lv : Addr → Prop}
theorem RV.of (h : RP K lv H x v) : RV K hx A lv H (.d x) v := h
theorem RV.fr (R : Rel K A S H) (f : Fr A S H A' S' H') (e : ∀ (n : Nat) (a : Addr), d = .loc n → A[n]? = some (some a) → A'[n]? = some (some a)) (h : RV K hx A (Live A S) H d v) : RV K hx A' (Live A' S') H' d v := by
  cases d with
  | loc n =>
    obtain ⟨a, h1, h2⟩ := h
    exact ⟨a, e n a rfl h1, h2⟩
  | hex C ns l =>
    obtain ⟨a, dd, vs, h1, h2, h3, h4, h5⟩ := h
    exact ⟨a, dd, vs, h1, h2, f.frame _ _ h3 (R.notLive h3 (fun _ e => nomatch e) (fun _ e => nomatch e) (fun _ _ _ e => nomatch e)), h4.fr R f, h5⟩
  | d x => exact RP.fr R f h
theorem RV.step (R : Rel K A S H) (f : Stp A S H A' S' H') (h : RV K hx A (Live A S) H d v) : RV K hx A' (Live A' S') H' d v := h.fr R f.fr fun n a _ q => f.ext n a q
theorem RE.step {σd : Ev} {σ : L2.St} (R : Rel K A S H) (f : Stp A S H A' S' H') (h : RE K hx A (Live A S) H σd σ) : RE K hx A' (Live A' S') H' σd σ :=
  ⟨h.len, fun i d e => let ⟨v, h1, h2⟩ := h.at_ i d e; ⟨v, h1, h2.step R f⟩⟩
theorem RE.set {σd : Ev} {σ : L2.St} {i : Nat} (h : RE K hx A lv H σd σ) (r : RV K hx A lv H d v) : RE K hx A lv H (σd.set i (some d)) (σ.set i (some v)) := by
  refine ⟨by simp [h.len], fun j d' e => ?_⟩
  by_cases hj : i = j
  · subst hj
    by_cases hl : i < σd.length
    · rw [List.getElem?_set_self hl] at e
      cases e
      exact ⟨v, by rw [List.getElem?_set_self (by rw [← h.len]; exact hl)], r⟩
    · rw [List.getElem?_eq_none (by simpa using hl)] at e; cases e
  · rw [List.getElem?_set_ne hj] at e
    obtain ⟨v', h1, h2⟩ := h.at_ j d' e
    exact ⟨v', by rw [List.getElem?_set_ne hj]; exact h1, h2⟩
/-- fewer slots known -/
theorem RE.weak {σd : Ev} {σ σ' : L2.St} {σd' : Ev} (h : RE K hx A lv H σd σ) (l : σd'.length = σ'.length) (e : ∀ (i : Nat) (d : Wt), σd'[i]? = some (some d) → σd[i]? = some (some d) ∧ ∀ v, σ[i]? = some (some v) → σ'[i]? = some (some v)) : RE K hx A lv H σd' σ' :=
  ⟨l, fun i d q => let ⟨v, h1, h2⟩ := h.at_ i d (e i d q).1; ⟨v, (e i d q).2 v h1, h2⟩⟩
end

/-! ### read through a loc -/
def cellD : Option Cell → Option D
  | some (.lst l) => some (.lst l)
  | some (.dK l) => some (.dct (l.map (·.1)) (l.map (·.2)))
  | some (.frz d) => some d
  | _ => none
def deref (S : Store) : Wt → Option D
  | .d x => some x
  | .loc n => cellD S[n]?
  | .hex _ _ _ => none
/-- what is read, its top not asked to be let alone -/
def RX (K : PySem.W.Frag) (lv : Addr → Prop) (H : Hp) (d : D) (v : V) : Prop :=
  RP K lv H d v ∨ (∃ l a vs, d = .lst l ∧ v = .ref a ∧ H a = some (.lst vs) ∧ RPs K lv H l vs) ∨
    ∃ l a kvs, d = .dct (kvs.map (·.1)) l ∧ v = .ref a ∧ H a = some (.dK kvs) ∧ RPs K lv H l (kvs.map (·.2))
section
variable {K : PySem.W.Frag} {hx : Hx} {A : Ads} {S : Store} {H : Hp} {d : Wt} {x : D} {v : V} {lv : Addr → Prop}
theorem RV.read (R : Rel K A S H) (h : RV K hx A (Live A S) H d v) (e : deref S d = some x) : RX K (Live A S) H x v := by
  cases d with
  | loc n =>
    obtain ⟨a, ha, rfl⟩ := h
    have e : cellD S[n]? = some x := e
    cases hc : S[n]? with
    | none => rw [hc] at e; cases e
    | some c =>
      rw [hc] at e
      rcases R.cell n c hc with ⟨rfl, _⟩ | ⟨a', ha', ok⟩
      · cases e
      · rw [ha] at ha'
        obtain rfl := Option.some.inj (Option.some.inj ha')
        cases c with
        | dead => cases e
        | frz d => cases e; exact .inl ok.1
        | lst l => cases e; obtain ⟨vs, h1, h2⟩ := ok; exact .inr (.inl ⟨l, a, vs, rfl, rfl, h1, h2⟩)
        | dK l =>
          cases e
          obtain ⟨kvs, h1, h2, h3⟩ := ok
          refine .inr (.inr ⟨l.map (·.2), a, kvs, ?_, rfl, h1, h3⟩)
          show D.dct (l.map (·.1)) (l.map (·.2)) = _
          rw [h2]
        | ins C l => cases e
  | hex C ns l => cases e
  | d y => cases e; exact .inl h
theorem RX.lst {l : List D} (h : RX K lv H (.lst l) v) : ∃ a vs, v = .ref a ∧ H a = some (.lst vs) ∧ RPs K lv H l vs := by
  rcases h with h | ⟨l', a, vs, e, rfl, h1, h2⟩ | ⟨l', a, kvs, e, _⟩
  · cases h with
    | lst h0 h1 h2 => exact ⟨_, _, rfl, h1, h2⟩
  · cases e; exact ⟨_, _, rfl, h1, h2⟩
  · cases e
theorem RX.fls {l : List D} (h : RX K lv H (.fls l) v) : ∃ a vs, v = .ref a ∧ SqL K H a vs ∧ RPs K lv H l vs := by
  rcases h with h | ⟨l', a, vs, e, rfl, h1, h2⟩ | ⟨l', a, kvs, e, _⟩
  · cases h with
    | fls h1 h2 => exact ⟨_, _, rfl, h1.sq, h2⟩
  · cases e
  · cases e
theorem RX.tup {l : List D} (h : RX K lv H (.tup l) v) : ∃ a vs, v = .ref a ∧ SqT K H a vs ∧ RPs K lv H l vs := by
  rcases h with h | ⟨l', a, vs, e, _⟩ | ⟨l', a, kvs, e, _⟩
  · cases h with
    | tup h1 h2 => exact ⟨_, _, rfl, h1, h2⟩
  · cases e
  · cases e
theorem RX.dct {ks : List Key} {l : List D} (h : RX K lv H (.dct ks l) v) : ∃ a kvs, v = .ref a ∧ Rd H a (.dK kvs) ∧ kvs.map (·.1) = ks ∧ RPs K lv H l (kvs.map (·.2)) := by
  rcases h with h | ⟨l', a, vs, e, _⟩ | ⟨l', a, kvs, e, rfl, h1, h2⟩
  · cases h with
    | dct h0 h1 h2 => exact ⟨_, _, rfl, h1, rfl, h2⟩
  · cases e
  · cases e; exact ⟨_, _, rfl, .inl h1, rfl, h2⟩
theorem RX.int {i : Int} (h : RX K lv H (.int i) v) : v = .int i := by
  rcases h with h | ⟨l', a, vs, e, _⟩ | ⟨l', a, kvs, e, _⟩
  · cases h; rfl
  · cases e
  · cases e
theorem RX.str {i : Str} (h : RX K lv H (.str i) v) : v = .str i := by
  rcases h with h | ⟨l', a, vs, e, _⟩ | ⟨l', a, kvs, e, _⟩
  · cases h; rfl
  · cases e
  · cases e
theorem RX.bl {i : Bool} (h : RX K lv H (.bl i) v) : v = .bl i := by
  rcases h with h | ⟨l', a, vs, e, _⟩ | ⟨l', a, kvs, e, _⟩
  · cases h; rfl
  · cases e
  · cases e
theorem RX.non (h : RX K lv H .non v) : v = .non := by
  rcases h with h | ⟨l', a, vs, e, _⟩ | ⟨l', a, kvs, e, _⟩
  · cases h; rfl
  · cases e
  · cases e
theorem RX.gl {x : Str} (h : RX K lv H (.gl x) v) : v = .ref (He.ga K x) := by
  rcases h with h | ⟨l', a, vs, e, _⟩ | ⟨l', a, kvs, e, _⟩
  · cases h; rfl
  · cases e
  · cases e
theorem RX.ty {x : String} (h : RX K lv H (.ty x) v) : v = .ty x := by
  rcases h with h | ⟨l', a, vs, e, _⟩ | ⟨l', a, kvs, e, _⟩
  · cases h; rfl
  · cases e
  · cases e
end
end Y
end
section
/-! Y2: what a part does over deep values, and that the machine does it. -/
namespace Y
open PySem PySem.Spec PyProof.Rows L2

inductive Res (α : Type) where
  | ok (a : α) (S : Store) | exc (C : Str) (ns : List Str) (l : List D) (S : Store) | bad
  deriving Inhabited
def Res.bind {α β : Type} (r : Res α) (f : α → Store → Res β) : Res β := match r with
  | .ok a S => f a S
  | .exc C ns l S => .exc C ns l S
  | .bad => .bad
abbrev EM := Ev → Store → Res Wt
abbrev AM := Ev → Store → Res (List Wt)
abbrev TM := Ev → Store → Res Bool

structure Cn where
  K : PySem.W.Frag
  hx : Hx
  W : WX
abbrev RR (α β : Type) := Ads → Store → Hp → α → β → Prop
def rV (c : Cn) : RR Wt V := fun A S H d v => RV c.K c.hx A (Live A S) H d v
def rVs (c : Cn) : RR (List Wt) (List V) := fun A S H ds vs => Paired (rV c A S H) ds vs
def rB : RR Bool Bool := fun _ _ _ a b => a = b
def Post {α β : Type} (c : Cn) (R : RR α β) (σ : L2.St) (A : Ads) (S : Store) (H : Hp) (Q : β → Hp → Prop) : Res α → Prop
  | .ok a S' => ∀ A' H' b, Rel c.K A' S' H' → Stp A S H A' S' H' → R A' S' H' a b → Q b H'
  | .exc C ns l S' => ∀ A' H' dx vs, Rel c.K A' S' H' → Stp A S H A' S' H' → H' dx = some (.xd (ns.zip vs)) → RPs c.K (Live A' S') H' l vs → ns.length = l.length → c.W (.ref (He.ga c.K C)) (some dx) σ H'
  | .bad => False
section
variable {α β γ δ : Type} {c : Cn} {R1 : RR α β} {R2 : RR γ δ} {σ : L2.St} {A A1 : Ads} {S S1 : Store} {H H1 : Hp}
theorem Post.mono {Q Q' : β → Hp → Prop} {r : Res α} (p : Post c R1 σ A S H Q r) (h : ∀ b H', Q b H' → Q' b H') : Post c R1 σ A S H Q' r := by
  cases r with
  | ok a S' => exact fun A' H' b x y z => h _ _ (p A' H' b x y z)
  | exc C ns l S' => exact p
  | bad => exact p
theorem Post.shift {Q : β → Hp → Prop} {r : Res α} (f : Stp A S H A1 S1 H1) (p : Post c R1 σ A S H Q r) : Post c R1 σ A1 S1 H1 Q r := by
  cases r with
  | ok a S' => exact fun A' H' b x y z => p A' H' b x (f.trans y) z
  | exc C ns l S' => exact fun A' H' dx vs x y => p A' H' dx vs x (f.trans y)
  | bad => exact p
theorem Post.bind {Q : δ → Hp → Prop} {r : Res α} {g : α → Store → Res γ} (p : Post c R2 σ A S H Q (r.bind g)) :
    Post c R1 σ A S H (fun b H1 => ∃ A1 S1 a, Rel c.K A1 S1 H1 ∧ Stp A S H A1 S1 H1 ∧ R1 A1 S1 H1 a b ∧ Post c R2 σ A1 S1 H1 Q (g a S1)) r := by
  cases r with
  | ok a S' => exact fun A' H' b x y z => ⟨A', S', a, x, y, z, Post.shift y p⟩
  | exc C ns l S' => exact p
  | bad => exact p
end

/-! ### steps of the store -/
section
variable {K : PySem.W.Frag} {A A' : Ads} {S S' : Store} {H H' : Hp} {p : Addr} {o : HO}
theorem Live.ne (R : Rel K A S H) {a : Addr} (l : Live A S a) (h : H p = none) : a ≠ p := fun e => by
  obtain ⟨u, hu, _⟩ := R.live l
  rw [e, h] at hu
  cases hu
theorem Fr.upd_new (h : H p = none) : Fr A S H A S (upd H p o) := ⟨fun b u e _ => by rw [upd_ne (ne_of_none e h)]; exact e, fun b l => .inl l⟩
theorem COk.fr (R : Rel K A S H) (f : Fr A S H A' S' H') {a : Addr} {c : Cell} (hk : ∀ u, H a = some u → H' a = some u) (ok : COk K (Live A S) H a c) : COk K (Live A' S') H' a c := by
  cases c with
  | dead => exact ok
  | lst l => obtain ⟨vs, h1, h2⟩ := ok; exact ⟨vs, hk _ h1, h2.fr R f⟩
  | dK l => obtain ⟨vs, h1, h2, h3⟩ := ok; exact ⟨vs, hk _ h1, h2, h3.fr R f⟩
  | frz d => exact ⟨RP.fr R f ok.1, _, hk _ ok.2.choose_spec⟩
  | ins C l => obtain ⟨dx, vs, h1, h2, h3⟩ := ok; exact ⟨dx, vs, hk _ h1, h2, h3.fr R f⟩
theorem Rel.new (R : Rel K A S H) (h : H p = none) : Rel K A S (upd H p o) := by
  refine ⟨R.len, R.inj, fun n c hc => ?_⟩
  rcases R.cell n c hc with e | ⟨a, ha, ok⟩
  · exact .inl e
  · exact .inr ⟨a, ha, ok.fr R (Fr.upd_new h) fun u hu => by rw [upd_ne (ne_of_none hu h)]; exact hu⟩
theorem Stp.new (h : H p = none) : Stp A S H A S (upd H p o) := ⟨fun _ _ e => e, Nat.le_refl _, Fr.upd_new h⟩
theorem live_app {c : Cell} (len : A.length = S.length) {b : Addr} (l : Live (A ++ [some p]) (S ++ [c]) b) : Live A S b ∨ (b = p ∧ c.live = true) := by
  obtain ⟨n, c', h1, h2, h3⟩ := l
  by_cases hn : n < A.length
  · rw [List.getElem?_append_left hn] at h1
    rw [List.getElem?_append_left (by omega)] at h2
    exact .inl ⟨n, c', h1, h2, h3⟩
  · rw [List.getElem?_append_right (by omega)] at h1
    rw [List.getElem?_append_right (by omega)] at h2
    have e : n = A.length := by
      have := (List.getElem?_eq_some_iff.mp h1).1
      simp at this
      omega
    subst e
    simp at h1
    rw [len] at h2
    simp at h2
    subst h1 h2
    exact .inr ⟨rfl, h3⟩
/-- a new cell at a new address -/
theorem Fr.alloc {c : Cell} (len : A.length = S.length) (h : H p = none) : Fr A S H (A ++ [some p]) (S ++ [c]) (upd H p o) :=
  ⟨fun b u e _ => by rw [upd_ne (ne_of_none e h)]; exact e, fun b l => by
    rcases live_app len l with l | ⟨e, _⟩
    · exact .inl l
    · rw [e]; exact .inr h⟩
theorem Rel.alloc {c : Cell} (R : Rel K A S H) (h : H p = none) (new : COk K (Live (A ++ [some p]) (S ++ [c])) (upd H p o) p c) :
    Rel K (A ++ [some p]) (S ++ [c]) (upd H p o) ∧ Stp A S H (A ++ [some p]) (S ++ [c]) (upd H p o) := by
  have f : Fr A S H (A ++ [some p]) (S ++ [c]) (upd H p o) := Fr.alloc R.len h
  refine ⟨⟨by simp [R.len], fun n m a h1 h2 => ?_, fun n c' hc => ?_⟩, fun n a e => by rw [List.getElem?_append_left (List.getElem?_eq_some_iff.mp e).1]; exact e, by simp, f⟩
  · have cs : ∀ k : Nat, (A ++ [some p])[k]? = some (some a) → (k < A.length ∧ A[k]? = some (some a)) ∨ (k = A.length ∧ a = p) := fun k hk => by
      by_cases hn : k < A.length
      · rw [List.getElem?_append_left hn] at hk
        exact .inl ⟨hn, hk⟩
      · rw [List.getElem?_append_right (by omega)] at hk
        have e : k = A.length := by
          have := (List.getElem?_eq_some_iff.mp hk).1
          simp at this
          omega
        subst e
        simp at hk
        exact .inr ⟨rfl, hk.symm⟩
    rcases cs n h1 with ⟨l1, q1⟩ | ⟨l1, q1⟩ <;> rcases cs m h2 with ⟨l2, q2⟩ | ⟨l2, q2⟩
    · exact R.inj n m a q1 q2
    · subst q2
      obtain ⟨_, u, _, hu, _⟩ := R.known q1
      rw [h] at hu; cases hu
    · subst q1
      obtain ⟨_, u, _, hu, _⟩ := R.known q2
      rw [h] at hu; cases hu
    · omega
  · by_cases hn : n < S.length
    · rw [List.getElem?_append_left hn] at hc
      rcases R.cell n c' hc with ⟨e, e2⟩ | ⟨a, ha, ok⟩
      · exact .inl ⟨e, by rw [List.getElem?_append_left (by rw [R.len]; exact hn)]; exact e2⟩
      · exact .inr ⟨a, by rw [List.getElem?_append_left (by rw [R.len]; exact hn)]; exact ha, ok.fr R f fun u hu => by rw [upd_ne (ne_of_none hu h)]; exact hu⟩
    · rw [List.getElem?_append_right (by omega)] at hc
      have e : n = S.length := by
        have := (List.getElem?_eq_some_iff.mp hc).1
        simp at this
        omega
      subst e
      simp at hc
      subst hc
      exact .inr ⟨p, by rw [← R.len]; simp, new⟩
end
end Y
end
section
/-! Y3: the judgements, names, constants, displays, operators, tests. -/
namespace Y
open PySem PySem.Spec PyProof.Rows L2

def tE (c : Cn) (f : EM) : TE := fun σ H Q => ∃ A S σd, Rel c.K A S H ∧ RE c.K c.hx A (Live A S) H σd σ ∧ Post c (rV c) σ A S H Q (f σd S)
def tT (c : Cn) (f : TM) : TT := fun σ H Q => ∃ A S σd, Rel c.K A S H ∧ RE c.K c.hx A (Live A S) H σd σ ∧ Post c rB σ A S H Q (f σd S)
def tA (c : Cn) (f : AM) : TA := fun σ H Q => ∃ A S σd, Rel c.K A S H ∧ RE c.K c.hx A (Live A S) H σd σ ∧ Post c (rVs c) σ A S H Q (f σd S)
structure DE (X : Cx) (hx : Hx) (e : Expr) (f : EM) : Prop where
  run : ∀ W, Takes X W → PE X e (tE ⟨X.K, hx, W⟩ f)
structure DT (X : Cx) (hx : Hx) (e : Expr) (f : TM) : Prop where
  run : ∀ W, Takes X W → PT X e (tT ⟨X.K, hx, W⟩ f)
structure DW (X : Cx) (hx : Hx) (e : Expr) (f : TM) : Prop where
  run : ∀ W, Takes X W → PW X e (tT ⟨X.K, hx, W⟩ f)
structure DA (X : Cx) (hx : Hx) (es : List Expr) (f : AM) : Prop where
  run : ∀ W, Takes X W → PA X es (tA ⟨X.K, hx, W⟩ f)
theorem DW.dt {X : Cx} {hx : Hx} {e : Expr} {f : TM} (h : DW X hx e f) : DT X hx e f := ⟨fun W tk => (h.run W tk).pt⟩
theorem PEimp {X : Cx} {e : Expr} {t t' : TE} (h : PE X e t) (i : ∀ σ H Q, t' σ H Q → t σ H Q) : PE X e t' := ⟨fun pins s σ H Q I q => h.run pins s σ H Q I (i σ H Q q)⟩
theorem PTimp {X : Cx} {e : Expr} {t t' : TT} (h : PT X e t) (i : ∀ σ H Q, t' σ H Q → t σ H Q) : PT X e t' := ⟨fun pins s σ H Q I q => h.run pins s σ H Q I (i σ H Q q)⟩
theorem PWimp {X : Cx} {e : Expr} {t t' : TT} (h : PW X e t) (i : ∀ σ H Q, t' σ H Q → t σ H Q) : PW X e t' := ⟨fun w pins s σ H Q I q => h.run w pins s σ H Q I (i σ H Q q)⟩
theorem PAimp {X : Cx} {e : List Expr} {t t' : TA} (h : PA X e t) (i : ∀ σ H Q, t' σ H Q → t σ H Q) : PA X e t' := ⟨fun p pins s σ H Q I q => h.run p pins s σ H Q I (i σ H Q q)⟩
theorem PSimp {X : Cx} {e : Stmt} {t t' : TS} (h : PS X e t) (i : ∀ σ H Q, t' Q σ H → t Q σ H) : PS X e t' := ⟨fun pins s σ H Q I q => h.run pins s σ H Q I (i σ H Q q)⟩

section
variable {α β γ δ : Type} {c : Cn} {R1 : RR α β} {σ : L2.St} {A : Ads} {S : Store} {H : Hp} {Q : V → Hp → Prop}
theorem Post.here {Q : β → Hp → Prop} {a : α} {b : β} (p : Post c R1 σ A S H Q (.ok a S)) (R : Rel c.K A S H) (r : R1 A S H a b) : Q b H := p A H b R .refl r
theorem Post.hereV {d : D} {v : V} (p : Post c (rV c) σ A S H Q (.ok (.d d) S)) (R : Rel c.K A S H) (r : RP c.K (Live A S) H d v) : Q v H := p A H v R .refl (RV.of r)
theorem fr_new {K : PySem.W.Frag} {p : Addr} {o : HO} {ds : List D} {vs : List V} (R : Rel K A S H) (h : H p = none) (r : RPs K (Live A S) H ds vs) : RPs K (Live A S) (upd H p o) ds vs := r.fr R (Fr.upd_new h)
theorem notLive_new {K : PySem.W.Frag} {p : Addr} (R : Rel K A S H) (h : H p = none) : ¬ Live A S p := fun l => (Live.ne R l h) rfl
theorem Post.tup {l : List D} {vs : List V} {p : Addr} (q : Post c (rV c) σ A S H Q (.ok (.d (.tup l)) S)) (R : Rel c.K A S H) (r : RPs c.K (Live A S) H l vs) (h : H p = none) : Q (.ref p) (upd H p (.tup vs)) :=
  q A _ _ (R.new h) (Stp.new h) (RV.of (.tup (SqT.of upd_same) (fr_new R h r)))
theorem Post.lst {l : List D} {vs : List V} {p : Addr} (q : Post c (rV c) σ A S H Q (.ok (.d (.lst l)) S)) (R : Rel c.K A S H) (r : RPs c.K (Live A S) H l vs) (h : H p = none) : Q (.ref p) (upd H p (.lst vs)) :=
  q A _ _ (R.new h) (Stp.new h) (RV.of (.lst (notLive_new R h) upd_same (fr_new R h r)))
end

/-! ### names and constants -/
def eVar (i : Nat) : EM := fun σd S => match σd[i]? with
  | some (some d) => .ok d S
  | _ => .bad
def eC (d : D) : EM := fun _ S => .ok (.d d) S
section
variable {X : Cx} {hx : Hx}
theorem d_var (i : Nat) {x : Str} {pos : Pos} (hN : X.N[i]? = some x := by rfl) (hv : Vis X.env.scope x := by first | exact Or.inl rfl | exact Or.inr (Or.inl rfl) | exact Or.inr (Or.inr rfl)) (hd : (x == ("__debug__" : Str)) = false := by decide)
    (hcd : (x == ("__classdict__" : Str)) = false := by decide) : DE X hx (.Name x pos) (eVar i) := ⟨fun W tk => PEimp (pv i hN hv hd hcd) fun σ H Q ⟨A, S, σd, R, E, p⟩ => by
  unfold eVar at p
  split at p
  · rename_i d e
    obtain ⟨v, h1, h2⟩ := E.at_ i d e
    exact ⟨v, h1, p.here R h2⟩
  · exact p.elim⟩
theorem d_c {e : Expr} {d : D} {v : V} (h : PE X e (tC v)) (r : ∀ lv H, RP X.K lv H d v) : DE X hx e (eC d) := ⟨fun W tk => PEimp h fun σ H Q ⟨A, S, σd, R, E, p⟩ => Post.hereV (c := ⟨X.K, hx, W⟩) p R (r _ _)⟩
theorem d_int {i j pos} : DE X hx (.Constant (.int i) j pos) (eC (.int i)) := d_c pe_int fun _ _ => .int i
theorem d_bl {b j pos} : DE X hx (.Constant (.bool b) j pos) (eC (.bl b)) := d_c pe_bl fun _ _ => .bl b
theorem d_non {j pos} : DE X hx (.Constant .none j pos) (eC .non) := d_c pe_non fun _ _ => .non
theorem d_str {x j pos} : DE X hx (.Constant (.str x) j pos) (eC (.str x)) := d_c pe_str fun _ _ => .str x
/-- a module's constant -/
structure Kon (X : Cx) (x : Str) (d : D) : Prop where
  is : ∃ u v, X.mg x = some u ∧ RelV v u ∧ ∀ lv H, RP X.K lv H d v
theorem d_glob {x : Str} {pos : Pos} {d : D} (k : Kon X x d) (hg : Gl X x := by rfl) (hd : (x == ("__debug__" : Str)) = false := by decide) : DE X hx (.Name x pos) (eC d) := by
  obtain ⟨u, v, h1, h2, h3⟩ := k.is
  exact d_c (pe_glob hg h1 h2 hd) h3

/-! ### argument lists, displays -/
def aNil : AM := fun _ S => .ok [] S
def aCons (f : EM) (g : AM) : AM := fun σd S => (f σd S).bind fun d S1 => (g σd S1).bind fun ds S2 => .ok (d :: ds) S2
theorem da_nil : DA X hx [] aNil := ⟨fun W tk => PAimp pa_nil fun σ H Q ⟨A, S, σd, R, E, p⟩ => p.here R .nil⟩
theorem da_cons {e : Expr} {es : List Expr} {f : EM} {g : AM} (h1 : DE X hx e f) (h2 : DA X hx es g) (hs : starEach (e :: es) X.env = (false, eval e X.env) :: starEach es X.env := by rfl) : DA X hx (e :: es) (aCons f g) :=
  ⟨fun W tk => PAimp (pa_cons (h1.run W tk) (h2.run W tk) hs) fun σ H Q ⟨A, S, σd, R, E, p⟩ =>
    ⟨A, S, σd, R, E, (Post.bind (R1 := rV _) p).mono fun v H1 ⟨A1, S1, d, R1, T1, r1, p1⟩ => ⟨A1, S1, σd, R1, E.step R T1, (Post.bind (R1 := rVs _) p1).mono fun vs H2 ⟨A2, S2, ds, R2, T2, r2, p2⟩ =>
      p2.here R2 (.cons (r1.step R1 T2) r2)⟩⟩⟩
/-- what goes into a container is let alone from then on -/
def fzC (S : Store) (n : Nat) : Option Cell → Res D
  | some (.lst l) => .ok (.lst l) (S.set n (.frz (.lst l)))
  | some (.dK l) => .ok (.dct (l.map (·.1)) (l.map (·.2))) (S.set n (.frz (.dct (l.map (·.1)) (l.map (·.2)))))
  | some (.frz d) => .ok d S
  | _ => .bad
def fz1 (S : Store) : Wt → Res D
  | .d x => .ok x S
  | .loc n => fzC S n S[n]?
  | .hex _ _ _ => .bad
def fzs (S : Store) : List Wt → Res (List D)
  | [] => .ok [] S
  | d :: ds => (fz1 S d).bind fun d' S1 => (fzs S1 ds).bind fun ds' S2 => .ok (d' :: ds') S2
end
section
variable {K : PySem.W.Frag} {hx : Hx} {A : Ads} {S : Store} {H : Hp} {d : Wt} {v : V}
theorem set_cases {S : Store} {n m : Nat} {c c' : Cell} (h : (S.set n c)[m]? = some c') : (m = n ∧ c' = c) ∨ (m ≠ n ∧ S[m]? = some c') := by
  by_cases e : n = m
  · subst e
    by_cases hl : n < S.length
    · rw [List.getElem?_set_self hl] at h
      exact .inl ⟨rfl, (Option.some.inj h).symm⟩
    · rw [List.getElem?_eq_none (by simpa using hl)] at h; cases h
  · rw [List.getElem?_set_ne e] at h
    exact .inr ⟨fun z => e z.symm, h⟩
/-- a live cell is let alone from now on -/
theorem freeze_ok {n : Nat} {a : Addr} {e : D} (R : Rel K A S H) (ha : A[n]? = some (some a)) (hr : ∀ lv, ¬ lv a → (∀ b, lv b → Live A S b) → RP K lv H e (.ref a)) (hu : ∃ u, H a = some u) :
    Rel K A (S.set n (.frz e)) H ∧ Stp A S H A (S.set n (.frz e)) H ∧ RP K (Live A (S.set n (.frz e))) H e (.ref a) := by
  have sub : ∀ b, Live A (S.set n (.frz e)) b → Live A S b ∧ b ≠ a := fun b ⟨m, c, h1, h2, h3⟩ => by
    rcases set_cases h2 with ⟨rfl, rfl⟩ | ⟨hm, h2⟩
    · cases h3
    · refine ⟨⟨m, c, h1, h2, h3⟩, fun z => hm (R.inj m n a (by rw [← z]; exact h1) ha)⟩
  have f : Fr A S H A (S.set n (.frz e)) H := ⟨fun _ _ h _ => h, fun b l => .inl (sub b l).1⟩
  have rp : RP K (Live A (S.set n (.frz e))) H e (.ref a) := hr _ (fun l => (sub a l).2 rfl) fun b l => (sub b l).1
  refine ⟨⟨by simp [R.len], R.inj, fun m c hc => ?_⟩, ⟨fun _ _ h => h, Nat.le_refl _, f⟩, rp⟩
  rcases set_cases hc with ⟨rfl, rfl⟩ | ⟨hm, h2⟩
  · exact .inr ⟨a, ha, rp, hu⟩
  · rcases R.cell m c h2 with q | ⟨a', ha', ok⟩
    · exact .inl q
    · exact .inr ⟨a', ha', ok.fr R f fun _ h => h⟩
theorem fz1_ok (R : Rel K A S H) (r : RV K hx A (Live A S) H d v) {d' : D} {S' : Store} (h : fz1 S d = .ok d' S') : Rel K A S' H ∧ Stp A S H A S' H ∧ RP K (Live A S') H d' v := by
  cases d with
  | loc n =>
    obtain ⟨a, ha, rfl⟩ := r
    obtain ⟨c, u, hc, hu, ok⟩ := R.known ha
    have h : fzC S n S[n]? = .ok d' S' := h
    rw [hc] at h
    cases c with
    | dead => exact ok.elim
    | ins C l => cases h
    | frz d => cases h; exact ⟨R, .refl, ok.1⟩
    | lst l =>
      cases h
      obtain ⟨vs, h1, h2⟩ := ok
      exact freeze_ok R ha (fun lv n s => .lst n h1 (RPs.mono (fun _ _ q => q) (fun b u nb q => ⟨fun z => nb (s b z), q⟩) _ _ h2)) ⟨_, h1⟩
    | dK l =>
      cases h
      obtain ⟨kvs, h1, h2, h3⟩ := ok
      refine freeze_ok R ha (fun lv n s => ?_) ⟨_, h1⟩
      rw [← h2]
      exact .dct n (.inl h1) (RPs.mono (fun _ _ q => q) (fun b u nb q => ⟨fun z => nb (s b z), q⟩) _ _ h3)
  | hex C ns l => cases h
  | d x => cases h; exact ⟨R, .refl, r⟩
theorem fz1_exc {C : Str} {ns : List Str} {l : List D} {S' : Store} : fz1 S d ≠ .exc C ns l S' := by
  cases d with
  | loc n =>
    intro h
    have h : fzC S n S[n]? = .exc C ns l S' := h
    unfold fzC at h
    split at h <;> cases h
  | _ => intro h; cases h
theorem fzs_ok : ∀ {S : Store} {ds : List Wt} {vs : List V}, Rel K A S H → Paired (fun d v => RV K hx A (Live A S) H d v) ds vs → ∀ {l : List D} {S' : Store}, fzs S ds = .ok l S' → Rel K A S' H ∧ Stp A S H A S' H ∧ RPs K (Live A S') H l vs
  | S, _, _, R, .nil, l, S', h => by cases h; exact ⟨R, .refl, .nil⟩
  | S, _, _, R, .cons (a := d) (l₁ := ds) r t, l, S', h => by
    unfold fzs Res.bind at h
    cases e : fz1 S d with
    | bad => rw [e] at h; cases h
    | exc C ns k S2 => exact (fz1_exc e).elim
    | ok d' S1 =>
      rw [e] at h
      obtain ⟨R1, T1, r1⟩ := fz1_ok R r e
      cases e2 : fzs S1 ds with
      | bad => simp [e2] at h
      | exc C ns k S2 => simp [e2] at h
      | ok ds' S2 =>
        simp only [e2] at h
        cases h
        obtain ⟨R2, T2, r2⟩ := fzs_ok R1 (Paired.mapP t fun d v q => RV.step (hx := hx) R T1 q) e2
        exact ⟨R2, T1.trans T2, .cons (r1.fr R1 T2.fr) r2⟩
theorem fzs_exc : ∀ {S : Store} {ds : List Wt} {C : Str} {ns : List Str} {l : List D} {S' : Store}, fzs S ds ≠ .exc C ns l S'
  | S, [], _, _, _, _ => fun h => by cases h
  | S, d :: ds, C, ns, l, S' => fun h => by
    unfold fzs Res.bind at h
    cases e : fz1 S d with
    | bad => rw [e] at h; cases h
    | exc C ns k S2 => exact (fz1_exc e).elim
    | ok d' S1 =>
      rw [e] at h
      cases e2 : fzs S1 ds with
      | bad => simp [e2] at h
      | exc C ns k S2 => exact (fzs_exc e2).elim
      | ok ds' S2 => simp [e2] at h
end
abbrev lim : Nat := 10000000
theorem lim_line {n : Nat} (h : n ≤ lim) : n ≤ sizeLine := by rw [sizeLine_eq]; have : n ≤ 10000000 := h; omega
theorem lim_lt {n : Nat} (h : n < lim) : n < sizeLine := by rw [sizeLine_eq]; have : n < 10000000 := h; omega
/-- a tuple, a list of written items; listL: a new cell of the store -/
def mkSeq (t : Bool) (l : List D) (S : Store) : Res Wt := if l.length ≤ lim then .ok (.d (if t then .tup l else .lst l)) S else .bad
def eTup (g : AM) : EM := fun σd S => (g σd S).bind fun ds S1 => (fzs S1 ds).bind fun l S2 => mkSeq true l S2
def eLst (g : AM) : EM := fun σd S => (g σd S).bind fun ds S1 => (fzs S1 ds).bind fun l S2 => mkSeq false l S2
def eLstL (g : AM) : EM := fun σd S => (g σd S).bind fun ds S1 => (fzs S1 ds).bind fun l S2 => if l.length ≤ lim then .ok (.loc S2.length) (S2 ++ [.lst l]) else .bad
section
variable {X : Cx} {hx : Hx} {es : List Expr} {g : AM} {pos : Pos}
/-- what goes in is made ready -/
theorem Post.fzs {c : Cn} {σ : L2.St} {A : Ads} {S : Store} {H : Hp} {ds : List Wt} {vs : List V} {γ δ : Type} {R2 : RR γ δ} {Q : δ → Hp → Prop} {k : List D → Store → Res γ} (R : Rel c.K A S H) (r : rVs c A S H ds vs)
    (p : Post c R2 σ A S H Q ((Y.fzs S ds).bind k)) : ∃ l S', Rel c.K A S' H ∧ Stp A S H A S' H ∧ RPs c.K (Live A S') H l vs ∧ l.length = vs.length ∧ Post c R2 σ A S' H Q (k l S') := by
  cases e : Y.fzs S ds with
  | bad => rw [e] at p; exact p.elim
  | exc C ns k S2 => exact (fzs_exc e).elim
  | ok l S' =>
    rw [e] at p
    obtain ⟨R1, T1, r1⟩ := fzs_ok R r e
    exact ⟨l, S', R1, T1, r1, r1.length, Post.shift T1 p⟩
theorem Post.fz1 {c : Cn} {σ : L2.St} {A : Ads} {S : Store} {H : Hp} {d : Wt} {v : V} {γ δ : Type} {R2 : RR γ δ} {Q : δ → Hp → Prop} {k : D → Store → Res γ} (R : Rel c.K A S H) (r : rV c A S H d v)
    (p : Post c R2 σ A S H Q ((Y.fz1 S d).bind k)) : ∃ d' S', Rel c.K A S' H ∧ Stp A S H A S' H ∧ RP c.K (Live A S') H d' v ∧ Post c R2 σ A S' H Q (k d' S') := by
  cases e : Y.fz1 S d with
  | bad => rw [e] at p; exact p.elim
  | exc C ns k S2 => exact (fz1_exc e).elim
  | ok l S' =>
    rw [e] at p
    obtain ⟨R1, T1, r1⟩ := fz1_ok R r e
    exact ⟨l, S', R1, T1, r1, Post.shift T1 p⟩
theorem Post.iteP {c : Cn} {γ δ : Type} {R2 : RR γ δ} {σ : L2.St} {A : Ads} {S : Store} {H : Hp} {Q : δ → Hp → Prop} {b : Prop} [Decidable b] {r : Res γ} (p : Post c R2 σ A S H Q (if b then r else .bad)) : b ∧ Post c R2 σ A S H Q r := by
  by_cases h : b
  · rw [if_pos h] at p; exact ⟨h, p⟩
  · rw [if_neg h] at p; exact p.elim
theorem d_tup {x1} (h : DA X hx es g) : DE X hx (.Tuple es x1 pos) (eTup g) := ⟨fun W tk => PEimp (pe_tup (h.run W tk)) fun σ H Q ⟨A, S, σd, R, E, p⟩ =>
  ⟨A, S, σd, R, E, (Post.bind (R1 := rVs _) p).mono fun vs H1 ⟨A1, S1, ds, R1, T1, r1, p1⟩ => by
    obtain ⟨l, S2, R2, T2, r2, hl, p2⟩ := p1.fzs R1 r1
    obtain ⟨hz, p3⟩ := Post.iteP p2
    exact ⟨by rw [← hl]; exact lim_line hz, fun q hq => p3.tup R2 r2 hq⟩⟩⟩
theorem d_lst (h : DA X hx es g) : DE X hx (.List es pos) (eLst g) := ⟨fun W tk => PEimp (pe_lst (h.run W tk)) fun σ H Q ⟨A, S, σd, R, E, p⟩ =>
  ⟨A, S, σd, R, E, (Post.bind (R1 := rVs _) p).mono fun vs H1 ⟨A1, S1, ds, R1, T1, r1, p1⟩ => by
    obtain ⟨l, S2, R2, T2, r2, hl, p2⟩ := p1.fzs R1 r1
    obtain ⟨hz, p3⟩ := Post.iteP p2
    exact ⟨by rw [← hl]; exact lim_line hz, fun q hq => p3.lst R2 r2 hq⟩⟩⟩
theorem Post.alloc {c : Cn} {σ : L2.St} {A : Ads} {S : Store} {H : Hp} {Q : V → Hp → Prop} {l : List D} {vs : List V} {p : Addr} (q : Post c (rV c) σ A S H Q (.ok (.loc S.length) (S ++ [.lst l]))) (R : Rel c.K A S H) (r : RPs c.K (Live A S) H l vs) (h : H p = none) :
    Q (.ref p) (upd H p (.lst vs)) := by
  obtain ⟨R1, T1⟩ := Rel.alloc (c := .lst l) (o := .lst vs) R h ⟨vs, upd_same, r.fr R (Fr.alloc R.len h)⟩
  exact q _ _ _ R1 T1 ⟨p, by rw [← R.len]; simp, rfl⟩
theorem d_lstL (h : DA X hx es g) : DE X hx (.List es pos) (eLstL g) := ⟨fun W tk => PEimp (pe_lst (h.run W tk)) fun σ H Q ⟨A, S, σd, R, E, p⟩ =>
  ⟨A, S, σd, R, E, (Post.bind (R1 := rVs _) p).mono fun vs H1 ⟨A1, S1, ds, R1, T1, r1, p1⟩ => by
    obtain ⟨l, S2, R2, T2, r2, hl, p2⟩ := p1.fzs R1 r1
    obtain ⟨hz, p3⟩ := Post.iteP p2
    exact ⟨by rw [← hl]; exact lim_line hz, fun q hq => p3.alloc R2 r2 hq⟩⟩⟩
end
end Y
end
section
/-! Y4: operators and comparisons. -/
namespace Y
open PySem PySem.Spec PyProof.Rows L2

def rD (c : Cn) (f : Wt → Wt → Store → Res Wt) : R2 := fun x y H Q => ∃ A S σ d1 d2, Rel c.K A S H ∧ rV c A S H d1 x ∧ rV c A S H d2 y ∧ Post c (rV c) σ A S H Q (f d1 d2 S)
def OpD (X : Cx) (hx : Hx) (op : Value → Value → Sem Value) (f : Wt → Wt → Store → Res Wt) : Prop := ∀ W, OpR X op (rD ⟨X.K, hx, W⟩ f)
theorem readAs {c : Cn} {A : Ads} {S : Store} {H : Hp} {d : Wt} {d' : D} {v : V} (R : Rel c.K A S H) (r : rV c A S H d v) (e : deref S d = some d') : RX c.K (Live A S) H d' v := RV.read R r e

def opAdd (a b : Wt) (S : Store) : Res Wt := match deref S a, deref S b with
  | some (.int i), some (.int j) => .ok (.d (.int (i + j))) S
  | some (.str x), some (.str y) => if x.length + y.length ≤ lim then .ok (.d (.str (x ++ y))) S else .bad
  | some (.tup l), some (.tup m) => if l.length + m.length ≤ lim then .ok (.d (.tup (l ++ m))) S else .bad
  | some (.lst l), some (.lst m) => if l.length + m.length ≤ lim then .ok (.d (.lst (l ++ m))) S else .bad
  | _, _ => .bad
/-- a list + a list, into a new cell -/
def opCatL (a b : Wt) (S : Store) : Res Wt := match deref S a, deref S b with
  | some (.lst l), some (.lst m) => if l.length + m.length ≤ lim then .ok (.loc S.length) (S ++ [.lst (l ++ m)]) else .bad
  | _, _ => .bad
def opSub (a b : Wt) (S : Store) : Res Wt := match deref S a, deref S b with
  | some (.int i), some (.int j) => .ok (.d (.int (i - j))) S
  | _, _ => .bad
def mulOk (i j : Int) : Bool := decide (i.natAbs.log2 + j.natAbs.log2 ≤ 100000000)
def repT (l : List D) (k : Int) : Option (List D) := if l = [] ∨ k ≤ 0 then none else none
def opMul (a b : Wt) (S : Store) : Res Wt := match deref S a, deref S b with
  | some (.int i), some (.int j) => if mulOk i j then .ok (.d (.int (i * j))) S else .bad
  | some (.lst l), some (.int k) => if 0 ≤ k ∧ k < 10000000 ∧ l.length * k.toNat ≤ lim then .ok (.d (.lst (List.replicate k.toNat l).flatten)) S else .bad
  | some (.str x), some (.int k) => if 0 ≤ k ∧ k ≤ 1000 ∧ x.length ≤ 1000 then .ok (.d (.str (Txt.mul x k))) S else .bad
  | some (.tup l), some (.int k) => if l ≠ [] ∧ 2 ≤ k ∧ k ≤ 1000 ∧ l.length ≤ 1000 then .ok (.d (.tup (List.replicate k.toNat l).flatten)) S else .bad
  | _, _ => .bad
def opRepL (a b : Wt) (S : Store) : Res Wt := match deref S a, deref S b with
  | some (.lst l), some (.int k) => if 0 ≤ k ∧ k < 10000000 ∧ l.length * k.toNat ≤ lim then .ok (.loc S.length) (S ++ [.lst (List.replicate k.toNat l).flatten]) else .bad
  | _, _ => .bad
def opFdiv (a b : Wt) (S : Store) : Res Wt := match deref S a, deref S b with
  | some (.int i), some (.int j) => if j ≠ 0 ∧ j.natAbs.log2 < 9000 then .ok (.d (.int (i.fdiv j))) S else .bad
  | _, _ => .bad
def opMod (a b : Wt) (S : Store) : Res Wt := match deref S a, deref S b with
  | some (.int i), some (.int j) => if j ≠ 0 then .ok (.d (.int (i.fmod j))) S else .bad
  | _, _ => .bad
def opPow (a b : Wt) (S : Store) : Res Wt := match deref S a, deref S b with
  | some (.int i), some (.int j) => if 0 ≤ j ∧ j ≤ 1000000 ∧ i.natAbs < 2 ^ 64 then .ok (.d (.int (i ^ j.toNat))) S else .bad
  | _, _ => .bad
def opNeg (a : Wt) (S : Store) : Res Wt := match deref S a with
  | some (.int i) => .ok (.d (.int (-i))) S
  | _ => .bad

section
variable {X : Cx} {hx : Hx}
theorem RPs.len {K : PySem.W.Frag} {lv : Addr → Prop} {H : Hp} {l : List D} {vs : List V} (h : RPs K lv H l vs) : l.length = vs.length := h.length
theorem rps_nil {K : PySem.W.Frag} {lv : Addr → Prop} {H : Hp} {l : List D} (h : RPs K lv H l []) : l = [] := by cases h; rfl
theorem od_add : OpD X hx (binaryOp .Add) opAdd := by
  intro W pins s σ H x y v u Q I rx ry h
  obtain ⟨A, S, σ', d1, d2, R, r1, r2, p⟩ := h
  unfold opAdd at p
  split at p
  · rename_i i j e1 e2
    exact op_add pins s σ H x y v u Q I rx ry ⟨i, j, (readAs R r1 e1).int, (readAs R r2 e2).int, p.hereV R (.int _)⟩
  · rename_i i j e1 e2
    obtain ⟨hz, p⟩ := Post.iteP p
    exact op_add_str pins s σ H x y v u Q I rx ry ⟨i, j, (readAs R r1 e1).str, (readAs R r2 e2).str, lim_line hz, p.hereV R (.str _)⟩
  · rename_i i j e1 e2
    obtain ⟨hz, p⟩ := Post.iteP p
    obtain ⟨a, vs, rfl, h1, g1⟩ := (readAs R r1 e1).tup
    obtain ⟨b, us, rfl, h2, g2⟩ := (readAs R r2 e2).tup
    refine op_catA pins s σ H _ _ v u Q I rx ry ⟨a, b, vs, us, rfl, rfl, h1, h2, ?_, fun e => ?_, fun _ e => ?_, fun _ _ q hq => ?_⟩
    · rw [← g1.len, ← g2.len]; exact lim_line hz
    · subst e
      have := rps_nil g1
      subst this
      exact p.hereV R (.tup h2 g2)
    · subst e
      have := rps_nil g2
      subst this
      rw [List.append_nil] at p
      exact p.hereV R (.tup h1 g1)
    · exact p.tup R (g1.append g2) hq
  · rename_i i j e1 e2
    obtain ⟨hz, p⟩ := Post.iteP p
    obtain ⟨a, vs, rfl, h1, g1⟩ := (readAs R r1 e1).lst
    obtain ⟨b, us, rfl, h2, g2⟩ := (readAs R r2 e2).lst
    exact op_cat pins s σ H _ _ v u Q I rx ry ⟨a, b, vs, us, rfl, rfl, h1, h2, by rw [← g1.len, ← g2.len]; exact lim_line hz, fun q hq => p.lst R (g1.append g2) hq⟩
  · exact p.elim
theorem od_catL : OpD X hx (binaryOp .Add) opCatL := by
  intro W pins s σ H x y v u Q I rx ry h
  obtain ⟨A, S, σ', d1, d2, R, r1, r2, p⟩ := h
  unfold opCatL at p
  split at p
  · rename_i i j e1 e2
    obtain ⟨hz, p⟩ := Post.iteP p
    obtain ⟨a, vs, rfl, h1, g1⟩ := (readAs R r1 e1).lst
    obtain ⟨b, us, rfl, h2, g2⟩ := (readAs R r2 e2).lst
    exact op_cat pins s σ H _ _ v u Q I rx ry ⟨a, b, vs, us, rfl, rfl, h1, h2, by rw [← g1.len, ← g2.len]; exact lim_line hz, fun q hq => p.alloc R (g1.append g2) hq⟩
  · exact p.elim
theorem od_sub : OpD X hx (binaryOp .Sub) opSub := by
  intro W pins s σ H x y v u Q I rx ry h
  obtain ⟨A, S, σ', d1, d2, R, r1, r2, p⟩ := h
  unfold opSub at p
  split at p
  · rename_i i j e1 e2
    exact op_sub pins s σ H x y v u Q I rx ry ⟨i, j, (readAs R r1 e1).int, (readAs R r2 e2).int, p.hereV R (.int _)⟩
  · exact p.elim
theorem rps_rep {K : PySem.W.Frag} {lv : Addr → Prop} {H : Hp} {l : List D} {vs : List V} (h : RPs K lv H l vs) : ∀ n : Nat, RPs K lv H (List.replicate n l).flatten (List.replicate n vs).flatten
  | 0 => by simpa using RPs.nil
  | n + 1 => by
    rw [List.replicate_succ, List.replicate_succ, List.flatten_cons, List.flatten_cons]
    exact h.append (rps_rep h n)
theorem mulOk_ok {i j : Int} (h : mulOk i j = true) : CMulX i j := by
  have h := of_decide_eq_true h
  have b : ∀ x : Int, Builtin.Int.intBits x ≤ x.natAbs.log2 + 1 := fun x => by
    unfold Builtin.Int.intBits
    split <;> omega
  have h1 := b i
  have h2 := b j
  unfold CMulX
  omega
theorem mulS_ok {x : Str} {k : Int} (h0 : 0 ≤ k) (h1 : k ≤ 1000) (h2 : x.length ≤ 1000) : MulOk x k := by
  refine ⟨by rw [decide_eq_false (by omega), decide_eq_false (by omega)]; rfl, fun a _ b => ?_, fun a _ => ?_⟩
  · have : ((x.length : Nat) : Int) ≤ (2 ^ 63 - 1) / k := by
      rw [Int.le_ediv_iff_mul_le (by omega)]
      have a1 : ((x.length : Nat) : Int) * k ≤ 1000 * k := Int.mul_le_mul_of_nonneg_right (by omega) (by omega)
      omega
    omega
  · have a1 : x.length * k.toNat ≤ 1000 * 1000 := Nat.mul_le_mul h2 (by omega)
    unfold Builtin.Str.tooLong
    rw [sizeLine_eq]
    exact decide_eq_false (by omega)
theorem op_mulS {X : Cx} : OpR X (binaryOp .Mult) (fun x y H Q => ∃ (i : Str) (k : Int), x = .str i ∧ y = .int k ∧ 0 ≤ k ∧ k ≤ 1000 ∧ i.length ≤ 1000 ∧ Q (.str (Txt.mul i k)) H) := by
  intro pins s σ H x y v u Q I rx ry h
  obtain ⟨i, k, rfl, rfl, h0, h1, h2, q⟩ := h
  obtain ⟨t, rfl⟩ := rx
  obtain ⟨t', rfl⟩ := ry
  exact SB.mul (mulS_ok h0 h1 h2) fun t' tk => ⟨.str (Txt.mul i k), H, I.tok _, ⟨_, rfl⟩, q⟩
theorem od_mul : OpD X hx (binaryOp .Mult) opMul := by
  intro W pins s σ H x y v u Q I rx ry h
  obtain ⟨A, S, σ', d1, d2, R, r1, r2, p⟩ := h
  unfold opMul at p
  split at p
  · rename_i i j e1 e2
    obtain ⟨hz, p⟩ := Post.iteP p
    exact op_mulX pins s σ H x y v u Q I rx ry ⟨i, j, (readAs R r1 e1).int, (readAs R r2 e2).int, mulOk_ok hz, p.hereV R (.int _)⟩
  · rename_i i j e1 e2
    obtain ⟨⟨z1, z2, z3⟩, p⟩ := Post.iteP p
    obtain ⟨a, vs, rfl, h1, g1⟩ := (readAs R r1 e1).lst
    have h2 := (readAs R r2 e2).int
    exact op_rep pins s σ H _ _ v u Q I rx ry ⟨a, j, vs, rfl, h2, h1, by omega, by omega, by rw [← g1.len]; exact lim_line z3, fun q hq => p.lst R (rps_rep g1 _) hq⟩
  · rename_i i j e1 e2
    obtain ⟨⟨z0, z1, z2⟩, p⟩ := Post.iteP p
    exact op_mulS pins s σ H x y v u Q I rx ry ⟨i, j, (readAs R r1 e1).str, (readAs R r2 e2).int, z0, z1, z2, p.hereV R (.str _)⟩
  · rename_i i j e1 e2
    obtain ⟨⟨z0, z1, z2, z3⟩, p⟩ := Post.iteP p
    obtain ⟨a, vs, rfl, h1, g1⟩ := (readAs R r1 e1).tup
    have h2 := (readAs R r2 e2).int
    exact op_repT pins s σ H _ _ v u Q I rx ry ⟨a, j, vs, rfl, h2, h1, fun e => z0 (by subst e; exact rps_nil g1), z1, z2, by rw [← g1.len]; exact z3, fun q hq => p.tup R (rps_rep g1 _) hq⟩
  · exact p.elim
theorem od_repL : OpD X hx (binaryOp .Mult) opRepL := by
  intro W pins s σ H x y v u Q I rx ry h
  obtain ⟨A, S, σ', d1, d2, R, r1, r2, p⟩ := h
  unfold opRepL at p
  split at p
  · rename_i i j e1 e2
    obtain ⟨⟨z1, z2, z3⟩, p⟩ := Post.iteP p
    obtain ⟨a, vs, rfl, h1, g1⟩ := (readAs R r1 e1).lst
    have h2 := (readAs R r2 e2).int
    exact op_rep pins s σ H _ _ v u Q I rx ry ⟨a, j, vs, rfl, h2, h1, by omega, by omega, by rw [← g1.len]; exact lim_line z3, fun q hq => p.alloc R (rps_rep g1 _) hq⟩
  · exact p.elim
theorem op_fdivG : OpR X (binaryOp .FloorDiv) (rI (fun _ j => j ≠ 0 ∧ j.natAbs.log2 < 9000) fun i j => .int (i.fdiv j)) := opI fun i j _ _ _ _ _ hc q =>
  floordiv_int hc.1 q (.inl (PyProof.noPylong_of_log2 hc.2))
theorem od_fdiv : OpD X hx (binaryOp .FloorDiv) opFdiv := by
  intro W pins s σ H x y v u Q I rx ry h
  obtain ⟨A, S, σ', d1, d2, R, r1, r2, p⟩ := h
  unfold opFdiv at p
  split at p
  · rename_i i j e1 e2
    obtain ⟨hz, p⟩ := Post.iteP p
    exact op_fdivG pins s σ H x y v u Q I rx ry ⟨i, j, (readAs R r1 e1).int, (readAs R r2 e2).int, hz, p.hereV R (.int _)⟩
  · exact p.elim
theorem od_mod : OpD X hx (binaryOp .Mod) opMod := by
  intro W pins s σ H x y v u Q I rx ry h
  obtain ⟨A, S, σ', d1, d2, R, r1, r2, p⟩ := h
  unfold opMod at p
  split at p
  · rename_i i j e1 e2
    obtain ⟨hz, p⟩ := Post.iteP p
    exact op_modN pins s σ H x y v u Q I rx ry ⟨i, j, (readAs R r1 e1).int, (readAs R r2 e2).int, hz, p.hereV R (.int _)⟩
  · exact p.elim
theorem od_pow : OpD X hx (binaryOp .Pow) opPow := by
  intro W pins s σ H x y v u Q I rx ry h
  obtain ⟨A, S, σ', d1, d2, R, r1, r2, p⟩ := h
  unfold opPow at p
  split at p
  · rename_i i j e1 e2
    obtain ⟨hz, p⟩ := Post.iteP p
    exact op_pow pins s σ H x y v u Q I rx ry ⟨i, j, (readAs R r1 e1).int, (readAs R r2 e2).int, hz, p.hereV R (.int _)⟩
  · exact p.elim
end

/-! ### equality -/
mutual
def toPy : D → Option PyData
  | .non => some .none
  | .bl b => some (.bool b)
  | .int i => some (.int i)
  | .str x => some (.str x)
  | .tup l => match toPys l with
    | some ds => some (.tuple ds)
    | none => none
  | .lst l => match toPys l with
    | some ds => some (.list ds)
    | none => none
  | _ => none
def toPys : List D → Option (List PyData)
  | [] => some []
  | d :: ds => match toPy d, toPys ds with
    | some p, some ps => some (p :: ps)
    | _, _ => none
end
section
variable {K : PySem.W.Frag} {lv : Addr → Prop} {H : Hp}
mutual
theorem dp_of : ∀ (d : D) (v : V) (p : PyData), RP K lv H d v → toPy d = some p → Dp K H v p
  | .non, _, _, h, e => by cases h; simp [toPy] at e; subst e; exact .non
  | .bl b, _, _, h, e => by cases h; simp [toPy] at e; subst e; exact .bl b
  | .int b, _, _, h, e => by cases h; simp [toPy] at e; subst e; exact .int b
  | .str b, _, _, h, e => by cases h; simp [toPy] at e; subst e; exact .str b
  | .tup l, _, _, h, e => by
    cases h with
    | tup h1 h2 =>
      rw [toPy] at e
      cases q : toPys l with
      | none => rw [q] at e; cases e
      | some ds => rw [q] at e; cases e; exact .tup h1 (dps_of l _ ds h2 q)
  | .lst l, _, _, h, e => by
    cases h with
    | lst h0 h1 h2 =>
      rw [toPy] at e
      cases q : toPys l with
      | none => rw [q] at e; cases e
      | some ds => rw [q] at e; cases e; exact .lst (SqL.of h1) (dps_of l _ ds h2 q)
  | .fls _, _, _, _, e => by simp [toPy] at e
  | .dct _ _, _, _, _, e => by simp [toPy] at e
  | .gl _, _, _, _, e => by simp [toPy] at e
  | .ty _, _, _, _, e => by simp [toPy] at e
  | .exo _ _ _, _, _, _, e => by simp [toPy] at e
theorem dps_of : ∀ (ds : List D) (vs : List V) (ps : List PyData), RPs K lv H ds vs → toPys ds = some ps → DpAll K H vs ps
  | [], _, _, h, e => by cases h; simp [toPys] at e; subst e; exact .nil
  | d :: ds, _, _, h, e => by
    cases h with
    | cons h1 h2 =>
      rw [toPys] at e
      cases q1 : toPy d with
      | none => rw [q1] at e; cases e
      | some p =>
        cases q2 : toPys ds with
        | none => rw [q1, q2] at e; cases e
        | some ps => rw [q1, q2] at e; cases e; exact .cons (dp_of d _ p h1 q1) (dps_of ds _ ps h2 q2)
end
theorem dpx_of {d : D} {v : V} {p : PyData} (h : RX K lv H d v) (e : toPy d = some p) : Dp K H v p := by
  rcases h with h | ⟨l, a, vs, rfl, rfl, h1, h2⟩ | ⟨l, a, kvs, rfl, _⟩
  · exact dp_of d v p h e
  · rw [toPy] at e
    cases q : toPys l with
    | none => rw [q] at e; cases e
    | some ds => rw [q] at e; cases e; exact .lst (SqL.of h1) (dps_of l _ ds h2 q)
  · simp [toPy] at e
end
/-- none, bools, ints, texts -/
def D.scal : D → D → Bool
  | .non, .non => true | .non, .int _ => true | .int _, .non => true | .non, .bl _ => true | .bl _, .non => true | .non, .str _ => true | .str _, .non => true
  | .int _, .int _ => true | .bl _, .bl _ => true | .str _, .str _ => true
  | .int _, .str _ => true | .str _, .int _ => true | .bl _, .str _ => true | .str _, .bl _ => true
  | _, _ => false
def deq (a b : D) : Bool := match toPy a, toPy b with
  | some p, some q => PyData.eqv p q
  | _, _ => false
/-- plain data, not too deep: == is told of it -/
def D.shp (d : D) : Bool := match toPy d with
  | some p => SeqAt.shaped p
  | none => false
def eqOk (a b : D) : Bool := a.scal b || (a.shp && b.shp)
def opEq (neg : Bool) (a b : Wt) (S : Store) : Res Wt := match deref S a, deref S b with
  | some x, some y => if eqOk x y then .ok (.d (.bl (if neg then !deq x y else deq x y))) S else .bad
  | _, _ => .bad
theorem shp_ok {d : D} (h : d.shp = true) : ∃ p, toPy d = some p ∧ SeqAt.shaped p = true := by
  unfold D.shp at h
  cases e : toPy d with
  | none => rw [e] at h; cases h
  | some p => rw [e] at h; exact ⟨p, rfl, h⟩
theorem scal_ok {K : PySem.W.Frag} {lv : Addr → Prop} {H : Hp} {a b : D} {x y : V} (ra : RX K lv H a x) (rb : RX K lv H b y) (h : a.scal b = true) : L2.scal x y = true ∧ decide (x = y) = deq a b := by
  unfold D.scal at h
  split at h <;> first
    | ((first | obtain rfl := ra.non | obtain rfl := ra.int | obtain rfl := ra.bl | obtain rfl := ra.str) <;> (first | obtain rfl := rb.non | obtain rfl := rb.int | obtain rfl := rb.bl | obtain rfl := rb.str) <;> refine ⟨rfl, ?_⟩ <;> simp [deq, toPy, PyData.eqv, Bool.beq_eq_decide_eq]; done)
    | cases h
section
variable {X : Cx} {hx : Hx}
theorem od_eq (hu : X.A.units + 64 < cLine) : OpD X hx (compareOp .Eq) (opEq false) := by
  intro W pins s σ H x y v u Q I rx ry h
  obtain ⟨A, S, σ', d1, d2, R, r1, r2, p⟩ := h
  unfold opEq at p
  split at p
  · rename_i a b g1 g2
    obtain ⟨hz, p⟩ := Post.iteP p
    unfold eqOk at hz
    cases hs : a.scal b with
    | true =>
      obtain ⟨q1, q2⟩ := scal_ok (readAs R r1 g1) (readAs R r2 g2) hs
      refine op_eq pins s σ H x y v u Q I rx ry ⟨q1, ?_⟩
      rw [q2]
      exact p.hereV R (.bl _)
    | false =>
      rw [hs, Bool.false_or, Bool.and_eq_true] at hz
      obtain ⟨p1, e1, s1⟩ := shp_ok hz.1
      obtain ⟨p2, e2, s2⟩ := shp_ok hz.2
      refine op_eqD hu pins s σ H x y v u Q I rx ry ⟨p1, p2, dpx_of (readAs R r1 g1) e1, dpx_of (readAs R r2 g2) e2, s1, s2, ?_⟩
      have e : deq a b = PyData.eqv p1 p2 := by unfold deq; rw [e1, e2]
      rw [← e]
      exact p.hereV R (.bl _)
  · exact p.elim
theorem od_ne (hu : X.A.units + 64 < cLine) : OpD X hx (compareOp .NotEq) (opEq true) := by
  intro W pins s σ H x y v u Q I rx ry h
  obtain ⟨A, S, σ', d1, d2, R, r1, r2, p⟩ := h
  unfold opEq at p
  split at p
  · rename_i a b g1 g2
    obtain ⟨hz, p⟩ := Post.iteP p
    unfold eqOk at hz
    cases hs : a.scal b with
    | true =>
      obtain ⟨q1, q2⟩ := scal_ok (readAs R r1 g1) (readAs R r2 g2) hs
      refine op_ne pins s σ H x y v u Q I rx ry ⟨q1, ?_⟩
      rw [q2]
      exact p.hereV R (.bl _)
    | false =>
      rw [hs, Bool.false_or, Bool.and_eq_true] at hz
      obtain ⟨p1, e1, s1⟩ := shp_ok hz.1
      obtain ⟨p2, e2, s2⟩ := shp_ok hz.2
      refine op_neD hu pins s σ H x y v u Q I rx ry ⟨p1, p2, dpx_of (readAs R r1 g1) e1, dpx_of (readAs R r2 g2) e2, s1, s2, ?_⟩
      have e : deq a b = PyData.eqv p1 p2 := by unfold deq; rw [e1, e2]
      rw [← e]
      exact p.hereV R (.bl _)
  · exact p.elim
end
end Y
end
section
/-! Y5: comparisons, in, is, subscripts, slices, and, or, not, if, tests. -/
namespace Y
open PySem PySem.Spec PyProof.Rows L2

def eOp (f : Wt → Wt → Store → Res Wt) (fa fb : EM) : EM := fun σd S => (fa σd S).bind fun x S1 => (fb σd S1).bind fun y S2 => f x y S2
def eUn (f : Wt → Store → Res Wt) (fa : EM) : EM := fun σd S => (fa σd S).bind fun x S1 => f x S1
theorem eOp_tOp {c : Cn} {f : Wt → Wt → Store → Res Wt} {fa fb : EM} {σ : L2.St} {H : Hp} {Q : VK} (h : tE c (eOp f fa fb) σ H Q) : tOp (rD c f) (tE c fa) (tE c fb) σ H Q := by
  obtain ⟨A, S, σd, R, E, p⟩ := h
  exact ⟨A, S, σd, R, E, (Post.bind (R1 := rV c) p).mono fun v H1 ⟨A1, S1, d, R1, T1, r1, p1⟩ => ⟨A1, S1, σd, R1, E.step R T1, (Post.bind (R1 := rV c) p1).mono fun u H2 ⟨A2, S2, d2, R2, T2, r2, p2⟩ =>
    ⟨A2, S2, σ, d, d2, R2, r1.step R1 T2, r2, p2⟩⟩⟩
/-- a bool -/
def asB : Wt → Store → Res Bool
  | .d (.bl b), S => .ok b S
  | _, _ => .bad
def tBl (f : EM) : TM := fun σd S => (f σd S).bind asB
theorem asB_cases (d : Wt) (S : Store) : (∃ b, d = .d (.bl b)) ∨ Y.asB d S = .bad := by
  cases d with
  | d x => cases x <;> first | exact .inl ⟨_, rfl⟩ | exact .inr rfl
  | _ => exact .inr rfl
theorem Post.asB {c : Cn} {σ : L2.St} {A : Ads} {S : Store} {H : Hp} {d : Wt} {v : V} {Q : Bool → Hp → Prop} (R : Rel c.K A S H) (r : rV c A S H d v) (p : Post c rB σ A S H Q (Y.asB d S)) : ∃ k, v = .bl k ∧ Q k H := by
  rcases asB_cases d S with ⟨b, rfl⟩ | e
  · have e : RP c.K (Live A S) H (.bl b) v := r
    cases e
    exact ⟨b, rfl, p.here R rfl⟩
  · rw [e] at p; exact p.elim
theorem tBl_of {c : Cn} {f : EM} {σ : L2.St} {H : Hp} {Q : Bool → Hp → Prop} (h : tT c (tBl f) σ H Q) : tE c f σ H fun x H' => ∃ k, x = .bl k ∧ Q k H' := by
  obtain ⟨A, S, σd, R, E, p⟩ := h
  exact ⟨A, S, σd, R, E, (Post.bind (R1 := rV c) p).mono fun v H1 ⟨A1, S1, d, R1, T1, r1, p1⟩ => p1.asB R1 r1⟩
section
variable {X : Cx} {hx : Hx} {a b c : Expr} {fa fb fc : EM} {f f' : Wt → Wt → Store → Res Wt} {pos : Pos}
theorem d_bin {op : Operator} (ho : OpD X hx (binaryOp op) f) (ha : DE X hx a fa) (hb : DE X hx b fb) : DE X hx (.BinOp a op b pos) (eOp f fa fb) := ⟨fun W tk => PEimp (pe_op (ho W) (ha.run W tk) (hb.run W tk)) fun σ H Q h => eOp_tOp h⟩
theorem d_cmp {op : CmpOp} (ho : OpD X hx (compareOp op) f) (ha : DE X hx a fa) (hb : DE X hx b fb) (hm : behindInMarks op b = false := by first | exact nobehind _ (by decide) (by decide) | rfl | with_unfolding_all rfl) : DE X hx (.Compare a [op] [b] pos) (eOp f fa fb) :=
  ⟨fun W tk => PEimp (pe_cmpR (ho W) (ha.run W tk) (hb.run W tk) hm) fun σ H Q h => eOp_tOp h⟩
theorem dt_cmp {op : CmpOp} (ho : OpD X hx (compareOp op) f) (ha : DE X hx a fa) (hb : DE X hx b fb) (hm : behindInMarks op b = false := by first | exact nobehind _ (by decide) (by decide) | rfl | with_unfolding_all rfl) : DT X hx (.Compare a [op] [b] pos) (tBl (eOp f fa fb)) :=
  ⟨fun W tk => PTimp (pt_cmpR (ho W) (ha.run W tk) (hb.run W tk) hm) fun σ H Q h => eOp_tOp (tBl_of h)⟩
theorem d_neg (ha : DE X hx a fa) : DE X hx (.UnaryOp .USub a pos) (eUn opNeg fa) := ⟨fun W tk => PEimp (pe_un un_neg (ha.run W tk)) fun σ H Q ⟨A, S, σd, R, E, p⟩ =>
  ⟨A, S, σd, R, E, (Post.bind (R1 := rV _) p).mono fun v H1 ⟨A1, S1, d, R1, T1, r1, p1⟩ => by
    unfold opNeg at p1
    split at p1
    · rename_i i e
      exact ⟨i, (readAs R1 r1 e).int, p1.hereV R1 (.int _)⟩
    · exact p1.elim⟩⟩
/-- a op b op' c -/
def eChain (f f' : Wt → Wt → Store → Res Wt) (fa fb fc : EM) : EM := fun σd S => (fa σd S).bind fun x S1 => (fb σd S1).bind fun y S2 => (f x y S2).bind fun z S3 => (asB z S3).bind fun k S4 => if k = true then (fc σd S4).bind fun w S5 => f' y w S5 else .ok (.d (.bl false)) S4
theorem asB_bind {c : Cn} {σ : L2.St} {A : Ads} {S : Store} {H : Hp} {d : Wt} {v : V} {γ δ : Type} {R2 : RR γ δ} {Q : δ → Hp → Prop} {g : Bool → Store → Res γ} (r : rV c A S H d v) (p : Post c R2 σ A S H Q ((asB d S).bind g)) : ∃ k, d = .d (.bl k) ∧ v = .bl k ∧ Post c R2 σ A S H Q (g k S) := by
  rcases asB_cases d S with ⟨b, rfl⟩ | e
  · have e : RP c.K (Live A S) H (.bl b) v := r
    cases e
    exact ⟨b, rfl, rfl, p⟩
  · rw [e] at p; exact p.elim
theorem eChain_of {cn : Cn} {σ : L2.St} {H : Hp} {Q : VK} (h : tE cn (eChain f f' fa fb fc) σ H Q) : tChain (rD cn f) (rD cn f') (tE cn fa) (tE cn fb) (tE cn fc) σ H Q := by
  obtain ⟨A, S, σd, R, E, p⟩ := h
  refine ⟨A, S, σd, R, E, (Post.bind (R1 := rV cn) p).mono fun v H1 ⟨A1, S1, d, R1, T1, r1, p1⟩ => ⟨A1, S1, σd, R1, E.step R T1, (Post.bind (R1 := rV cn) p1).mono fun u H2 ⟨A2, S2, d2, R2, T2, r2, p2⟩ =>
    ⟨A2, S2, σ, d, d2, R2, r1.step R1 T2, r2, (Post.bind (R1 := rV cn) p2).mono fun z H3 ⟨A3, S3, d3, R3, T3, r3, p3⟩ => ?_⟩⟩⟩
  obtain ⟨k, e, ev, p4⟩ := asB_bind r3 p3
  refine ⟨k, ev, ?_⟩
  cases k with
  | false =>
    rw [if_neg Bool.false_ne_true] at p4 ⊢
    exact p4.hereV R3 (.bl _)
  | true =>
    rw [if_pos rfl] at p4 ⊢
    exact ⟨A3, S3, σd, R3, ((E.step R T1).step R1 T2).step R2 T3, (Post.bind (R1 := rV cn) p4).mono fun w H4 ⟨A4, S4, d4, R4, T4, r4, p5⟩ => ⟨A4, S4, σ, d2, d4, R4, (r2.step R2 T3).step R3 T4, r4, p5⟩⟩
theorem d_chain {op op' : CmpOp} (ho : OpD X hx (compareOp op) f) (ho' : OpD X hx (compareOp op') f') (ha : DE X hx a fa) (hb : DE X hx b fb) (hc : DE X hx c fc) (hm : lastMarks [op, op'] [b, c] = false := by with_unfolding_all rfl) :
    DE X hx (.Compare a [op, op'] [b, c] pos) (eChain f f' fa fb fc) := ⟨fun W tk => PEimp (pe_chain (ho W) (ho' W) (ha.run W tk) (hb.run W tk) (hc.run W tk) hm) fun σ H Q h => eChain_of h⟩
theorem dt_chain {op op' : CmpOp} (ho : OpD X hx (compareOp op) f) (ho' : OpD X hx (compareOp op') f') (ha : DE X hx a fa) (hb : DE X hx b fb) (hc : DE X hx c fc) (hm : lastMarks [op, op'] [b, c] = false := by with_unfolding_all rfl) :
    DT X hx (.Compare a [op, op'] [b, c] pos) (tBl (eChain f f' fa fb fc)) := ⟨fun W tk => PTimp (pt_chain (ho W) (ho' W) (ha.run W tk) (hb.run W tk) (hc.run W tk) hm) fun σ H Q h => eChain_of (tBl_of h)⟩

/-! ### order of ints, of texts -/
def opCmp (p : Int → Int → Bool) (q : Str → Str → Bool) (a b : Wt) (S : Store) : Res Wt := match deref S a, deref S b with
  | some (.int i), some (.int j) => .ok (.d (.bl (p i j))) S
  | some (.str i), some (.str j) => .ok (.d (.bl (q i j))) S
  | _, _ => .bad
theorem od_cmp {op : CmpOp} {p : Int → Int → Bool} {q : Str → Str → Bool} (h1 : OpR X (compareOp op) (rI0 fun i j => .bl (p i j))) (h2 : OpR X (compareOp op) (fun x y H Q => ∃ i j, x = .str i ∧ y = .str j ∧ Q (.bl (q i j)) H)) : OpD X hx (compareOp op) (opCmp p q) := by
  intro W pins s σ H x y v u Q I rx ry h
  obtain ⟨A, S, σ', d1, d2, R, r1, r2, p⟩ := h
  unfold opCmp at p
  split at p
  · rename_i i j e1 e2
    exact h1 pins s σ H x y v u Q I rx ry ⟨i, j, (readAs R r1 e1).int, (readAs R r2 e2).int, p.hereV R (.bl _)⟩
  · rename_i i j e1 e2
    exact h2 pins s σ H x y v u Q I rx ry ⟨i, j, (readAs R r1 e1).str, (readAs R r2 e2).str, p.hereV R (.bl _)⟩
  · exact p.elim
abbrev opLt : Wt → Wt → Store → Res Wt := opCmp (fun i j => decide (i < j)) fun i j => decide (i.cps.toList < j.cps.toList)
abbrev opLe : Wt → Wt → Store → Res Wt := opCmp (fun i j => decide (i ≤ j)) fun i j => !decide (j.cps.toList < i.cps.toList)
abbrev opGt : Wt → Wt → Store → Res Wt := opCmp (fun i j => decide (j < i)) fun i j => decide (j.cps.toList < i.cps.toList)
abbrev opGe : Wt → Wt → Store → Res Wt := opCmp (fun i j => decide (j ≤ i)) fun i j => !decide (i.cps.toList < j.cps.toList)
theorem od_lt : OpD X hx (compareOp .Lt) opLt := od_cmp op_lt op_lt_str
theorem od_le : OpD X hx (compareOp .LtE) opLe := od_cmp op_le op_le_str
theorem od_gt : OpD X hx (compareOp .Gt) opGt := od_cmp op_gt op_gt_str
theorem od_ge : OpD X hx (compareOp .GtE) opGe := od_cmp op_ge op_ge_str

/-! ### is -/
def opIs (neg : Bool) (a b : Wt) (S : Store) : Res Wt := match deref S a, deref S b with
  | some (.bl i), some (.bl j) => .ok (.d (.bl (if neg then !(i == j) else i == j))) S
  | some .non, some .non => .ok (.d (.bl (!neg))) S
  | some (.bl _), some .non => .ok (.d (.bl neg)) S
  | some (.int _), some .non => .ok (.d (.bl neg)) S
  | some (.str _), some .non => .ok (.d (.bl neg)) S
  | some (.tup _), some .non => .ok (.d (.bl neg)) S
  | some (.lst _), some .non => .ok (.d (.bl neg)) S
  | some (.dct _ _), some .non => .ok (.d (.bl neg)) S
  | some (.gl _), some .non => .ok (.d (.bl neg)) S
  | _, _ => .bad
theorem od_is_aux {neg : Bool} {c : Cn} {A : Ads} {S : Store} {σ : L2.St} {H : Hp} {d1 d2 : Wt} {x y : V} {Q : VK} (R : Rel c.K A S H) (r1 : rV c A S H d1 x) (r2 : rV c A S H d2 y) (p : Post c (rV c) σ A S H Q (opIs neg d1 d2 S)) :
    (y = .non ∧ Q (.bl (if neg then !decide (x = .non) else decide (x = .non))) H) ∨ ∃ i j, x = .bl i ∧ y = .bl j ∧ Q (.bl (if neg then !decide (i = j) else decide (i = j))) H := by
  unfold opIs at p
  split at p
  · rename_i i j e1 e2
    refine .inr ⟨i, j, (readAs R r1 e1).bl, (readAs R r2 e2).bl, ?_⟩
    rw [← Bool.beq_eq_decide_eq]
    exact p.hereV R (.bl _)
  all_goals first
    | exact p.elim
    | (rename_i e1 e2
       refine .inl ⟨(readAs R r2 e2).non, ?_⟩
       have hx := readAs R r1 e1
       first
        | (obtain rfl := hx.non; have := p.hereV R (.bl _); cases neg <;> simpa using this)
        | (obtain rfl := hx.bl; have := p.hereV R (.bl _); cases neg <;> simpa using this)
        | (obtain rfl := hx.int; have := p.hereV R (.bl _); cases neg <;> simpa using this)
        | (obtain rfl := hx.str; have := p.hereV R (.bl _); cases neg <;> simpa using this)
        | (obtain rfl := hx.gl; have := p.hereV R (.bl _); cases neg <;> simpa using this)
        | (obtain ⟨a, vs, rfl, _⟩ := hx.tup; have := p.hereV R (.bl _); cases neg <;> simpa using this)
        | (obtain ⟨a, vs, rfl, _⟩ := hx.lst; have := p.hereV R (.bl _); cases neg <;> simpa using this)
        | (obtain ⟨a, vs, rfl, _⟩ := hx.dct; have := p.hereV R (.bl _); cases neg <;> simpa using this))
theorem od_is : OpD X hx (compareOp .Is) (opIs false) := by
  intro W pins s σ H x y v u Q I rx ry h
  obtain ⟨A, S, σ', d1, d2, R, r1, r2, p⟩ := h
  rcases od_is_aux R r1 r2 p with ⟨e, q⟩ | ⟨i, j, e1, e2, q⟩
  · exact op_isN pins s σ H x y v u Q I rx ry ⟨e, q⟩
  · exact op_isBl pins s σ H x y v u Q I rx ry ⟨i, j, e1, e2, q⟩
theorem od_isnot : OpD X hx (compareOp .IsNot) (opIs true) := by
  intro W pins s σ H x y v u Q I rx ry h
  obtain ⟨A, S, σ', d1, d2, R, r1, r2, p⟩ := h
  rcases od_is_aux R r1 r2 p with ⟨e, q⟩ | ⟨i, j, e1, e2, q⟩
  · exact op_notN pins s σ H x y v u Q I rx ry ⟨e, q⟩
  · exact op_notBl pins s σ H x y v u Q I rx ry ⟨i, j, e1, e2, q⟩
end
end Y
end
section
/-! Y6: in, subscripts, slices, and, or, not, if, tests. -/
namespace Y
open PySem PySem.Spec PyProof.Rows L2

def D.flat : D → Bool
  | .non => true | .bl _ => true | .int _ => true | .str _ => true
  | _ => false
def D.key : D → Option Key
  | .int i => some (.inl i)
  | .str x => some (.inr x)
  | _ => none
def inSeq (x : D) (l : List D) : Bool := l.any fun y => deq y x
def inOk (x : D) (l : List D) : Bool := (x.flat && l.all D.flat) || (x.shp && (D.tup l).shp)
def keyIn (k : Key) (ks : List Key) : Bool := ks.any fun j => decide (j = k)
def opIn (neg : Bool) (a b : Wt) (S : Store) : Res Wt := match deref S a, deref S b with
  | some x, some (.tup l) => if inOk x l then .ok (.d (.bl (if neg then !inSeq x l else inSeq x l))) S else .bad
  | some x, some (.lst l) => if inOk x l then .ok (.d (.bl (if neg then !inSeq x l else inSeq x l))) S else .bad
  | some x, some (.dct ks l) => match x.key with
    | some k => .ok (.d (.bl (if neg then !keyIn k ks else keyIn k ks))) S
    | none => .bad
  | some (.str w), some (.str z) => if w.cps.size = 1 then .ok (.d (.bl (if neg then !decide (w.cps.getD 0 0 ∈ z.cps.toList) else decide (w.cps.getD 0 0 ∈ z.cps.toList)))) S else .bad
  | _, _ => .bad
section
variable {K : PySem.W.Frag} {lv : Addr → Prop} {H : Hp}
theorem flat_ok {d : D} {v : V} (h : RX K lv H d v) (f : d.flat = true) : flatV v = true ∧ ∀ (e : D) (w : V), RX K lv H e w → e.flat = true → eqV w v = deq e d := by
  cases d <;> first
    | (cases f; done)
    | (first | obtain rfl := h.non | obtain rfl := h.int | obtain rfl := h.bl | obtain rfl := h.str) <;> (refine ⟨rfl, fun e w he fe => ?_⟩; cases e <;> first
        | (cases fe; done)
        | (first | obtain rfl := he.non | obtain rfl := he.int | obtain rfl := he.bl | obtain rfl := he.str) <;> simp [deq, toPy, PyData.eqv, eqV])
theorem flats_ok {d : D} {v : V} (h : RX K lv H d v) (f : d.flat = true) : ∀ {l : List D} {vs : List V}, RPs K lv H l vs → l.all D.flat = true → vs.all flatV = true ∧ inV v vs = inSeq d l
  | _, _, .nil, _ => ⟨rfl, rfl⟩
  | _, _, .cons r t, fs => by
    rw [List.all_cons, Bool.and_eq_true] at fs
    obtain ⟨q1, q2⟩ := flats_ok h f t fs.2
    refine ⟨?_, ?_⟩
    · rw [List.all_cons, q1, (flat_ok (.inl r) fs.1).1]; rfl
    · unfold inV inSeq at *
      rw [List.any_cons, List.any_cons, q2, (flat_ok h f).2 _ _ (.inl r) fs.1]
theorem toPys_any {d : D} {p : PyData} (e : toPy d = some p) : ∀ {l : List D} {ps : List PyData}, toPys l = some ps → ps.any (fun y => PyData.eqv y p) = inSeq d l
  | [], _, h => by simp [toPys] at h; subst h; rfl
  | a :: l, _, h => by
    rw [toPys] at h
    cases q1 : toPy a with
    | none => rw [q1] at h; cases h
    | some p1 =>
      cases q2 : toPys l with
      | none => rw [q1, q2] at h; cases h
      | some ps =>
        rw [q1, q2] at h
        cases h
        unfold inSeq
        rw [List.any_cons, List.any_cons]
        congr 1
        · unfold deq; rw [q1, e]
        · exact toPys_any e q2
end
theorem shp_tup {l : List D} (h : (D.tup l).shp = true) : ∃ ps, toPys l = some ps ∧ SeqAt.shaped (.tuple ps) = true := by
  obtain ⟨p, e, s⟩ := shp_ok h
  rw [toPy] at e
  cases q : toPys l with
  | none => rw [q] at e; cases e
  | some ps => rw [q] at e; cases e; exact ⟨ps, rfl, s⟩
def rInTD (K : PySem.W.Frag) (neg : Bool) : R2 := fun x y H Q => ∃ d ds, Dp K H x d ∧ (Dp K H y (.list ds) ∨ Dp K H y (.tuple ds)) ∧ SeqAt.shaped d = true ∧ SeqAt.shaped (.tuple ds) = true ∧ Q (.bl (if neg then !ds.any fun z => PyData.eqv z d else ds.any fun z => PyData.eqv z d)) H
theorem room_in {A : Around} {d : PyData} {ds : List PyData} (h : SeqAt.shaped d = true) (hu : A.units + 65 < cLine) : A.units + 1 + min (PyData.depthAll ds) d.depth < cLine := by
  have h1 := SeqAt.depth_of_shaped h
  have h2 : min (PyData.depthAll ds) d.depth ≤ d.depth := Nat.min_le_right _ _
  omega
section
variable {X : Cx} {hx : Hx}
theorem op_inTD (hu : X.A.units + 65 < cLine) : OpR X (compareOp .In) (rInTD X.K false) := by
  intro pins s σ H x y v u Q I rx ry h
  obtain ⟨d, ds, hd, he, sd, se, q⟩ := h
  obtain ⟨as, r1⟩ := Dp.reads I d x v hd rx
  rcases he with he | he
  · obtain ⟨bs, r2⟩ := Dp.reads I (.list ds) y u he ry
    exact SeqAt.in_list_reads r2 r1 (SeqAt.canLay_of_shaped se) (SeqAt.canLay_of_shaped sd) (room_in sd hu) ⟨.bl _, H, I, rfl, q⟩
  · obtain ⟨bs, r2⟩ := Dp.reads I (.tuple ds) y u he ry
    exact SeqAt.in_tuple_reads r2 r1 (SeqAt.canLay_of_shaped se) (SeqAt.canLay_of_shaped sd) (room_in sd hu) ⟨.bl _, H, I, rfl, q⟩
theorem op_notInTD (hu : X.A.units + 65 < cLine) : OpR X (compareOp .NotIn) (rInTD X.K true) := by
  intro pins s σ H x y v u Q I rx ry h
  obtain ⟨d, ds, hd, he, sd, se, q⟩ := h
  obtain ⟨as, r1⟩ := Dp.reads I d x v hd rx
  rcases he with he | he
  · obtain ⟨bs, r2⟩ := Dp.reads I (.list ds) y u he ry
    exact SeqAt.notIn_list_reads r2 r1 (SeqAt.canLay_of_shaped se) (SeqAt.canLay_of_shaped sd) (room_in sd hu) ⟨.bl _, H, I, rfl, q⟩
  · obtain ⟨bs, r2⟩ := Dp.reads I (.tuple ds) y u he ry
    exact SeqAt.notIn_tuple_reads r2 r1 (SeqAt.canLay_of_shaped se) (SeqAt.canLay_of_shaped sd) (room_in sd hu) ⟨.bl _, H, I, rfl, q⟩
theorem key_ok {K : PySem.W.Frag} {lv : Addr → Prop} {H : Hp} {d : D} {v : V} {k : Key} (h : RX K lv H d v) (e : d.key = some k) : v = kV k := by
  cases d <;> first
    | (cases e; done)
    | (cases e; first | exact h.int | exact h.str)
theorem valV_some {kvs : List (Key × V)} {k : Key} : (valV kvs k).isSome = keyIn k (kvs.map (·.1)) := by
  unfold valV keyIn
  induction kvs with
  | nil => rfl
  | cons a r ih =>
    rw [List.find?_cons, List.map_cons, List.any_cons]
    by_cases e : a.1 = k
    · rw [decide_eq_true e]
      rfl
    · rw [decide_eq_false e, Bool.false_or]
      exact ih
theorem od_in_aux {neg : Bool} {op : CmpOp} (hu : X.A.units + 65 < cLine) (h1 : OpR X (compareOp op) (rIn X.K neg)) (h2 : OpR X (compareOp op) (rInTD X.K neg))
    (h3 : OpR X (compareOp op) fun x y H Q => ∃ (c : Nat) (z : Str), x = .str ⟨#[c]⟩ ∧ y = .str z ∧ Q (.bl (if neg then !decide (c ∈ z.cps.toList) else decide (c ∈ z.cps.toList))) H)
    (h4 : ∀ {pins : List (Addr × Obj)} {s : Shared} {σ : L2.St} {H : Hp} {a : Addr} {y : V} {o : Option V} {u : Value} {Q : Value → Shared → Prop}, Inv X pins σ H s → DGet H a y o → RelV y u → (∀ s', Inv X pins σ H s' → Q (.bool (if neg then !o.isSome else o.isSome)) s') → wpAny (model X.prog X.w) X.A (compareOp op u (.ref a)) Q X.xe s) :
    OpD X hx (compareOp op) (opIn neg) := by
  intro W pins s σ H x y v u Q I rx ry h
  obtain ⟨A, S, σ', d1, d2, R, r1, r2, p⟩ := h
  have seq : ∀ {x1 : D} {l : List D} {b : Addr} {us : List V}, RX X.K (Live A S) H x1 x → y = .ref b → (SqL X.K H b us ∨ SqT X.K H b us) → RPs X.K (Live A S) H l us → Post ⟨X.K, hx, W⟩ (rV ⟨X.K, hx, W⟩) σ' A S H Q (if inOk x1 l then .ok (.d (.bl (if neg then !inSeq x1 l else inSeq x1 l))) S else .bad) →
      wpAny (model X.prog X.w) X.A (compareOp op v u) (EP X pins σ Q) X.xe s := by
    intro x1 l b us q1 ey hq g p
    obtain ⟨hz, p⟩ := Post.iteP p
    unfold inOk at hz
    cases hf : (x1.flat && l.all D.flat) with
    | true =>
      rw [Bool.and_eq_true] at hf
      obtain ⟨q2, q3⟩ := flats_ok q1 hf.1 g hf.2
      refine h1 pins s σ H x y v u Q I rx ry ⟨b, us, ey, hq, (flat_ok q1 hf.1).1, q2, ?_⟩
      rw [q3]
      exact p.hereV R (.bl _)
    | false =>
      rw [hf, Bool.false_or, Bool.and_eq_true] at hz
      obtain ⟨p1, e1, s1⟩ := shp_ok hz.1
      obtain ⟨ps, e2, s2⟩ := shp_tup hz.2
      have dx := dpx_of q1 e1
      have dy := dps_of l us ps g e2
      refine h2 pins s σ H x y v u Q I rx ry ⟨p1, ps, dx, ?_, s1, s2, ?_⟩
      · subst ey
        rcases hq with hq | hq
        · exact .inl (.lst hq dy)
        · exact .inr (.tup hq dy)
      · rw [toPys_any e1 e2]
        exact p.hereV R (.bl _)
  unfold opIn at p
  split at p
  · rename_i x1 l g1 e
    obtain ⟨b, us, ey, hq, g⟩ := (readAs R r2 e).tup
    exact seq (readAs R r1 g1) ey (.inr hq) g p
  · rename_i x1 l g1 e
    obtain ⟨b, us, ey, hq, g⟩ := (readAs R r2 e).lst
    exact seq (readAs R r1 g1) ey (.inl (SqL.of hq)) g p
  · rename_i x1 ks l g1 e
    split at p
    · rename_i k ek
      obtain ⟨b, kvs, ey, hq, hk, g⟩ := (readAs R r2 e).dct
      subst ey
      obtain rfl : u = Value.ref b := ry
      have ex := key_ok (readAs R r1 g1) ek
      subst ex
      refine h4 I (.inl ⟨kvs, k, hq, rfl, rfl⟩) rx fun s' I' => ⟨.bl _, H, I', rfl, ?_⟩
      rw [valV_some, hk]
      exact p.hereV R (.bl _)
    · exact p.elim
  · rename_i w z ew e
    obtain ⟨hz, p⟩ := Post.iteP p
    obtain ⟨⟨l⟩⟩ := w
    have ex := (readAs R r1 ew).str
    have el : ∃ c, l = [c] := by
      match l, hz with
      | [c], _ => exact ⟨c, rfl⟩
    obtain ⟨c, rfl⟩ := el
    exact h3 pins s σ H x y v u Q I rx ry ⟨c, z, ex, (readAs R r2 e).str, p.hereV R (.bl _)⟩
  · exact p.elim
theorem od_in (hu : X.A.units + 65 < cLine) : OpD X hx (compareOp .In) (opIn false) := od_in_aux hu op_in_seq (op_inTD hu) op_in_sign fun I g r h => d_in (by omega) I g r h
theorem od_notIn (hu : X.A.units + 65 < cLine) : OpD X hx (compareOp .NotIn) (opIn true) := od_in_aux hu op_notIn_seq (op_notInTD hu) op_notIn_sign fun I g r h => d_notIn (by omega) I g r h
end
end Y
end
section
/-! Y7: subscripts, slices, truth, and, or, not, if, tests. -/
namespace Y
open PySem PySem.Spec PyProof.Rows L2

def dGet (k : Key) : List Key → List D → Option D
  | j :: ks, d :: ds => if j = k then some d else dGet k ks ds
  | _, _ => none
def optR (S : Store) : Option D → Res Wt
  | some d => .ok (.d d) S
  | none => .bad
def opIx (a b : Wt) (S : Store) : Res Wt := match deref S a, deref S b with
  | some (.tup l), some (.int i) => optR S (atI l i)
  | some (.lst l), some (.int i) => optR S (atI l i)
  | some (.fls l), some (.int i) => optR S (atI l i)
  | some (.str z), some (.int i) => if z.length ≤ lim then optR S ((atI z.cps.toList i).map fun c => .str ⟨#[c]⟩) else .bad
  | some (.dct ks l), some y => optR S (y.key.bind fun k => dGet k ks l)
  | _, _ => .bad
section
variable {K : PySem.W.Frag} {lv : Addr → Prop} {H : Hp}
theorem atI_rps {l : List D} {vs : List V} {i : Int} {d : D} (h : RPs K lv H l vs) (e : atI l i = some d) : ∃ v, atI vs i = some v ∧ RP K lv H d v := by
  unfold atI at e ⊢
  rw [← h.len]
  cases q : ixN l.length i with
  | none => rw [q] at e; cases e
  | some j =>
    rw [q] at e
    exact h.get e
theorem dGet_rps {k : Key} : ∀ {kvs : List (Key × V)} {l : List D} {d : D}, RPs K lv H l (kvs.map (·.2)) → dGet k (kvs.map (·.1)) l = some d → ∃ v, valV kvs k = some v ∧ RP K lv H d v
  | [], _, _, h, e => by cases h; cases e
  | a :: r, _, d, h, e => by
    cases h with
    | cons h1 h2 =>
      rw [List.map_cons, dGet] at e
      unfold valV
      rw [List.find?_cons]
      by_cases q : a.1 = k
      · rw [if_pos q] at e
        cases e
        rw [decide_eq_true q]
        exact ⟨a.2, rfl, h1⟩
      · rw [if_neg q] at e
        rw [decide_eq_false q]
        exact dGet_rps h2 e
end
section
variable {X : Cx} {hx : Hx} {a b c : Expr} {fa fb fc : EM} {pos : Pos}
theorem optR_ok {c : Cn} {σ : L2.St} {A : Ads} {S : Store} {H : Hp} {Q : VK} {o : Option D} (p : Post c (rV c) σ A S H Q (optR S o)) : ∃ d, o = some d ∧ Post c (rV c) σ A S H Q (.ok (.d d) S) := by
  cases o with
  | none => exact p.elim
  | some d => exact ⟨d, rfl, p⟩
theorem ixd (hu : X.A.units + 65 < cLine) (W : WX) : IxR X (rD ⟨X.K, hx, W⟩ opIx) := by
  intro value slice pins s σ H x y v u Q I rx ry h hs
  obtain ⟨A, S, σ', d1, d2, R, r1, r2, p⟩ := h
  unfold opIx at p
  split at p
  · rename_i l i e1 e2
    obtain ⟨b, us, ex, hq, g⟩ := (readAs R r1 e1).tup
    obtain ⟨d, q, p⟩ := optR_ok p
    obtain ⟨w, hw, rw'⟩ := atI_rps g q
    exact ix_tup value slice pins s σ H x y v u Q I rx ry ⟨b, us, i, w, ex, (readAs R r2 e2).int, hq, hw, p.hereV R rw'⟩ hs
  · rename_i l i e1 e2
    obtain ⟨b, us, ex, hq, g⟩ := (readAs R r1 e1).lst
    obtain ⟨d, q, p⟩ := optR_ok p
    obtain ⟨w, hw, rw'⟩ := atI_rps g q
    exact ix_list value slice pins s σ H x y v u Q I rx ry ⟨b, us, i, w, ex, (readAs R r2 e2).int, SqL.of hq, hw, p.hereV R rw'⟩ hs
  · rename_i l i e1 e2
    obtain ⟨b, us, ex, hq, g⟩ := (readAs R r1 e1).fls
    obtain ⟨d, q, p⟩ := optR_ok p
    obtain ⟨w, hw, rw'⟩ := atI_rps g q
    exact ix_list value slice pins s σ H x y v u Q I rx ry ⟨b, us, i, w, ex, (readAs R r2 e2).int, hq, hw, p.hereV R rw'⟩ hs
  · rename_i z i e1 e2
    obtain ⟨hz, p⟩ := Post.iteP p
    obtain ⟨d, q, p⟩ := optR_ok p
    cases q2 : atI z.cps.toList i with
    | none => rw [q2] at q; cases q
    | some c =>
      rw [q2] at q
      cases q
      exact ix_str value slice pins s σ H x y v u Q I rx ry ⟨z, i, c, (readAs R r1 e1).str, (readAs R r2 e2).int, lim_line hz, q2, p.hereV R (.str _)⟩ hs
  · rename_i ks l y1 e1 e2
    obtain ⟨d, q, p2⟩ := optR_ok p
    cases ek : y1.key with
    | none => rw [ek] at q; cases q
    | some k =>
      rw [ek] at q
      obtain ⟨b, kvs, ex, hq, hk, g⟩ := (readAs R r1 e1).dct
      subst hk
      obtain ⟨w, hw, rw'⟩ := dGet_rps g q
      have ey := key_ok (readAs R r2 e2) ek
      subst ex ey
      obtain rfl : v = Value.ref b := rx
      have G : DGet H b (kV k) (some w) := .inl ⟨kvs, k, hq, rfl, hw.symm⟩
      exact tail_any (dict_typeIs I G) PySem.F.slot_dict_getitem.lookup (d_getItem (by omega) I G ry fun w' s' I' rw2 => ⟨w, H, I', rw2, p2.hereV R rw'⟩) hs
  · exact p.elim
theorem d_ix (hu : X.A.units + 65 < cLine) (ha : DE X hx a fa) (hb : DE X hx b fb) (hs : PlainIx b := by intro _ _; rfl) : DE X hx (.Subscript a b pos) (eOp opIx fa fb) :=
  ⟨fun W tk => PEimp (pe_ix (ixd hu W) (ha.run W tk) (hb.run W tk) hs) fun σ H Q h => eOp_tOp h⟩

/-! ### slices -/
abbrev OM := Ev → Store → Res (Option Int)
def oNone : OM := fun _ S => .ok none S
def asI : Wt → Store → Res (Option Int)
  | .d (.int i), S => .ok (some i) S
  | _, _ => .bad
theorem asI_cases (d : Wt) (S : Store) : (∃ b, d = .d (.int b)) ∨ asI d S = .bad := by
  cases d with
  | d x => cases x <;> first | exact .inl ⟨_, rfl⟩ | exact .inr rfl
  | _ => exact .inr rfl
def oSome (f : EM) : OM := fun σd S => (f σd S).bind asI
def rO : RR (Option Int) (Option Int) := fun _ _ _ a b => a = b
def tO (c : Cn) (f : OM) : TO := fun σ H Q => ∃ A S σd, Rel c.K A S H ∧ RE c.K c.hx A (Live A S) H σd σ ∧ Post c rO σ A S H Q (f σd S)
structure DO (X : Cx) (hx : Hx) (e : Option Expr) (f : OM) : Prop where
  run : ∀ W, Takes X W → PO X e (tO ⟨X.K, hx, W⟩ f)
theorem POimp {X : Cx} {e : Option Expr} {t t' : TO} (h : PO X e t) (i : ∀ σ H Q, t' σ H Q → t σ H Q) : PO X e t' := ⟨fun pins s σ H Q I q => h.run pins s σ H Q I (i σ H Q q)⟩
theorem do_none : DO X hx none oNone := ⟨fun W tk => POimp po_none fun σ H Q ⟨A, S, σd, R, E, p⟩ => p.here R rfl⟩
theorem do_some (h : DE X hx a fa) : DO X hx (some a) (oSome fa) := ⟨fun W tk => POimp (po_some (h.run W tk)) fun σ H Q ⟨A, S, σd, R, E, p⟩ =>
  ⟨A, S, σd, R, E, (Post.bind (R1 := rV _) p).mono fun v H1 ⟨A1, S1, d, R1, T1, r1, p1⟩ => by
    rcases asI_cases d S1 with ⟨i, rfl⟩ | e
    · have e : RP X.K (Live A1 S1) H1 (.int i) v := r1
      cases e
      exact ⟨i, rfl, p1.here R1 rfl⟩
    · rw [e] at p1; exact p1.elim⟩⟩
def cutD (xs : List D) (lo hi : Option Int) : List D := (xs.drop (HT.sIx xs.length 0 lo)).take (HT.sIx xs.length xs.length hi - HT.sIx xs.length 0 lo)
theorem cut_rps {K : PySem.W.Frag} {lv : Addr → Prop} {H : Hp} {l : List D} {vs : List V} (h : RPs K lv H l vs) (lo hi : Option Int) : RPs K lv H (cutD l lo hi) (cutV vs lo hi) := by
  unfold cutD cutV
  rw [← h.len]
  exact (h.drop _).take _
def opSl (d : Wt) (lo hi : Option Int) (S : Store) : Res Wt := match deref S d with
  | some (.tup l) => .ok (.d (.tup (cutD l lo hi))) S
  | some (.lst l) => .ok (.d (.lst (cutD l lo hi))) S
  | some (.fls l) => .ok (.d (.lst (cutD l lo hi))) S
  | some (.str z) => if z.length ≤ lim then .ok (.d (.str (cutS z lo hi))) S else .bad
  | _ => .bad
/-- a list's, into a new cell -/
def opSlL (d : Wt) (lo hi : Option Int) (S : Store) : Res Wt := match deref S d with
  | some (.lst l) => .ok (.loc S.length) (S ++ [.lst (cutD l lo hi)])
  | some (.fls l) => .ok (.loc S.length) (S ++ [.lst (cutD l lo hi)])
  | _ => .bad
def eSl (op : Wt → Option Int → Option Int → Store → Res Wt) (fa : EM) (fl fh : OM) : EM := fun σd S => (fa σd S).bind fun d S1 => (fl σd S1).bind fun lo S2 => (fh σd S2).bind fun hi S3 => op d lo hi S3
def rSlD (c : Cn) (f : Wt → Option Int → Option Int → Store → Res Wt) : V → Option Int → Option Int → Hp → VK → Prop := fun x lo hi H Q => ∃ A S σ d, Rel c.K A S H ∧ rV c A S H d x ∧ Post c (rV c) σ A S H Q (f d lo hi S)
theorem cut_whole {xs : List V} {lo hi : Option Int} (h : HT.sIx xs.length 0 lo = 0 ∧ HT.sIx xs.length xs.length hi = xs.length) : cutV xs lo hi = xs := by
  unfold cutV
  rw [h.1, h.2]
  simp
theorem sld (W : WX) : SlR X (rSlD ⟨X.K, hx, W⟩ opSl) := by
  intro pins s σ H x v vl vu lo hi sl Q I rx hs pl pu h
  obtain ⟨A, S, σ', d, R, r, p⟩ := h
  unfold opSl at p
  split at p
  · rename_i l e
    obtain ⟨b, us, ex, hq, g⟩ := (readAs R r e).tup
    refine sl_tupA pins s σ H x v vl vu lo hi sl Q I rx hs pl pu ⟨b, us, ex, hq, fun hw => ?_, fun hw q hq => p.tup R (cut_rps g lo hi) hq⟩
    have := cut_rps g lo hi
    rw [cut_whole hw] at this
    exact p.hereV R (.tup hq this)
  · rename_i l e
    obtain ⟨b, us, ex, hq, g⟩ := (readAs R r e).lst
    exact sl_list pins s σ H x v vl vu lo hi sl Q I rx hs pl pu ⟨b, us, ex, SqL.of hq, fun q hq => p.lst R (cut_rps g lo hi) hq⟩
  · rename_i l e
    obtain ⟨b, us, ex, hq, g⟩ := (readAs R r e).fls
    exact sl_list pins s σ H x v vl vu lo hi sl Q I rx hs pl pu ⟨b, us, ex, hq, fun q hq => p.lst R (cut_rps g lo hi) hq⟩
  · rename_i z e
    obtain ⟨hz, p⟩ := Post.iteP p
    exact sl_str pins s σ H x v vl vu lo hi sl Q I rx hs pl pu ⟨z, (readAs R r e).str, lim_line hz, p.hereV R (.str _)⟩
  · exact p.elim
theorem sldL (W : WX) : SlR X (rSlD ⟨X.K, hx, W⟩ opSlL) := by
  intro pins s σ H x v vl vu lo hi sl Q I rx hs pl pu h
  obtain ⟨A, S, σ', d, R, r, p⟩ := h
  unfold opSlL at p
  split at p
  · rename_i l e
    obtain ⟨b, us, ex, hq, g⟩ := (readAs R r e).lst
    exact sl_list pins s σ H x v vl vu lo hi sl Q I rx hs pl pu ⟨b, us, ex, SqL.of hq, fun q hq => p.alloc R (cut_rps g lo hi) hq⟩
  · rename_i l e
    obtain ⟨b, us, ex, hq, g⟩ := (readAs R r e).fls
    exact sl_list pins s σ H x v vl vu lo hi sl Q I rx hs pl pu ⟨b, us, ex, hq, fun q hq => p.alloc R (cut_rps g lo hi) hq⟩
  · exact p.elim
theorem d_slG {op : Wt → Option Int → Option Int → Store → Res Wt} {lo hi : Option Expr} {fl fh : OM} {p2 : Pos} (ho : ∀ W, SlR X (rSlD ⟨X.K, hx, W⟩ op)) (ha : DE X hx a fa) (hl : DO X hx lo fl) (hh : DO X hx hi fh) : DE X hx (.Subscript a (.Slice lo hi none p2) pos) (eSl op fa fl fh) :=
  ⟨fun W tk => PEimp (pe_slice (ho W) (ha.run W tk) (hl.run W tk) (hh.run W tk)) fun σ H Q ⟨A, S, σd, R, E, p⟩ =>
    ⟨A, S, σd, R, E, (Post.bind (R1 := rV _) p).mono fun v H1 ⟨A1, S1, d, R1, T1, r1, p1⟩ => ⟨A1, S1, σd, R1, E.step R T1, (Post.bind (R1 := rO) p1).mono fun o2 H2 ⟨A2, S2, o2', R2, T2, r2, p2⟩ =>
      ⟨A2, S2, σd, R2, (E.step R T1).step R1 T2, (Post.bind (R1 := rO) p2).mono fun o3 H3 ⟨A3, S3, o3', R3, T3, r3, p3⟩ => by
        cases r2
        cases r3
        exact ⟨A3, S3, σ, d, R3, (r1.step R1 T2).step R2 T3, p3⟩⟩⟩⟩⟩
theorem d_sl {lo hi : Option Expr} {fl fh : OM} {p2 : Pos} (ha : DE X hx a fa) (hl : DO X hx lo fl) (hh : DO X hx hi fh) : DE X hx (.Subscript a (.Slice lo hi none p2) pos) (eSl opSl fa fl fh) := d_slG sld ha hl hh
theorem d_slL {lo hi : Option Expr} {fl fh : OM} {p2 : Pos} (ha : DE X hx a fa) (hl : DO X hx lo fl) (hh : DO X hx hi fh) : DE X hx (.Subscript a (.Slice lo hi none p2) pos) (eSl opSlL fa fl fh) := d_slG sldL ha hl hh

/-! ### truth -/
def truth (d : Wt) (S : Store) : Res Bool := match deref S d with
  | some .non => .ok false S
  | some (.bl b) => .ok b S
  | some (.int i) => .ok (i != 0) S
  | some (.str x) => if x.length ≤ lim then .ok ((x.length : Int) != 0) S else .bad
  | some (.tup l) => .ok (!l.isEmpty) S
  | some (.lst l) => .ok (!l.isEmpty) S
  | some (.fls l) => .ok (!l.isEmpty) S
  | _ => .bad
theorem isEmpty_rps {K : PySem.W.Frag} {lv : Addr → Prop} {H : Hp} {l : List D} {vs : List V} (h : RPs K lv H l vs) : l.isEmpty = vs.isEmpty := by cases h <;> rfl
theorem Post.truth {c : Cn} {σ : L2.St} {A : Ads} {S : Store} {H : Hp} {d : Wt} {v : V} {γ δ : Type} {R2 : RR γ δ} {Q : δ → Hp → Prop} {k : Bool → Store → Res γ} (R : Rel c.K A S H) (r : rV c A S H d v)
    (p : Post c R2 σ A S H Q ((Y.truth d S).bind k)) : ∃ b, TruV c.K v H b ∧ Post c R2 σ A S H Q (k b S) := by
  unfold Y.truth at p
  split at p
  · rename_i e; obtain rfl := (readAs R r e).non; exact ⟨false, rfl, p⟩
  · rename_i b e; obtain rfl := (readAs R r e).bl; exact ⟨b, rfl, p⟩
  · rename_i b e; obtain rfl := (readAs R r e).int; exact ⟨_, rfl, p⟩
  · rename_i x e
    obtain rfl := (readAs R r e).str
    by_cases hz : x.length ≤ lim
    · rw [if_pos hz] at p; exact ⟨_, ⟨lim_line hz, rfl⟩, p⟩
    · rw [if_neg hz] at p; exact p.elim
  · rename_i l e
    obtain ⟨b, us, rfl, hq, g⟩ := (readAs R r e).tup
    exact ⟨!l.isEmpty, .inr (.inl ⟨us, hq, by rw [isEmpty_rps g]⟩), p⟩
  · rename_i l e
    obtain ⟨b, us, rfl, hq, g⟩ := (readAs R r e).lst
    exact ⟨!l.isEmpty, .inl ⟨us, SqL.of hq, by rw [isEmpty_rps g]⟩, p⟩
  · rename_i l e
    obtain ⟨b, us, rfl, hq, g⟩ := (readAs R r e).fls
    exact ⟨!l.isEmpty, .inl ⟨us, hq, by rw [isEmpty_rps g]⟩, p⟩
  · exact p.elim
def tTru (f : EM) : TM := fun σd S => (f σd S).bind fun d S1 => (truth d S1).bind fun b S2 => .ok b S2
/-- an expression as a test, by its value's truth -/
theorem dt_tru (h : DE X hx a fa) (he : ∀ whole, isTrue a X.env whole = (do let v ← whole; standAt a.pos; holding [v] (truthy v)) := by intro _; rfl) : DT X hx a (tTru fa) :=
  ⟨fun W tk => PTimp (pt_truth (h.run W tk) he) fun σ H Q ⟨A, S, σd, R, E, p⟩ => ⟨A, S, σd, R, E, (Post.bind (R1 := rV _) p).mono fun v H1 ⟨A1, S1, d, R1, T1, r1, p1⟩ => by
    obtain ⟨b, t, p2⟩ := p1.truth R1 r1
    exact ⟨b, t, p2.here R1 rfl⟩⟩⟩
def tNot (f : TM) : TM := fun σd S => (f σd S).bind fun b S1 => .ok (!b) S1
def tAnd (f g : TM) : TM := fun σd S => (f σd S).bind fun b S1 => if b = true then g σd S1 else .ok false S1
def tOr (f g : TM) : TM := fun σd S => (f σd S).bind fun b S1 => if b = true then .ok true S1 else g σd S1
section
variable {rest : List Expr} {f g : TM}
theorem dt_not (h : DT X hx a f) : DT X hx (.UnaryOp .Not a pos) (tNot f) := ⟨fun W tk => PTimp (pt_not (h.run W tk)) fun σ H Q ⟨A, S, σd, R, E, p⟩ =>
  ⟨A, S, σd, R, E, (Post.bind (R1 := rB) p).mono fun b H1 ⟨A1, S1, d, R1, T1, r1, p1⟩ => by cases r1; exact p1.here R1 rfl⟩⟩
theorem dw_and1 (h : DT X hx a f) : DW X hx (.BoolOp .And [a] pos) f := ⟨fun W tk => pw_and1 (h.run W tk)⟩
theorem dw_or1 (h : DT X hx a f) : DW X hx (.BoolOp .Or [a] pos) f := ⟨fun W tk => pw_or1 (h.run W tk)⟩
theorem dw_and (h1 : DT X hx a f) (h2 : DW X hx (.BoolOp .And (b :: rest) pos) g) : DW X hx (.BoolOp .And (a :: b :: rest) pos) (tAnd f g) := ⟨fun W tk => PWimp (pw_and (h1.run W tk) (h2.run W tk)) fun σ H Q ⟨A, S, σd, R, E, p⟩ =>
  ⟨A, S, σd, R, E, (Post.bind (R1 := rB) p).mono fun b H1 ⟨A1, S1, d, R1, T1, r1, p1⟩ => by
    cases r1
    cases b with
    | true => exact ⟨A1, S1, σd, R1, E.step R T1, p1⟩
    | false => exact p1.here R1 rfl⟩⟩
theorem dw_or (h1 : DT X hx a f) (h2 : DW X hx (.BoolOp .Or (b :: rest) pos) g) : DW X hx (.BoolOp .Or (a :: b :: rest) pos) (tOr f g) := ⟨fun W tk => PWimp (pw_or (h1.run W tk) (h2.run W tk)) fun σ H Q ⟨A, S, σd, R, E, p⟩ =>
  ⟨A, S, σd, R, E, (Post.bind (R1 := rB) p).mono fun b H1 ⟨A1, S1, d, R1, T1, r1, p1⟩ => by
    cases r1
    cases b with
    | false => exact ⟨A1, S1, σd, R1, E.step R T1, p1⟩
    | true => exact p1.here R1 rfl⟩⟩
/-- .. as values -/
def eAnd (fa fb : EM) : EM := fun σd S => (fa σd S).bind fun d S1 => (truth d S1).bind fun b S2 => if b = true then fb σd S2 else .ok d S2
def eOr (fa fb : EM) : EM := fun σd S => (fa σd S).bind fun d S1 => (truth d S1).bind fun b S2 => if b = true then .ok d S2 else fb σd S2
def eNot (fa : EM) : EM := fun σd S => (fa σd S).bind fun d S1 => (truth d S1).bind fun b S2 => .ok (.d (.bl (!b))) S2
theorem d_one {op} (h : DE X hx a fa) : DE X hx (.BoolOp op [a] pos) fa := ⟨fun W tk => pe_one (h.run W tk)⟩
theorem d_and (h1 : DE X hx a fa) (h2 : DE X hx (.BoolOp .And (b :: rest) pos) fb) : DE X hx (.BoolOp .And (a :: b :: rest) pos) (eAnd fa fb) := ⟨fun W tk => PEimp (pe_andT (h1.run W tk) (h2.run W tk)) fun σ H Q ⟨A, S, σd, R, E, p⟩ =>
  ⟨A, S, σd, R, E, (Post.bind (R1 := rV _) p).mono fun v H1 ⟨A1, S1, d, R1, T1, r1, p1⟩ => by
    obtain ⟨b, t, p2⟩ := p1.truth R1 r1
    refine ⟨b, t, ?_⟩
    cases b with
    | true => exact ⟨A1, S1, σd, R1, E.step R T1, p2⟩
    | false => exact p2.here R1 r1⟩⟩
theorem d_or (h1 : DE X hx a fa) (h2 : DE X hx (.BoolOp .Or (b :: rest) pos) fb) : DE X hx (.BoolOp .Or (a :: b :: rest) pos) (eOr fa fb) := ⟨fun W tk => PEimp (pe_orT (h1.run W tk) (h2.run W tk)) fun σ H Q ⟨A, S, σd, R, E, p⟩ =>
  ⟨A, S, σd, R, E, (Post.bind (R1 := rV _) p).mono fun v H1 ⟨A1, S1, d, R1, T1, r1, p1⟩ => by
    obtain ⟨b, t, p2⟩ := p1.truth R1 r1
    refine ⟨b, t, ?_⟩
    cases b with
    | false => exact ⟨A1, S1, σd, R1, E.step R T1, p2⟩
    | true => exact p2.here R1 r1⟩⟩
theorem d_not (h : DE X hx a fa) : DE X hx (.UnaryOp .Not a pos) (eNot fa) := ⟨fun W tk => PEimp (pe_notT (h.run W tk)) fun σ H Q ⟨A, S, σd, R, E, p⟩ =>
  ⟨A, S, σd, R, E, (Post.bind (R1 := rV _) p).mono fun v H1 ⟨A1, S1, d, R1, T1, r1, p1⟩ => by
    obtain ⟨b, t, p2⟩ := p1.truth R1 r1
    exact ⟨b, t, p2.hereV R1 (.bl _)⟩⟩⟩
def eIf (t : TM) (fa fb : EM) : EM := fun σd S => (t σd S).bind fun b S1 => if b = true then fa σd S1 else fb σd S1
theorem d_if (hc : DT X hx c f) (ha : DE X hx a fa) (hb : DE X hx b fb) : DE X hx (.IfExp c a b pos) (eIf f fa fb) := ⟨fun W tk => PEimp (pe_ifExp (hc.run W tk) (ha.run W tk) (hb.run W tk)) fun σ H Q ⟨A, S, σd, R, E, p⟩ =>
  ⟨A, S, σd, R, E, (Post.bind (R1 := rB) p).mono fun b H1 ⟨A1, S1, d, R1, T1, r1, p1⟩ => by
    cases r1
    cases b with
    | true => exact ⟨A1, S1, σd, R1, E.step R T1, p1⟩
    | false => exact ⟨A1, S1, σd, R1, E.step R T1, p1⟩⟩⟩
end
end
end Y
end
section
/-! Y8: calls of built-in functions and types. -/
namespace Y
open PySem PySem.Spec PyProof.Rows L2

def eB (f : List Wt → Store → Res Wt) (g : AM) : EM := fun σd S => (g σd S).bind fun ds S1 => f ds S1
def rCD (c : Cn) (f : List Wt → Store → Res Wt) : List V → Hp → VK → Prop := fun vs H Q => ∃ A S σ ds, Rel c.K A S H ∧ rVs c A S H ds vs ∧ Post c (rV c) σ A S H Q (f ds S)
def CalD (X : Cx) (hx : Hx) (v : Value) (f : List Wt → Store → Res Wt) : Prop := ∀ W, CallR X v (rCD ⟨X.K, hx, W⟩ f)
theorem eB_of {c : Cn} {f : List Wt → Store → Res Wt} {g : AM} {σ : L2.St} {H : Hp} {Q : VK} (h : tE c (eB f g) σ H Q) : tCB (rCD c f) (tA c g) σ H Q := by
  obtain ⟨A, S, σd, R, E, p⟩ := h
  exact ⟨A, S, σd, R, E, (Post.bind (R1 := rVs c) p).mono fun v H1 ⟨A1, S1, d, R1, T1, r1, p1⟩ => ⟨A1, S1, σ, d, R1, r1, p1⟩⟩
section
variable {X : Cx} {hx : Hx} {e : Expr} {es : List Expr} {g : AM} {f : List Wt → Store → Res Wt} {x : Str} {p pos : Pos} {id T : String}
theorem d_callB (hc : CalD X hx (.builtin id) f) (hm : X.mg x = none) (ha : DA X hx (e :: es) g) (hg : Gl X x := by rfl) (hv : bootBuiltins x = some (.builtin id) := by decide +kernel) (hn : x ≠ "__name__" := by decide) (hdb : (x == ("__debug__" : Str)) = false := by decide)
    (he : starEach (e :: es) X.env = (false, eval e X.env) :: starEach es X.env := by rfl) (hpl : (backTo pos (starEach es X.env)).any (·.1) = false := by rfl) : DE X hx (.Call (.Name x p) (e :: es) [] pos) (eB f g) :=
  ⟨fun W tk => PEimp (pe_callB (hc W) hg hm hv (ha.run W tk) hn hdb he hpl) fun σ H Q h => eB_of h⟩
theorem d_callTy (hc : CalD X hx (.type T) f) (hm : X.mg x = none) (ha : DA X hx (e :: es) g) (hg : Gl X x := by rfl) (hv : bootBuiltins x = some (.type T) := by decide +kernel) (hn : x ≠ "__name__" := by decide) (hdb : (x == ("__debug__" : Str)) = false := by decide)
    (he : starEach (e :: es) X.env = (false, eval e X.env) :: starEach es X.env := by rfl) (hpl : (backTo pos (starEach es X.env)).any (·.1) = false := by rfl) : DE X hx (.Call (.Name x p) (e :: es) [] pos) (eB f g) :=
  ⟨fun W tk => PEimp (pe_callTy (hc W) hg hm hv (ha.run W tk) hn hdb he hpl) fun σ H Q h => eB_of h⟩
theorem d_callG (hc : CalD X hx (.builtin id) f) (hm : X.mg x = some (.builtin id)) (ha : DA X hx (e :: es) g) (hg : Gl X x := by rfl) (hdb : (x == ("__debug__" : Str)) = false := by decide)
    (he : starEach (e :: es) X.env = (false, eval e X.env) :: starEach es X.env := by rfl) (hpl : (backTo pos (starEach es X.env)).any (·.1) = false := by rfl) : DE X hx (.Call (.Name x p) (e :: es) [] pos) (eB f g) :=
  ⟨fun W tk => PEimp (pe_callBfun (hc W) hg hm (ha.run W tk) hdb he hpl) fun σ H Q h => eB_of h⟩
/-- a built-in type as a value -/
theorem d_ty {n : String} (hm : X.mg x = none) (hg : Gl X x := by rfl) (hv : bootBuiltins x = some (.type n) := by decide +kernel) (hn : x ≠ "__name__" := by decide) (hd : (x == ("__debug__" : Str)) = false := by decide) : DE X hx (.Name x pos) (eC (.ty n)) :=
  d_c (pe_bltn (v := .ty n) hg hm hv rfl hn hd) fun _ _ => .ty n
end

/-! ### one, two arguments -/
theorem rvs1 {c : Cn} {A : Ads} {S : Store} {H : Hp} {d : Wt} {vs : List V} (h : rVs c A S H [d] vs) : ∃ v, vs = [v] ∧ rV c A S H d v := by
  cases h with
  | cons r t => cases t; exact ⟨_, rfl, r⟩
theorem rvs2 {c : Cn} {A : Ads} {S : Store} {H : Hp} {d e : Wt} {vs : List V} (h : rVs c A S H [d, e] vs) : ∃ v u, vs = [v, u] ∧ rV c A S H d v ∧ rV c A S H e u := by
  cases h with
  | cons r t =>
    obtain ⟨u, rfl, r'⟩ := rvs1 t
    exact ⟨_, _, rfl, r, r'⟩
def f1 (f : D → Store → Res Wt) : List Wt → Store → Res Wt
  | [d], S => match deref S d with
    | some x => f x S
    | none => .bad
  | _, _ => .bad
def f2 (f : D → D → Store → Res Wt) : List Wt → Store → Res Wt
  | [d, e], S => match deref S d, deref S e with
    | some x, some y => f x y S
    | _, _ => .bad
  | _, _ => .bad
theorem rcd1 {c : Cn} {f : D → Store → Res Wt} {vs : List V} {H : Hp} {Q : VK} (h : rCD c (f1 f) vs H Q) : ∃ A S σ x v, Rel c.K A S H ∧ vs = [v] ∧ RX c.K (Live A S) H x v ∧ Post c (rV c) σ A S H Q (f x S) := by
  obtain ⟨A, S, σ, ds, R, r, p⟩ := h
  match ds, r, p with
  | [d], r, p =>
    obtain ⟨v, rfl, r'⟩ := rvs1 r
    unfold f1 at p
    dsimp only at p
    split at p
    · rename_i x e
      exact ⟨A, S, σ, x, v, R, rfl, readAs R r' e, p⟩
    · exact p.elim
  | [], _, p => exact p.elim
  | _ :: _ :: _, _, p => exact p.elim
theorem rcd2 {c : Cn} {f : D → D → Store → Res Wt} {vs : List V} {H : Hp} {Q : VK} (h : rCD c (f2 f) vs H Q) : ∃ A S σ x y v u, Rel c.K A S H ∧ vs = [v, u] ∧ RX c.K (Live A S) H x v ∧ RX c.K (Live A S) H y u ∧ Post c (rV c) σ A S H Q (f x y S) := by
  obtain ⟨A, S, σ, ds, R, r, p⟩ := h
  match ds, r, p with
  | [d, e], r, p =>
    obtain ⟨v, u, rfl, r1, r2⟩ := rvs2 r
    unfold f2 at p
    dsimp only at p
    split at p
    · rename_i x y e1 e2
      exact ⟨A, S, σ, x, y, v, u, R, rfl, readAs R r1 e1, readAs R r2 e2, p⟩
    · exact p.elim
  | [], _, p => exact p.elim
  | [_], _, p => exact p.elim
  | _ :: _ :: _ :: _, _, p => exact p.elim

/-! ### len -/
def bLen : List Wt → Store → Res Wt := f1 fun d S => match d with
  | .str x => if x.length ≤ lim then .ok (.d (.int x.length)) S else .bad
  | .tup l => .ok (.d (.int l.length)) S
  | .lst l => .ok (.d (.int l.length)) S
  | .fls l => .ok (.d (.int l.length)) S
  | .dct ks l => .ok (.d (.int ks.length)) S
  | _ => .bad
section
variable {X : Cx} {hx : Hx}
theorem cal_len : CalD X hx (.builtin "len") bLen := by
  intro W pins s σ H xs us Q I r h
  obtain ⟨A, S, σ', d, v, R, rfl, rv, p⟩ := rcd1 h
  split at p
  · rename_i x
    obtain ⟨hz, p⟩ := Post.iteP p
    exact call_len_str pins s σ H _ us Q I r ⟨x, by rw [rv.str], lim_line hz, p.hereV R (.int _)⟩
  · rename_i l
    obtain ⟨b, vs, rfl, hq, g⟩ := rv.tup
    refine call_len_seq pins s σ H _ us Q I r ⟨b, vs, rfl, .inr hq, ?_⟩
    rw [← g.len]
    exact p.hereV R (.int _)
  · rename_i l
    obtain ⟨b, vs, rfl, hq, g⟩ := rv.lst
    refine call_len_seq pins s σ H _ us Q I r ⟨b, vs, rfl, .inl (SqL.of hq), ?_⟩
    rw [← g.len]
    exact p.hereV R (.int _)
  · rename_i l
    obtain ⟨b, vs, rfl, hq, g⟩ := rv.fls
    refine call_len_seq pins s σ H _ us Q I r ⟨b, vs, rfl, .inl hq, ?_⟩
    rw [← g.len]
    exact p.hereV R (.int _)
  · rename_i ks l
    obtain ⟨b, kvs, rfl, hq, hk, g⟩ := rv.dct
    obtain ⟨u, rfl, ru⟩ := vals1 r
    cases ru
    refine d_len I hq fun t s' I' => ⟨.int kvs.length, H, I', ⟨t, rfl⟩, ?_⟩
    have : kvs.length = ks.length := by rw [← hk, List.length_map]
    rw [this]
    exact p.hereV R (.int _)
  · exact p.elim

/-! ### abs, int, min, max, divmod, gcd -/
def bAbs : List Wt → Store → Res Wt := f1 fun d S => match d with
  | .int i => .ok (.d (.int (if i < 0 then -i else i))) S
  | _ => .bad
theorem cal_abs : CalD X hx (.builtin "abs") bAbs := by
  intro W pins s σ H xs us Q I r h
  obtain ⟨A, S, σ', d, v, R, rfl, rv, p⟩ := rcd1 h
  split at p
  · rename_i x
    exact call_abs pins s σ H _ us Q I r ⟨x, by rw [rv.int], p.hereV R (.int _)⟩
  · exact p.elim
def bInt : List Wt → Store → Res Wt := f1 fun d S => match d with
  | .int i => .ok (.d (.int i)) S
  | .bl b => .ok (.d (.int (if b then 1 else 0))) S
  | .str a => match PySem.intText? a with
    | some n => if a.length ≤ 640 then .ok (.d (.int n)) S else .bad
    | none => .bad
  | _ => .bad
theorem cal_int : CalD X hx (.type "int") bInt := by
  intro W pins s σ H xs us Q I r h
  obtain ⟨A, S, σ', d, v, R, rfl, rv, p⟩ := rcd1 h
  split at p
  · rename_i x
    exact call_int1 pins s σ H _ us Q I r (.inl ⟨x, by rw [rv.int], p.hereV R (.int _)⟩)
  · rename_i x
    exact call_int1 pins s σ H _ us Q I r (.inr ⟨x, by rw [rv.bl], p.hereV R (.int _)⟩)
  · rename_i x
    split at p
    · rename_i n q
      obtain ⟨hz, p⟩ := Post.iteP p
      exact call_int_str pins s σ H _ us Q I r ⟨x, n, by rw [rv.str], q, hz, p.hereV R (.int _)⟩
    · exact p.elim
  · exact p.elim
def bInts (f : Int → Int → Int) : List Wt → Store → Res Wt := f2 fun d e S => match d, e with
  | .int i, .int j => .ok (.d (.int (f i j))) S
  | _, _ => .bad
theorem cal_ints {v : Value} {f : Int → Int → Int} (h0 : CallR X v (fun xs H Q => ∃ i j, xs = [.int i, .int j] ∧ Q (.int (f i j)) H)) : CalD X hx v (bInts f) := by
  intro W pins s σ H xs us Q I r h
  obtain ⟨A, S, σ', d, e, v, u, R, rfl, rv, ru, p⟩ := rcd2 h
  split at p
  · rename_i i j
    exact h0 pins s σ H _ us Q I r ⟨i, j, by rw [rv.int, ru.int], p.hereV R (.int _)⟩
  · exact p.elim
abbrev bMax := bInts fun i j => if j > i then j else i
abbrev bMin := bInts fun i j => if j < i then j else i
abbrev bGcd := bInts fun i j => ((Nat.gcd i.natAbs j.natAbs : Nat) : Int)
theorem cal_max (hc : X.calm = true) : CalD X hx (.builtin "max") bMax := cal_ints (call_max2 hc)
theorem cal_min (hc : X.calm = true) : CalD X hx (.builtin "min") bMin := cal_ints (call_min2 hc)
theorem cal_gcd : CalD X hx (.builtin "math.gcd") bGcd := cal_ints cr_gcd
def bDivmod : List Wt → Store → Res Wt := f2 fun d e S => match d, e with
  | .int i, .int j => if 0 < j ∧ j.natAbs.log2 < 9000 then .ok (.d (.tup [.int (i / j), .int (i % j)])) S else .bad
  | _, _ => .bad
theorem cal_divmod : CalD X hx (.builtin "divmod") bDivmod := by
  intro W pins s σ H xs us Q I r h
  obtain ⟨A, S, σ', d, e, v, u, R, rfl, rv, ru, p⟩ := rcd2 h
  split at p
  · rename_i i j
    obtain ⟨hz, p⟩ := Post.iteP p
    exact call_divmodW pins s σ H _ us Q I r ⟨i, j, by rw [rv.int, ru.int], ⟨hz.1, PyProof.noPylong_of_log2 hz.2⟩, fun q hq => p.tup R (.cons (.int _) (.cons (.int _) .nil)) hq⟩
  · exact p.elim

/-! ### all, any, sum, sorted, over lists -/
def asBools : List D → Option (List Bool)
  | [] => some []
  | .bl b :: l => (asBools l).map (b :: ·)
  | _ => none
def asInts : List D → Option (List Int)
  | [] => some []
  | .int b :: l => (asInts l).map (b :: ·)
  | _ => none
theorem bools_of {K : PySem.W.Frag} {lv : Addr → Prop} {H : Hp} : ∀ {l : List D} {vs : List V} {bs : List Bool}, RPs K lv H l vs → asBools l = some bs → vs = bs.map V.bl
  | [], _, _, h, e => by cases h; cases e; rfl
  | d :: l, _, bs, h, e => by
    cases h with
    | cons h1 h2 =>
      cases d with
      | bl b =>
        cases h1
        rw [asBools] at e
        cases q : asBools l with
        | none => rw [q] at e; cases e
        | some cs => rw [q] at e; cases e; rw [bools_of h2 q]; rfl
      | _ => simp [asBools] at e
theorem ints_of {K : PySem.W.Frag} {lv : Addr → Prop} {H : Hp} : ∀ {l : List D} {vs : List V} {bs : List Int}, RPs K lv H l vs → asInts l = some bs → vs = bs.map V.int
  | [], _, _, h, e => by cases h; cases e; rfl
  | d :: l, _, bs, h, e => by
    cases h with
    | cons h1 h2 =>
      cases d with
      | int b =>
        cases h1
        rw [asInts] at e
        cases q : asInts l with
        | none => rw [q] at e; cases e
        | some cs => rw [q] at e; cases e; rw [ints_of h2 q]; rfl
      | _ => simp [asInts] at e
theorem of_ints {K : PySem.W.Frag} {lv : Addr → Prop} {H : Hp} : ∀ (ns : List Int), RPs K lv H (ns.map D.int) (ns.map V.int)
  | [] => .nil
  | i :: r => .cons (.int i) (of_ints r)
def bLst {α : Type} (as : List D → Option (List α)) (k : List α → Store → Res Wt) : List Wt → Store → Res Wt := f1 fun d S => match d with
  | .lst l => match as l with
    | some bs => k bs S
    | none => .bad
  | _ => .bad
abbrev bAll := bLst asBools fun bs S => .ok (.d (.bl (bs.all id))) S
abbrev bAny := bLst asBools fun bs S => .ok (.d (.bl (bs.any id))) S
abbrev bSum := bLst asInts fun bs S => .ok (.d (.int bs.sum)) S
theorem cal_all (hc : X.calm = true) : CalD X hx (.builtin "all") bAll := by
  intro W pins s σ H xs us Q I r h
  obtain ⟨A, S, σ', d, v, R, rfl, rv, p⟩ := rcd1 h
  split at p
  · rename_i l
    split at p
    · rename_i bs q
      obtain ⟨b, vs, rfl, hq, g⟩ := rv.lst
      have := bools_of g q
      subst this
      exact cr_all hc pins s σ H _ us Q I r ⟨b, bs, rfl, SqL.of hq, p.hereV R (.bl _)⟩
    · exact p.elim
  · exact p.elim
theorem cal_any (hc : X.calm = true) : CalD X hx (.builtin "any") bAny := by
  intro W pins s σ H xs us Q I r h
  obtain ⟨A, S, σ', d, v, R, rfl, rv, p⟩ := rcd1 h
  split at p
  · rename_i l
    split at p
    · rename_i bs q
      obtain ⟨b, vs, rfl, hq, g⟩ := rv.lst
      have := bools_of g q
      subst this
      exact cr_any hc pins s σ H _ us Q I r ⟨b, bs, rfl, SqL.of hq, p.hereV R (.bl _)⟩
    · exact p.elim
  · exact p.elim
theorem cal_sum (hc : X.calm = true) : CalD X hx (.builtin "sum") bSum := by
  intro W pins s σ H xs us Q I r h
  obtain ⟨A, S, σ', d, v, R, rfl, rv, p⟩ := rcd1 h
  split at p
  · rename_i l
    split at p
    · rename_i bs q
      obtain ⟨b, vs, rfl, hq, g⟩ := rv.lst
      have := ints_of g q
      subst this
      exact cr_sum hc pins s σ H _ us Q I r ⟨b, bs, rfl, SqL.of hq, p.hereV R (.int _)⟩
    · exact p.elim
  · exact p.elim
/-! ### list(..), tuple(..) -/
def bTuple : List Wt → Store → Res Wt := f1 fun d S => match d with
  | .lst l => .ok (.d (.tup l)) S
  | .tup l => .ok (.d (.tup l)) S
  | _ => .bad
def bList : List Wt → Store → Res Wt := f1 fun d S => match d with
  | .lst l => .ok (.d (.lst l)) S
  | .tup l => .ok (.d (.lst l)) S
  | _ => .bad
def bListL : List Wt → Store → Res Wt := f1 fun d S => match d with
  | .lst l => .ok (.loc S.length) (S ++ [.lst l])
  | .tup l => .ok (.loc S.length) (S ++ [.lst l])
  | _ => .bad
theorem cal_tuple : CalD X hx (.type "tuple") bTuple := by
  intro W pins s σ H xs us Q I r h
  obtain ⟨A, S, σ', d, v, R, rfl, rv, p⟩ := rcd1 h
  split at p
  · rename_i l
    obtain ⟨b, vs, rfl, hq, g⟩ := rv.lst
    exact call_tuple_of pins s σ H _ us Q I r ⟨b, vs, rfl, .inl ⟨SqL.of hq, fun q hq => p.tup R g hq⟩⟩
  · rename_i l
    obtain ⟨b, vs, rfl, hq, g⟩ := rv.tup
    exact call_tuple_of pins s σ H _ us Q I r ⟨b, vs, rfl, .inr ⟨hq, p.hereV R (.tup hq g)⟩⟩
  · exact p.elim
theorem cal_list : CalD X hx (.type "list") bList := by
  intro W pins s σ H xs us Q I r h
  obtain ⟨A, S, σ', d, v, R, rfl, rv, p⟩ := rcd1 h
  split at p
  · rename_i l
    obtain ⟨b, vs, rfl, hq, g⟩ := rv.lst
    exact call_list_of pins s σ H _ us Q I r ⟨b, vs, rfl, .inl (SqL.of hq), fun q hq => p.lst R g hq⟩
  · rename_i l
    obtain ⟨b, vs, rfl, hq, g⟩ := rv.tup
    exact call_list_of pins s σ H _ us Q I r ⟨b, vs, rfl, .inr hq, fun q hq => p.lst R g hq⟩
  · exact p.elim
theorem cal_listL : CalD X hx (.type "list") bListL := by
  intro W pins s σ H xs us Q I r h
  obtain ⟨A, S, σ', d, v, R, rfl, rv, p⟩ := rcd1 h
  split at p
  · rename_i l
    obtain ⟨b, vs, rfl, hq, g⟩ := rv.lst
    exact call_list_of pins s σ H _ us Q I r ⟨b, vs, rfl, .inl (SqL.of hq), fun q hq => p.alloc R g hq⟩
  · rename_i l
    obtain ⟨b, vs, rfl, hq, g⟩ := rv.tup
    exact call_list_of pins s σ H _ us Q I r ⟨b, vs, rfl, .inr hq, fun q hq => p.alloc R g hq⟩
  · exact p.elim

/-! ### sorted, of ints -/
theorem sorted_same {a b : List Int} (hp : a.Perm b) (ha : a.Pairwise (· ≤ ·)) (hb : b.Pairwise (· ≤ ·)) : a = b := List.Perm.eq_of_pairwise (fun _ _ _ _ h1 h2 => Int.le_antisymm h1 h2) ha hb hp
def isort (l : List Int) : List Int := l.mergeSort (fun a b => decide (a ≤ b))
theorem isort_perm (l : List Int) : (isort l).Perm l := List.mergeSort_perm _ _
theorem isort_sorted (l : List Int) : (isort l).Pairwise (· ≤ ·) := by
  have := List.pairwise_mergeSort (le := fun a b : Int => decide (a ≤ b)) (fun a b c h1 h2 => by simp at *; omega) (fun a b => by simp; omega) l
  simpa [isort] using this
abbrev bSorted := bLst asInts fun bs S => .ok (.d (.lst ((isort bs).map D.int))) S
theorem cal_sorted : CalD X hx (.builtin "sorted") bSorted := by
  intro W pins s σ H xs us Q I r h
  obtain ⟨A, S, σ', d, v, R, rfl, rv, p⟩ := rcd1 h
  split at p
  · rename_i l
    split at p
    · rename_i bs q
      obtain ⟨b, vs, rfl, hq, g⟩ := rv.lst
      have := ints_of g q
      subst this
      refine cr_sortedI pins s σ H _ us Q I r ⟨b, bs, rfl, SqL.of hq, fun ns' q' hp hs hn => ?_⟩
      have e2 : ns' = isort bs := sorted_same (hp.trans (isort_perm bs).symm) hs (isort_sorted bs)
      subst e2
      exact p.lst R (of_ints _) hn
    · exact p.elim
  · exact p.elim

/-! ### isinstance -/
def tyN : D → Option String
  | .non => some "NoneType" | .bl _ => some "bool" | .int _ => some "int" | .str _ => some "str" | .tup _ => some "tuple" | .lst _ => some "list" | .fls _ => some "list" | .dct _ _ => some "dict"
  | _ => none
def isT (t n : String) : Bool := t == n || (t == "bool" && n == "int")
def tyK : List String := ["int", "bool", "str", "tuple", "list", "dict"]
theorem isT_kit : ∀ t ∈ "NoneType" :: tyK, ∀ n ∈ tyK, kitB t n = some (isT t n) := by decide +kernel
theorem tyN_mem {d : D} {t : String} (h : tyN d = some t) : t ∈ "NoneType" :: tyK := by
  cases d <;> first
    | (cases h; decide)
    | cases h
def asTys : List D → Option (List String)
  | [] => some []
  | .ty n :: l => if tyK.contains n then (asTys l).map (n :: ·) else none
  | _ => none
def bIsi : List Wt → Store → Res Wt := f2 fun d e S => match tyN d, e with
  | some t, .ty n => if tyK.contains n then .ok (.d (.bl (isT t n))) S else .bad
  | some t, .tup cs => match asTys cs with
    | some ns => .ok (.d (.bl (ns.any (isT t)))) S
    | none => .bad
  | _, _ => .bad
theorem tyX_of {K : PySem.W.Frag} {lv : Addr → Prop} {H : Hp} {d : D} {v : V} {t : String} (h : RX K lv H d v) (e : tyN d = some t) : TyX K H v (.type t) := by
  cases d <;> first
    | (cases e; done)
    | (cases e
       first
        | (obtain rfl := h.non; exact .base .non)
        | (obtain rfl := h.bl; exact .base (.bl _))
        | (obtain rfl := h.int; exact .base (.int _))
        | (obtain rfl := h.str; exact .base (.str _))
        | (obtain ⟨a, vs, rfl, (h1 | ⟨o, h1⟩) | ⟨o, its, n, h1, h2, _⟩, _⟩ := h.tup
           · exact .base (.tup h1)
           · exact .fTuple h1
           · exact .kTuple h1 h2)
        | (obtain ⟨a, vs, rfl, h1, _⟩ := h.lst; exact .base (.lst h1))
        | (obtain ⟨a, vs, rfl, (h1 | ⟨o, h1⟩) | ⟨o, its, n, h1, h2, _⟩, _⟩ := h.fls
           · exact .base (.lst h1)
           · exact .base (.frz h1)
           · exact .kList h1 h2)
        | (obtain ⟨a, vs, rfl, h1 | ⟨o, h1⟩, _⟩ := h.dct
           · exact .base (.dK h1)
           · exact .fDict h1))
theorem tys_of {K : PySem.W.Frag} {lv : Addr → Prop} {H : Hp} : ∀ {l : List D} {vs : List V} {ns : List String}, RPs K lv H l vs → asTys l = some ns → vs = ns.map V.ty ∧ ∀ n ∈ ns, n ∈ tyK
  | [], _, _, h, e => by cases h; cases e; exact ⟨rfl, fun _ h => nomatch h⟩
  | d :: l, _, bs, h, e => by
    cases h with
    | cons h1 h2 =>
      cases d with
      | ty b =>
        cases h1
        rw [asTys] at e
        by_cases hk : tyK.contains b = true
        · rw [if_pos hk] at e
          cases q : asTys l with
          | none => rw [q] at e; cases e
          | some cs =>
            rw [q] at e
            cases e
            obtain ⟨h3, h4⟩ := tys_of h2 q
            rw [h3]
            exact ⟨rfl, fun n hn => (List.mem_cons.mp hn).elim (fun z => by rw [z]; simpa using hk) (h4 n)⟩
        · rw [if_neg hk] at e; cases e
      | _ => simp [asTys] at e
theorem kitAny_tys {K : PySem.W.Frag} {t : String} (ht : t ∈ "NoneType" :: tyK) : ∀ (ns : List String), (∀ n ∈ ns, n ∈ tyK) → PySem.W.kitAny K (.type t) (ns.map Value.type) = some (ns.any (isT t))
  | [], _ => rfl
  | n :: r, h => by
    have h1 := kit_ty (K := K) (isT_kit t ht n (h n List.mem_cons_self))
    rw [List.map_cons, List.any_cons]
    refine kitAny_cons h1 (fun e => ?_) fun e => by rw [e]; rfl
    rw [e, Bool.false_or]
    exact kitAny_tys ht r fun m hm => h m (List.mem_cons_of_mem _ hm)
theorem call_isiS : CallR X (.builtin "isinstance") (fun xs H Q => ∃ (x : V) (tp : Addr) (ns : List String) (t : Value) (b : Bool), xs = [x, .ref tp] ∧ SqT X.K H tp (ns.map V.ty) ∧ TyX X.K H x t ∧ PySem.W.kitAny X.K t (ns.map Value.type) = some b ∧ Q (.bl b) H) := by
  intro pins s σ H xs us Q I r h
  obtain ⟨x, tp, ns, t, b, rfl, hT, ty, e, q⟩ := h
  obtain ⟨u1, u2, rfl, r1, r2⟩ := vals2 r
  cases (show u2 = Value.ref tp from r2)
  obtain ⟨P, Z, p, hx⟩ := kit_of I r1 ty
  obtain ⟨its, rv, ⟨o, h1, h2, n, h3⟩, hzz⟩ := I.tuple hT
  have e3 : its = ns.map Value.type := by
    clear hT e h3 hzz r
    induction ns generalizing its with
    | nil => cases rv; rfl
    | cons a l ih =>
      cases rv with
      | cons ra rt =>
        rw [ih _ rt]
        have : _ = Value.type a := ra
        rw [this]; rfl
  subst e3
  obtain ⟨oc, od, dt, sl⟩ := o
  simp only at h2 h3
  subst h2 h3
  exact PySem.W.kia_tup Z I.kIn p h1 e hx fun tk => ⟨.bl b, H, I.tok tk, rfl, q⟩
theorem cal_isi : CalD X hx (.builtin "isinstance") bIsi := by
  intro W pins s σ H xs us Q I r h
  obtain ⟨A, S, σ', d, e, v, u, R, rfl, rv, ru, p⟩ := rcd2 h
  split at p
  · rename_i t n e1
    obtain ⟨hz, p⟩ := Post.iteP p
    have hz : n ∈ tyK := by simpa using hz
    obtain rfl := ru.ty
    exact call_isi pins s σ H _ us Q I r ⟨v, .ty n, .type t, .type n, _, rfl, .ty n, tyX_of rv e1, kit_ty (isT_kit t (tyN_mem e1) n hz), p.hereV R (.bl _)⟩
  · rename_i t cs e1
    split at p
    · rename_i ns q
      obtain ⟨b, vs, rfl, hq, g⟩ := ru.tup
      obtain ⟨h3, h4⟩ := tys_of g q
      subst h3
      exact call_isiS pins s σ H _ us Q I r ⟨v, b, ns, .type t, _, rfl, hq, tyX_of rv e1, kitAny_tys (tyN_mem e1) ns h4, p.hereV R (.bl _)⟩
    · exact p.elim
  · exact p.elim
end
end Y
end
section
/-! Y9: statements, defs, calls. -/
namespace Y
open PySem PySem.Spec PyProof.Rows L2

inductive SR where
  | nx (σd : Ev) (S : Store) | rt (d : Wt) (S : Store) | bk (σd : Ev) (S : Store) | ct (σd : Ev) (S : Store)
  | exc (C : Str) (ns : List Str) (l : List D) (σd : Ev) (S : Store) | bad
  deriving Inhabited
abbrev SM := Nat → Ev → Store → SR
def Res.toS {α : Type} (r : Res α) (σd : Ev) (k : α → Store → SR) : SR := match r with
  | .ok a S => k a S
  | .exc C ns l S => .exc C ns l σd S
  | .bad => .bad
def SPost (c : Cn) (A0 : Ads) (S0 : Store) (H0 : Hp) (D : Ends) : SR → Prop
  | .nx σd S => ∀ A H σ, Rel c.K A S H → Stp A0 S0 H0 A S H → RE c.K c.hx A (Live A S) H σd σ → D.nx σ H
  | .bk σd S => ∀ A H σ, Rel c.K A S H → Stp A0 S0 H0 A S H → RE c.K c.hx A (Live A S) H σd σ → D.bk σ H
  | .ct σd S => ∀ A H σ, Rel c.K A S H → Stp A0 S0 H0 A S H → RE c.K c.hx A (Live A S) H σd σ → D.ct σ H
  | .rt d S => ∀ A H v, Rel c.K A S H → Stp A0 S0 H0 A S H → RV c.K c.hx A (Live A S) H d v → D.rt v H
  | .exc C ns l σd S => ∀ A H σ dx vs, Rel c.K A S H → Stp A0 S0 H0 A S H → RE c.K c.hx A (Live A S) H σd σ → H dx = some (.xd (ns.zip vs)) → RPs c.K (Live A S) H l vs → ns.length = l.length → c.W (.ref (He.ga c.K C)) (some dx) σ H
  | .bad => False
def tS (c : Cn) (f : SM) : TS := fun D σ H => ∃ b0 A0 S0 H0 A S σd, Rel c.K A0 S0 H0 ∧ Stp A0 S0 H0 A S H ∧ Rel c.K A S H ∧ RE c.K c.hx A (Live A S) H σd σ ∧ SPost c A0 S0 H0 D (f b0 σd S)
structure DS (X : Cx) (hx : Hx) (s : Stmt) (f : SM) : Prop where
  run : ∀ W, Takes X W → PS X s (tS ⟨X.K, hx, W⟩ f)
structure DB (X : Cx) (hx : Hx) (s : List Stmt) (f : SM) : Prop where
  run : ∀ W, Takes X W → PSs X s (tS ⟨X.K, hx, W⟩ f)
theorem PSsimp {X : Cx} {e : List Stmt} {t t' : TS} (h : PSs X e t) (i : ∀ σ H Q, t' Q σ H → t Q σ H) : PSs X e t' := ⟨fun pins s σ H Q I q => h.run pins s σ H Q I (i σ H Q q)⟩
section
variable {c : Cn} {A0 A : Ads} {S0 S : Store} {H0 H : Hp} {D : Ends} {σ : L2.St} {σd : Ev}
/-- a statement's part, then what it does with it -/
theorem Post.ofS {α β : Type} {R1 : RR α β} {r : Res α} {k : α → Store → SR} (R : Rel c.K A S H) (T : Stp A0 S0 H0 A S H) (E : RE c.K c.hx A (Live A S) H σd σ) (p : SPost c A0 S0 H0 D (r.toS σd k)) :
    Post c R1 σ A S H (fun b H1 => ∃ A1 S1 a, Rel c.K A1 S1 H1 ∧ Stp A0 S0 H0 A1 S1 H1 ∧ RE c.K c.hx A1 (Live A1 S1) H1 σd σ ∧ R1 A1 S1 H1 a b ∧ SPost c A0 S0 H0 D (k a S1)) r := by
  cases r with
  | ok a S' => exact fun A' H' b x y z => ⟨A', S', a, x, T.trans y, E.step R y, z, p⟩
  | exc C ns l S' => exact fun A' H' dx vs x y => p A' H' σ dx vs x (T.trans y) (E.step R y)
  | bad => exact p
theorem Post.ofS' {α β : Type} {R1 : RR α β} {r : Res α} {k : α → Store → SR} (R : Rel c.K A S H) (T : Stp A0 S0 H0 A S H) (E : RE c.K c.hx A (Live A S) H σd σ) (p : SPost c A0 S0 H0 D (r.toS σd k)) :
    Post c R1 σ A S H (fun b H1 => ∃ A1 S1 a, Rel c.K A1 S1 H1 ∧ Stp A S H A1 S1 H1 ∧ RE c.K c.hx A1 (Live A1 S1) H1 σd σ ∧ R1 A1 S1 H1 a b ∧ SPost c A0 S0 H0 D (k a S1)) r := by
  cases r with
  | ok a S' => exact fun A' H' b x y z => ⟨A', S', a, x, y, E.step R y, z, p⟩
  | exc C ns l S' => exact fun A' H' dx vs x y => p A' H' σ dx vs x (T.trans y) (E.step R y)
  | bad => exact p
theorem SPost.shift {r : SR} (T : Stp A0 S0 H0 A S H) (p : SPost c A0 S0 H0 D r) : SPost c A S H D r := by
  cases r with
  | nx σd S' => exact fun A' H' σ' R' T' => p A' H' σ' R' (T.trans T')
  | bk σd S' => exact fun A' H' σ' R' T' => p A' H' σ' R' (T.trans T')
  | ct σd S' => exact fun A' H' σ' R' T' => p A' H' σ' R' (T.trans T')
  | rt d S' => exact fun A' H' v R' T' => p A' H' v R' (T.trans T')
  | exc C ns l σd S' => exact fun A' H' σ' dx vs R' T' => p A' H' σ' dx vs R' (T.trans T')
  | bad => exact p
end
def sNext : SM := fun _ σd S => .nx σd S
def sSeq (f g : SM) : SM := fun b σd S => match f b σd S with
  | .nx σd' S' => g b σd' S'
  | r => r
def sExpr (f : EM) : SM := fun _ σd S => (f σd S).toS σd fun _ S' => .nx σd S'
def sRet (f : EM) : SM := fun _ σd S => (f σd S).toS σd fun d S' => .rt d S'
/-- .. let alone from then on -/
def eFz (f : EM) : EM := fun σd S => (f σd S).bind fun d S1 => (fz1 S1 d).bind fun x S2 => .ok (.d x) S2
def sSet (i : Nat) (f : EM) : SM := fun _ σd S => (f σd S).toS σd fun d S' => .nx (σd.set i (some d)) S'
def sIf (t : TM) (f g : SM) : SM := fun b σd S => (t σd S).toS σd fun k S' => if k = true then f b σd S' else g b σd S'
def sBreak : SM := fun _ σd S => .bk σd S
def sCont : SM := fun _ σd S => .ct σd S
section
variable {X : Cx} {hx : Hx} {st : Stmt} {rest : List Stmt} {f g : SM} {e : Expr} {fe : EM} {pos : Pos}
theorem d_fz (h : DE X hx e fe) : DE X hx e (eFz fe) := ⟨fun W tk => PEimp (h.run W tk) fun σ H Q ⟨A, S, σd, R, E, p⟩ => ⟨A, S, σd, R, E, (Post.bind (R1 := rV _) p).mono fun v H1 ⟨A1, S1, d, R1, T1, r1, p1⟩ => by
    obtain ⟨d', S', R2, T2, r2, p2⟩ := p1.fz1 R1 r1
    exact p2.hereV R2 r2⟩⟩
theorem db_nil : DB X hx [] sNext := ⟨fun W tk => PSsimp pss_nil fun σ H D ⟨b0, A0, S0, H0, A, S, σd, R0, T, R, E, p⟩ => p A H σ R T E⟩
theorem seq_of {c : Cn} {f g : SM} {σ : L2.St} {H : Hp} {D : Ends} (h : tS c (sSeq f g) D σ H) : tS c f { D with nx := tS c g D } σ H := by
  obtain ⟨b0, A0, S0, H0, A, S, σd, R0, T, R, E, p⟩ := h
  refine ⟨b0, A0, S0, H0, A, S, σd, R0, T, R, E, ?_⟩
  unfold sSeq at p
  cases q : f b0 σd S with
  | nx σd' S' => rw [q] at p; exact fun A' H' σ' R' T' E' => ⟨b0, A0, S0, H0, A', S', σd', R0, T', R', E', p⟩
  | rt d S' => rw [q] at p; exact p
  | bk σd' S' => rw [q] at p; exact p
  | ct σd' S' => rw [q] at p; exact p
  | exc C ns l σd' S' => rw [q] at p; exact p
  | bad => rw [q] at p; exact p
theorem db_cons (h1 : DS X hx st f) (h2 : DB X hx rest g) : DB X hx (st :: rest) (sSeq f g) := ⟨fun W tk => PSsimp (pss_cons (h1.run W tk) (h2.run W tk)) fun σ H D h => seq_of h⟩
theorem db_one (h1 : DS X hx st f) : DB X hx [st] f := ⟨fun W tk => pss_one (h1.run W tk)⟩
theorem ds_pass : DS X hx (.Pass pos) sNext := ⟨fun W tk => PSimp ps_pass fun σ H D ⟨b0, A0, S0, H0, A, S, σd, R0, T, R, E, p⟩ => p A H σ R T E⟩
theorem ds_break : DS X hx (.Break pos) sBreak := ⟨fun W tk => PSimp ps_break fun σ H D ⟨b0, A0, S0, H0, A, S, σd, R0, T, R, E, p⟩ => p A H σ R T E⟩
theorem ds_cont : DS X hx (.Continue pos) sCont := ⟨fun W tk => PSimp ps_continue fun σ H D ⟨b0, A0, S0, H0, A, S, σd, R0, T, R, E, p⟩ => p A H σ R T E⟩
theorem ds_expr (h : DE X hx e fe) (hs : swapsWith e none pos.line X.env = pure false := by rfl) : DS X hx (.Expr e pos) (sExpr fe) := ⟨fun W tk => PSimp (ps_expr (h.run W tk) hs) fun σ H D ⟨b0, A0, S0, H0, A, S, σd, R0, T, R, E, p⟩ =>
  ⟨A, S, σd, R, E, (Post.ofS (R1 := rV _) R T E p).mono fun v H1 ⟨A1, S1, d, R1, T1, E1, r1, p1⟩ => p1 A1 H1 σ R1 T1 E1⟩⟩
theorem ds_ret (h : DE X hx e fe) : DS X hx (.Return (some e) pos) (sRet fe) := ⟨fun W tk => PSimp (ps_ret (h.run W tk)) fun σ H D ⟨b0, A0, S0, H0, A, S, σd, R0, T, R, E, p⟩ =>
  ⟨A, S, σd, R, E, (Post.ofS (R1 := rV _) R T E p).mono fun v H1 ⟨A1, S1, d, R1, T1, E1, r1, p1⟩ => p1 A1 H1 v R1 T1 r1⟩⟩
def sRetN : SM := fun _ _ S => .rt (.d .non) S
theorem ds_retN : DS X hx (.Return none pos) sRetN := ⟨fun W tk => PSimp ps_retN fun σ H D ⟨b0, A0, S0, H0, A, S, σd, R0, T, R, E, p⟩ => p A H .non R T (RV.of (x := .non) .non)⟩
/-- where the name is assigned -/
theorem ds_set {i : Nat} {x : Str} {pos' : Pos} (hN : X.N.Nodup) (h : DE X hx e fe) (hi : X.N[i]? = some x := by rfl) (hl : Loc X.env.scope x := by first | exact .inl rfl | exact .inr rfl) (hs : swapsWith e (some (.Name x pos')) pos.line X.env = pure false := by rfl)
    (hf : X.fn x = true ∨ X.env.scope.names.lookup x = some .local := by first | exact .inl rfl | exact .inr rfl) : DS X hx (.Assign [.Name x pos'] e pos) (sSet i fe) := ⟨fun W tk => PSimp (ps_set hN hi hl (h.run W tk) hs hf) fun σ H D ⟨b0, A0, S0, H0, A, S, σd, R0, T, R, E, p⟩ =>
  ⟨A, S, σd, R, E, (Post.ofS (R1 := rV _) R T E p).mono fun v H1 ⟨A1, S1, d, R1, T1, E1, r1, p1⟩ => p1 A1 H1 _ R1 T1 (E1.set r1)⟩⟩
theorem ds_if {t : TM} {cnd : Expr} {as bs : List Stmt} (hc : DT X hx cnd t) (ha : DB X hx as f) (hb : DB X hx bs g) : DS X hx (.If cnd as bs pos) (sIf t f g) := ⟨fun W tk => PSimp (ps_if (hc.run W tk) (ha.run W tk) (hb.run W tk)) fun σ H D ⟨b0, A0, S0, H0, A, S, σd, R0, T, R, E, p⟩ =>
  ⟨A, S, σd, R, E, (Post.ofS (R1 := rB) R T E p).mono fun v H1 ⟨A1, S1, d, R1, T1, E1, r1, p1⟩ => by
    cases r1
    cases v with
    | true => exact ⟨b0, A0, S0, H0, A1, S1, σd, R0, T1, R1, E1, p1⟩
    | false => exact ⟨b0, A0, S0, H0, A1, S1, σd, R0, T1, R1, E1, p1⟩⟩⟩
end

/-! ### while -/
def whileN (t : TM) (f : SM) : Nat → SM
  | 0 => fun _ _ _ => .bad
  | n + 1 => fun b σd S => (t σd S).toS σd fun k S1 => if k = true then (match f b σd S1 with
    | .nx σd' S' => whileN t f n b σd' S'
    | .ct σd' S' => whileN t f n b σd' S'
    | .bk σd' S' => .nx σd' S'
    | r => r) else .nx σd S1
/-- at most m turns -/
def sWhile (m : Nat) (t : TM) (f : SM) : SM := whileN t f m
section
variable {X : Cx} {hx : Hx} {pos : Pos} {t : TM} {f : SM} {cnd : Expr} {body : List Stmt}
theorem ds_while (m : Nat) (hp : PassesOwn (model X.prog X.w) X.A X.env X.xe) (hc : DT X hx cnd t) (hb : DB X hx body f) : DS X hx (.While cnd body [] pos) (sWhile m t f) := ⟨fun W tk => PSimp (ps_while hp (hc.run W tk) (hb.run W tk)) fun σ H D ⟨b0, A0, S0, H0, A, S, σd, R0, T, R, E, p⟩ => by
  refine ⟨fun n σ H => ∃ A S σd, Stp A0 S0 H0 A S H ∧ Rel X.K A S H ∧ RE X.K hx A (Live A S) H σd σ ∧ SPost ⟨X.K, hx, W⟩ A0 S0 H0 D (whileN t f n b0 σd S), ⟨m, A, S, σd, T, R, E, p⟩, ?_⟩
  rintro n σ H ⟨A, S, σd, T, R, E, p⟩
  cases n with
  | zero => exact p.elim
  | succ n =>
    refine ⟨A, S, σd, R, E, (Post.ofS (R1 := rB) R T E p).mono fun v H1 ⟨A1, S1, d, R1, T1, E1, r1, p1⟩ => ?_⟩
    cases r1
    cases v with
    | false =>
      rw [if_neg Bool.false_ne_true] at p1 ⊢
      exact p1 A1 H1 σ R1 T1 E1
    | true =>
      rw [if_pos rfl] at p1 ⊢
      refine ⟨fun σ' H' => ∃ A S σd, Stp A0 S0 H0 A S H' ∧ Rel X.K A S H' ∧ RE X.K hx A (Live A S) H' σd σ' ∧ SPost ⟨X.K, hx, W⟩ A0 S0 H0 D (whileN t f n b0 σd S), fun σ' H' h => ⟨n, Nat.lt_succ_self n, h⟩, b0, A0, S0, H0, A1, S1, σd, R0, T1, R1, E1, ?_⟩
      cases q : f b0 σd S1 with
      | nx σd' S' => rw [q] at p1; exact fun A' H' σ' R' T' E' => ⟨A', S', σd', T', R', E', p1⟩
      | ct σd' S' => rw [q] at p1; exact fun A' H' σ' R' T' E' => ⟨A', S', σd', T', R', E', p1⟩
      | rt d S' => rw [q] at p1; exact p1
      | bk σd' S' => rw [q] at p1; exact p1
      | exc C ns l σd' S' => rw [q] at p1; exact p1
      | bad => rw [q] at p1; exact p1⟩
end

/-! ### defs -/
/-- what comes out of a def: the cells that it made are forgotten, but one that it hands back -/
def finish (b : Nat) : SR → Res Wt
  | .rt (.d x) S => .ok (.d x) (S.take b)
  | .rt (.loc n) S => if n < b then .ok (.loc n) (S.take b) else match S[n]? with
    | some c => .ok (.loc b) (S.take b ++ [c])
    | none => .bad
  | .nx _ S => .ok (.d .non) (S.take b)
  | .exc C ns l _ S => .exc C ns l (S.take b)
  | _ => .bad
/-- a def of n parameters and m names -/
def mkFn (n m : Nat) (f : SM) : List Wt → Store → Res Wt := fun ds S => if ds.length = n then finish S.length (f S.length (ds.map some ++ List.replicate (m - n) none) S) else .bad
def cE (K : PySem.W.Frag) (hx : Hx) (E : XK) : Cn := ⟨K, hx, fun cls d _ H => E cls d H⟩
/-- a def's promise: what F says -/
def spOf (K : PySem.W.Frag) (F : List Wt → Store → Res Wt) : Sp := fun vs H Q E => ∃ hx A S ds, Rel K A S H ∧ rVs (cE K hx E) A S H ds vs ∧ Post (cE K hx E) (rV (cE K hx E)) [] A S H Q (F ds S)
section
variable {K : PySem.W.Frag} {A A0 : Ads} {S S0 : Store} {H H0 : Hp}
theorem live_take {m : Nat} {b : Addr} (l : Live (A.take m) (S.take m) b) : Live A S b := by
  obtain ⟨n, c, h1, h2, h3⟩ := l
  have hn : n < m := by
    by_cases h : n < m
    · exact h
    · rw [List.getElem?_eq_none (by rw [List.length_take]; omega)] at h1; cases h1
  rw [List.getElem?_take_of_lt hn] at h1 h2
  exact ⟨n, c, h1, h2, h3⟩
theorem Fr.take (m : Nat) : Fr A S H (A.take m) (S.take m) H := ⟨fun _ _ h _ => h, fun _ l => .inl (live_take l)⟩
theorem Rel.take (m : Nat) (R : Rel K A S H) : Rel K (A.take m) (S.take m) H := by
  have lt : ∀ {α : Type} {l : List α} {n : Nat} {x : α}, (l.take m)[n]? = some x → n < m ∧ l[n]? = some x := fun {α l n x} h => by
    by_cases hn : n < m
    · rw [List.getElem?_take_of_lt hn] at h; exact ⟨hn, h⟩
    · rw [List.getElem?_eq_none (by rw [List.length_take]; omega)] at h; cases h
  refine ⟨by simp [R.len], fun n k a h1 h2 => R.inj n k a (lt h1).2 (lt h2).2, fun n c hc => ?_⟩
  obtain ⟨hn, hc⟩ := lt hc
  rcases R.cell n c hc with ⟨e1, e2⟩ | ⟨a, ha, ok⟩
  · exact .inl ⟨e1, by rw [List.getElem?_take_of_lt hn]; exact e2⟩
  · exact .inr ⟨a, by rw [List.getElem?_take_of_lt hn]; exact ha, ok.fr R (Fr.take m) fun _ h => h⟩
theorem Stp.take (R0 : Rel K A0 S0 H0) (T : Stp A0 S0 H0 A S H) : Stp A0 S0 H0 (A.take S0.length) (S.take S0.length) H := by
  refine ⟨fun n a h => ?_, ?_, T.fr.trans (Fr.take _)⟩
  · rw [List.getElem?_take_of_lt (by rw [← R0.len]; exact (List.getElem?_eq_some_iff.mp h).1)]
    exact T.ext n a h
  · rw [List.length_take, ← R0.len]
    have := T.le
    omega
theorem RV.take {hx : Hx} {d : Wt} {v : V} {m : Nat} (R : Rel K A S H) (h : RV K hx A (Live A S) H d v) (hd : ∀ n, d = .loc n → n < m) : RV K hx (A.take m) (Live (A.take m) (S.take m)) H d v :=
  h.fr R (Fr.take m) fun n a e q => by rw [List.getElem?_take_of_lt (hd n e)]; exact q
/-- one cell is kept behind the old ones -/
theorem Rel.keep {n m : Nat} {a : Addr} {c : Cell} (R : Rel K A S H) (hm : m ≤ n) (hA : A[n]? = some (some a)) (hS : S[n]? = some c) : Rel K (A.take m ++ [some a]) (S.take m ++ [c]) H ∧ Fr A S H (A.take m ++ [some a]) (S.take m ++ [c]) H := by
  have ml : m ≤ A.length := Nat.le_of_lt (Nat.lt_of_le_of_lt hm (List.getElem?_eq_some_iff.mp hA).1)
  have la : (A.take m).length = m := by rw [List.length_take]; omega
  have ls : (S.take m).length = m := by rw [List.length_take, ← R.len]; omega
  have cs : ∀ {α : Type} {l : List α} {x y : α} {k : Nat}, (l.take m).length = m → (l.take m ++ [x])[k]? = some y → (k < m ∧ l[k]? = some y) ∨ (k = m ∧ x = y) := fun {α l x y k} hl h => by
    by_cases hk : k < m
    · rw [List.getElem?_append_left (by omega), List.getElem?_take_of_lt hk] at h
      exact .inl ⟨hk, h⟩
    · rw [List.getElem?_append_right (by omega), hl] at h
      have e : k = m := by
        have := (List.getElem?_eq_some_iff.mp h).1
        simp at this
        omega
      subst e
      simp at h
      exact .inr ⟨rfl, h⟩
  have f : Fr A S H (A.take m ++ [some a]) (S.take m ++ [c]) H := ⟨fun _ _ h _ => h, fun b ⟨k, c', h1, h2, h3⟩ => by
    rcases cs la h1 with ⟨k1, q1⟩ | ⟨k1, q1⟩
    · rcases cs ls h2 with ⟨k2, q2⟩ | ⟨k2, q2⟩
      · exact .inl ⟨k, c', q1, q2, h3⟩
      · omega
    · rcases cs ls h2 with ⟨k2, q2⟩ | ⟨k2, q2⟩
      · omega
      · have e := Option.some.inj q1
        subst e q2
        exact .inl ⟨n, c, hA, hS, h3⟩⟩
  refine ⟨⟨by simp [R.len], fun i j b h1 h2 => ?_, fun i c' hc => ?_⟩, f⟩
  · rcases cs la h1 with ⟨k1, q1⟩ | ⟨k1, q1⟩ <;> rcases cs la h2 with ⟨k2, q2⟩ | ⟨k2, q2⟩
    · exact R.inj i j b q1 q2
    · have e := Option.some.inj q2
      subst e
      have := R.inj i n a q1 hA
      omega
    · have e := Option.some.inj q1
      subst e
      have := R.inj j n a q2 hA
      omega
    · omega
  · rcases cs ls hc with ⟨k1, q1⟩ | ⟨k1, q1⟩
    · rcases R.cell i c' q1 with ⟨e1, e2⟩ | ⟨b, hb, ok⟩
      · exact .inl ⟨e1, by rw [List.getElem?_append_left (by omega), List.getElem?_take_of_lt k1]; exact e2⟩
      · exact .inr ⟨b, by rw [List.getElem?_append_left (by omega), List.getElem?_take_of_lt k1]; exact hb, ok.fr R f fun _ h => h⟩
    · subst q1
      subst k1
      rcases R.cell n c hS with ⟨e1, e2⟩ | ⟨b, hb, ok⟩
      · rw [hA] at e2; cases e2
      · rw [hA] at hb
        obtain rfl := Option.some.inj (Option.some.inj hb)
        exact .inr ⟨a, by rw [List.getElem?_append_right (by omega), la]; simp, ok.fr R f fun _ h => h⟩
/-- a body's end is the def's -/
theorem finish_ok {hx : Hx} {E : XK} {Q : VK} {r : SR} (R0 : Rel K A0 S0 H0) (p : Post (cE K hx E) (rV (cE K hx E)) [] A0 S0 H0 Q (finish S0.length r)) :
    SPost (cE K hx E) A0 S0 H0 { nx := fun _ H' => Q .non H', rt := Q } r := by
  cases r with
  | nx σd S => exact fun A H σ R T E => p _ _ .non (R.take _) (T.take R0) (RV.of (x := .non) .non)
  | bk σd S => exact p.elim
  | ct σd S => exact p.elim
  | bad => exact p.elim
  | exc C ns l σd S => exact fun A H σ dx vs R T E h1 h2 h3 => p _ _ dx vs (R.take _) (T.take R0) h1 (h2.fr R (Fr.take _)) h3
  | rt d S =>
    cases d with
    | hex C ns l => exact p.elim
    | d x => exact fun A H v R T r => p _ _ v (R.take _) (T.take R0) (RV.take (d := .d x) R r fun _ e => nomatch e)
    | loc n =>
      intro A H v R T r
      unfold finish at p
      dsimp only at p
      by_cases hn : n < S0.length
      · rw [if_pos hn] at p
        exact p _ _ v (R.take _) (T.take R0) (RV.take (d := .loc n) R r fun _ e => by cases e; exact hn)
      · rw [if_neg hn] at p
        obtain ⟨a, ha, rfl⟩ := r
        obtain ⟨c, u, hc, hu, ok⟩ := R.known ha
        rw [hc] at p
        obtain ⟨R1, f1⟩ := R.keep (m := S0.length) (by omega) ha hc
        have tk := T.take R0
        have la : (A.take S0.length).length = S0.length := by rw [List.length_take, ← R0.len]; have := T.le; omega
        refine p _ _ _ R1 ⟨fun k b q => ?_, ?_, T.fr.trans f1⟩ ⟨a, by rw [List.getElem?_append_right (by omega), la]; simp, rfl⟩
        · have := tk.ext k b q
          rw [List.getElem?_append_left (List.getElem?_eq_some_iff.mp this).1]
          exact this
        · rw [List.length_append, la, R0.len]; simp
end
theorem rVs_map {c : Cn} {A : Ads} {S : Store} {H : Hp} : ∀ {ds : List Wt} {vs : List V}, rVs c A S H ds vs → ds.length = vs.length
  | _, _, h => Paired.length h
theorem start_re {K : PySem.W.Frag} {hx : Hx} {E : XK} {A : Ads} {S : Store} {H : Hp} {N : List Str} {ds : List Wt} {vs : List V} (r : rVs (cE K hx E) A S H ds vs) : RE K hx A (Live A S) H (ds.map some ++ List.replicate (N.length - ds.length) none) (L2.start N vs) := by
  have hl := rVs_map r
  refine ⟨by simp [L2.start, hl], fun i d e => ?_⟩
  unfold L2.start
  by_cases hi : i < ds.length
  · rw [List.getElem?_append_left (by simpa using hi), List.getElem?_map] at e
    rw [List.getElem?_append_left (by simpa [← hl] using hi), List.getElem?_map]
    have get : ∀ {ds : List Wt} {vs : List V} {i : Nat} {d : Wt}, rVs (cE K hx E) A S H ds vs → ds[i]? = some d → ∃ v, vs[i]? = some v ∧ RV K hx A (Live A S) H d v := by
      intro ds vs i d r
      induction r generalizing i with
      | nil => intro e; simp at e
      | cons r1 r2 ih =>
        intro e
        cases i with
        | zero => simp at e; subst e; exact ⟨_, rfl, r1⟩
        | succ i => simpa using ih (by simpa using e)
    cases q : ds[i]? with
    | none => rw [q] at e; cases e
    | some d' =>
      rw [q] at e
      have e : some d' = some d := Option.some.inj e
      obtain rfl := Option.some.inj e
      obtain ⟨v, h1, h2⟩ := get r q
      exact ⟨v, by rw [h1]; rfl, h2⟩
  · rw [List.getElem?_append_right (by simpa using Nat.le_of_not_lt hi), List.getElem?_replicate] at e
    split at e <;> cases e
section
variable {P : Program} {w : World} {K : PySem.W.Frag} {mg : Str → Option Value} {base : Heap} {x qual : Str} {params : Arguments} {body : List Stmt} {scope : Scope} {f : Addr} {fd : FuncData}
/-- the context of a def's body -/
abbrev cxF (P : Program) (w : World) (K : PySem.W.Frag) (mg : Str → Option Value) (base : Heap) (N : List Str) (qual : Str) (scope : Scope) (f : Addr) (cdv : Value) (A : Around) (outer : List Env) (s : Shared) (H : Hp) (E : XK) : Cx := cxOf (L2.CX P w) P w K mg base N qual scope f cdv A outer s H E
theorem fn_ok {N ps : List Str} {k : Nat} {bf : SM} (F : FunD K x qual params body scope [] [] f fd) (Sc : FnScope N ps scope)
    (hb : ∀ (hx : Hx) (cdv : Value) (A : Around) (outer : List Env) (s : Shared) (H : Hp) (E : XK), Room k (A.deeper (envOfC qual scope s.heap.objs.size f cdv)) → DB (cxF P w K mg base N qual scope f cdv A outer s H E) hx body bf) :
    FnOk P w K mg base (L2.CX P w) (k + 1) f fd ps (spOf K (mkFn ps.length N.length bf)) := by
  refine F.ok Sc (fun vs H Q E h => ?_) fun cdv A outer s H vs Q E hr h => ?_
  · obtain ⟨hx, A, S, ds, R, r, p⟩ := h
    unfold mkFn at p
    obtain ⟨hl, _⟩ := Post.iteP p
    rw [← rVs_map r]
    exact hl
  · obtain ⟨hx, A1, S, ds, R, r, p⟩ := h
    unfold mkFn at p
    obtain ⟨hl, p⟩ := Post.iteP p
    refine ⟨_, (hb hx cdv A outer s H E hr).run (fun cls d _ H => E cls d H) (takes_of rfl rfl rfl rfl), S.length, A1, S, H, A1, S, ds.map some ++ List.replicate (N.length - ps.length) none, R, .refl, R, ?_, finish_ok R p⟩
    have := start_re (N := N) r
    rw [hl] at this
    exact this
end
/-- a def that stands at a name -/
structure Fn (P : Program) (w : World) (K : PySem.W.Frag) (mg : Str → Option Value) (base : Heap) (x : Str) (k : Nat) (ps : List Str) (F : List Wt → Store → Res Wt) : Prop where
  is : ∃ f fd, mg x = some (.ref f) ∧ PySem.W.keepIn K (.ref f) = true ∧ Binds K fd ps [] ∧ FnOk P w K mg base (L2.CX P w) k f fd ps (spOf K F)
theorem Fn.mono {P : Program} {w : World} {K : PySem.W.Frag} {mg : Str → Option Value} {base : Heap} {x : Str} {k k' : Nat} {ps : List Str} {F : List Wt → Store → Res Wt} (h : Fn P w K mg base x k ps F) (l : k ≤ k') : Fn P w K mg base x k' ps F := by
  obtain ⟨f, fd, h1, h2, h3, h4⟩ := h.is
  exact ⟨f, fd, h1, h2, h3, h4.mono l⟩
section
variable {X : Cx} {hx : Hx} {x : Str} {k : Nat} {ps : List Str} {F : List Wt → Store → Res Wt} {e : Expr} {es : List Expr} {g : AM} {p pos : Pos}
theorem Post.toCE {c : Cn} {σ : L2.St} {A : Ads} {S : Store} {H : Hp} {Q : VK} {r : Res Wt} (p : Post c (rV c) σ A S H Q r) : Post (cE c.K c.hx (WE c.W σ)) (rV (cE c.K c.hx (WE c.W σ))) [] A S H Q r := by
  cases r with
  | ok a S' => exact p
  | exc C ns l S' => exact p
  | bad => exact p
theorem d_call (G : Fn X.prog X.w X.K X.mg X.base x k ps F) (hr : Room k X.A) (ha : DA X hx (e :: es) g) (hg : Gl X x := by rfl) (hdb : (x == ("__debug__" : Str)) = false := by decide) (he : starEach (e :: es) X.env = (false, eval e X.env) :: starEach es X.env := by rfl)
    (hpl : (backTo pos (starEach es X.env)).any (·.1) = false := by rfl) : DE X hx (.Call (.Name x p) (e :: es) [] pos) (eB F g) := by
  obtain ⟨f, fd, hm, hk, hb, hF⟩ := G.is
  refine ⟨fun W tk => PEimp (pe_callS hF hr hg hm hk hb (fun σ => passAt tk σ) (ha.run W tk) hdb he hpl) fun σ H Q ⟨A, S, σd, R, E, q⟩ => ⟨A, S, σd, R, E, (Post.bind (R1 := rVs _) q).mono fun vs H1 ⟨A1, S1, ds, R1, T1, r1, p1⟩ => ?_⟩⟩
  exact ⟨hx, A1, S1, ds, R1, r1, p1.toCE⟩
end
end Y
end
section
/-! Y10: targets, stores into cells, methods of lists. -/
namespace Y
open PySem PySem.Spec PyProof.Rows L2

section
variable {K : PySem.W.Frag} {A : Ads} {S : Store} {H : Hp} {a : Addr} {n : Nat} {c c' : Cell} {o : HO}
/-- a live cell is written anew -/
theorem Rel.put (R : Rel K A S H) (ha : A[n]? = some (some a)) (hc : S[n]? = some c) (hl : c.live = true) (hl' : c'.live = true)
    (ok : ∀ lv H', (∀ d v, RP K (Live A S) H d v → RP K lv H' d v) → (∀ ds vs, RPs K (Live A S) H ds vs → RPs K lv H' ds vs) → H' a = some o → COk K lv H' a c') :
    Rel K A (S.set n c') (upd H a o) ∧ Stp A S H A (S.set n c') (upd H a o) := by
  have hLa : Live A S a := ⟨n, c, ha, hc, hl⟩
  have hnl : n < S.length := (List.getElem?_eq_some_iff.mp hc).1
  have sub : ∀ b, Live A (S.set n c') b → Live A S b := fun b ⟨m, d, h1, h2, h3⟩ => by
    rcases set_cases h2 with ⟨rfl, rfl⟩ | ⟨hm, h2⟩
    · exact ⟨m, c, h1, hc, hl⟩
    · exact ⟨m, d, h1, h2, h3⟩
  have f : Fr A S H A (S.set n c') (upd H a o) := ⟨fun b u h nl => by rw [upd_ne (show b ≠ a from fun e => nl (by rw [e]; exact hLa))]; exact h, fun b l => .inl (sub b l)⟩
  refine ⟨⟨by simp [R.len], R.inj, fun m d hd => ?_⟩, fun _ _ h => h, Nat.le_refl _, f⟩
  rcases set_cases hd with ⟨rfl, rfl⟩ | ⟨hm, h2⟩
  · exact .inr ⟨a, ha, ok _ _ (fun d v r => r.fr R f) (fun ds vs r => r.fr R f) upd_same⟩
  · rcases R.cell m d h2 with q | ⟨b, hb, okb⟩
    · exact .inl q
    · refine .inr ⟨b, hb, okb.fr R f fun u hu => ?_⟩
      rw [upd_ne (fun e => hm (R.inj m n a (by rw [← e]; exact hb) ha))]
      exact hu
theorem Rel.putL {l l' : List D} {vs : List V} (R : Rel K A S H) (ha : A[n]? = some (some a)) (hc : S[n]? = some (.lst l)) (r : RPs K (Live A S) H l' vs) :
    Rel K A (S.set n (.lst l')) (upd H a (.lst vs)) ∧ Stp A S H A (S.set n (.lst l')) (upd H a (.lst vs)) :=
  R.put ha hc rfl rfl fun lv H' _ h2 h3 => ⟨vs, h3, h2 _ _ r⟩
theorem Rel.putK {l l' : List (Key × D)} {kvs : List (Key × V)} (R : Rel K A S H) (ha : A[n]? = some (some a)) (hc : S[n]? = some (.dK l)) (hk : kvs.map (·.1) = l'.map (·.1)) (r : RPs K (Live A S) H (l'.map (·.2)) (kvs.map (·.2))) :
    Rel K A (S.set n (.dK l')) (upd H a (.dK kvs)) ∧ Stp A S H A (S.set n (.dK l')) (upd H a (.dK kvs)) :=
  R.put ha hc rfl rfl fun lv H' _ h2 h3 => ⟨kvs, h3, hk, h2 _ _ r⟩
end

/-! ### targets -/
/-- but at these places -/
def Same (is : List Nat) (σ0 σ : L2.St) : Prop := σ.length = σ0.length ∧ ∀ j, j ∉ is → σ[j]? = σ0[j]?
def rEv (c : Cn) (is : List Nat) (σ0 : L2.St) : RR Ev L2.St := fun A S H σd σ => RE c.K c.hx A (Live A S) H σd σ ∧ Same is σ0 σ
theorem Same.refl (is : List Nat) (σ : L2.St) : Same is σ σ := ⟨rfl, fun _ _ => rfl⟩
theorem Same.trans {is js : List Nat} {σ0 σ1 σ2 : L2.St} (h : Same is σ0 σ1) (g : Same js σ1 σ2) : Same (is ++ js) σ0 σ2 :=
  ⟨g.1.trans h.1, fun j hj => (g.2 j fun z => hj (List.mem_append_right _ z)).trans (h.2 j fun z => hj (List.mem_append_left _ z))⟩
theorem Same.set (σ : L2.St) (i : Nat) (v : Option V) : Same [i] σ (σ.set i v) := ⟨by simp, fun j hj => List.getElem?_set_ne fun e => hj (by simp [e])⟩
abbrev GM := Wt → Ev → Store → Res Ev
abbrev GMs := List Wt → Ev → Store → Res Ev
def tG (c : Cn) (is : List Nat) (g : GM) : TG := fun v σ H Q => ∃ A S σd d, Rel c.K A S H ∧ RE c.K c.hx A (Live A S) H σd σ ∧ rV c A S H d v ∧ Post c (rEv c is σ) σ A S H Q (g d σd S)
def tGs (c : Cn) (is : List Nat) (g : GMs) : TGs := fun v σ H Q => ∃ A S σd d, Rel c.K A S H ∧ RE c.K c.hx A (Live A S) H σd σ ∧ rVs c A S H d v ∧ Post c (rEv c is σ) σ A S H Q (g d σd S)
/-- no exception comes out of it -/
def NoX {α : Type} (r : Res α) : Prop := ∀ C ns l S, r ≠ .exc C ns l S
structure DG (X : Cx) (hx : Hx) (tg : Expr) (is : List Nat) (g : GM) : Prop where
  run : ∀ W, Takes X W → PG X tg (tG ⟨X.K, hx, W⟩ is g)
  nox : ∀ d σd S, NoX (g d σd S)
structure DGs (X : Cx) (hx : Hx) (tg : List Expr) (is : List Nat) (g : GMs) : Prop where
  run : ∀ W, Takes X W → PGs X tg (tGs ⟨X.K, hx, W⟩ is g)
  nox : ∀ d σd S, NoX (g d σd S)
theorem PGimp {X : Cx} {e : Expr} {t t' : TG} (h : PG X e t) (i : ∀ v σ H Q, t' v σ H Q → t v σ H Q) : PG X e t' := ⟨fun pins s σ H v u Q I r q => h.run pins s σ H v u Q I r (i v σ H Q q)⟩
theorem PGsimp {X : Cx} {e : List Expr} {t t' : TGs} (h : PGs X e t) (i : ∀ v σ H Q, t' v σ H Q → t v σ H Q) : PGs X e t' := ⟨fun pins s σ H v u Q I r q => h.run pins s σ H v u Q I r (i v σ H Q q)⟩
def gN (i : Nat) : GM := fun d σd S => .ok (σd.set i (some d)) S
def gN0 : GMs := fun ds σd S => match ds with
  | [] => .ok σd S
  | _ => .bad
def gN1 (g : GM) (h : GMs) : GMs := fun ds σd S => match ds with
  | d :: r => (g d σd S).bind fun σ1 S1 => h r σ1 S1
  | _ => .bad
def gT (n : Nat) (h : GMs) : GM := fun d σd S => match deref S d with
  | some (.tup l) => if l.length = n then h (l.map Wt.d) σd S else .bad
  | _ => .bad
theorem Res.bind_nox {α β : Type} {r : Res α} {f : α → Store → Res β} (h : NoX r) (h2 : ∀ a S, NoX (f a S)) : NoX (r.bind f) := by
  cases r with
  | ok a S => exact h2 a S
  | exc C ns l S => exact (h C ns l S rfl).elim
  | bad => intro _ _ _ _ e; cases e
theorem rvs_of {c : Cn} {A : Ads} {S : Store} {H : Hp} : ∀ {l : List D} {vs : List V}, RPs c.K (Live A S) H l vs → rVs c A S H (l.map Wt.d) vs
  | _, _, .nil => .nil
  | _, _, .cons r t => .cons (RV.of r) (rvs_of t)
section
variable {X : Cx} {hx : Hx} {pos : Pos}
theorem dg_name {i : Nat} {x : Str} (hN : X.N.Nodup) (hi : X.N[i]? = some x := by rfl) (hl : Loc X.env.scope x := by first | exact .inl rfl | exact .inr rfl)
    (hf : X.fn x = true ∨ X.env.scope.names.lookup x = some .local := by first | exact .inl rfl | exact .inr rfl) : DG X hx (.Name x pos) [i] (gN i) :=
  ⟨fun W tk => PGimp (pg_name hN hi hl hf) fun v σ H Q ⟨A, S, σd, d, R, E, r, p⟩ => p A H _ R .refl ⟨E.set r, Same.set _ _ _⟩, fun _ _ _ _ _ _ _ e => by cases e⟩
theorem dgs_nil : DGs X hx [] [] gN0 := ⟨fun W tk => PGsimp pgs_nil fun v σ H Q ⟨A, S, σd, d, R, E, r, p⟩ => by
    cases r with
    | nil => exact ⟨rfl, p A H _ R .refl ⟨E, .refl _ _⟩⟩
    | cons _ _ => exact p.elim, fun d _ _ _ _ _ _ e => by cases d <;> cases e⟩
theorem dgs_cons {e : Expr} {es : List Expr} {g : GM} {h : GMs} {is js : List Nat} (h1 : DG X hx e is g) (h2 : DGs X hx es js h)
    (hs : (assignEach (e :: es) X.env).map (·.2) = assign e X.env :: (assignEach es X.env).map (·.2) := by rfl) : DGs X hx (e :: es) (is ++ js) (gN1 g h) :=
  ⟨fun W tk => PGsimp (pgs_cons (h1.run W tk) (h2.run W tk) hs) fun v σ H Q ⟨A, S, σd, d, R, E, r, p⟩ => by
    cases r with
    | nil => exact p.elim
    | @cons d v ds vs r t =>
      refine ⟨v, vs, rfl, A, S, σd, d, R, E, r, (Post.bind (R1 := rEv _ is σ) p).mono fun σ1 H1 ⟨A1, S1, σd1, R1, T1, ⟨E1, sm⟩, p1⟩ => ?_⟩
      refine ⟨A1, S1, σd1, ds, R1, E1, Paired.mapP t fun d v q => RV.step R T1 q, ?_⟩
      revert p1
      cases q : h ds σd1 S1 with
      | ok a S' => exact fun p1 A' H' b x y z => p1 A' H' b x y ⟨z.1, sm.trans z.2⟩
      | exc C ns l S' => exact fun _ => (h2.nox _ _ _ _ _ _ _ q).elim
      | bad => exact id,
   fun d σd S => by
    cases d with
    | nil => intro _ _ _ _ e; cases e
    | cons d r => exact Res.bind_nox (h1.nox _ _ _) fun a S => h2.nox _ _ _⟩
theorem dg_tup {es : List Expr} {k : Nat} {h : GMs} {n : Nat} {is : List Nat} (hc : X.calm = true) (hg : DGs X hx es is h) (hn : (assignEach es X.env).length = n := by rfl) (hst : (assignEach es X.env).findIdx? (·.1) = none := by rfl) : DG X hx (.Tuple es k pos) is (gT n h) :=
  ⟨fun W tk => PGimp (pg_tup hc (hg.run W tk) hn hst) fun v σ H Q ⟨A, S, σd, d, R, E, r, p⟩ => by
    unfold gT at p
    split at p
    · rename_i l e
      obtain ⟨hl, p⟩ := Post.iteP p
      obtain ⟨a, vs, rfl, h1, g1⟩ := (readAs R r e).tup
      exact ⟨a, vs, rfl, h1, by rw [← g1.len]; exact hl, A, S, σd, _, R, E, rvs_of g1, p⟩
    · exact p.elim,
   fun d σd S => by
    unfold gT
    split
    · split
      · exact hg.nox _ _ _
      · intro _ _ _ _ e; cases e
    · intro _ _ _ _ e; cases e⟩
end

/-! ### assignments -/
def sAsg (g : GM) (f : EM) : SM := fun _ σd S => (f σd S).toS σd fun d S1 => (g d σd S1).toS σd fun σ2 S2 => .nx σ2 S2
def sPar (i j : Nat) (f : AM) : SM := fun _ σd S => (f σd S).toS σd fun ds S1 => match ds with
  | [d, e] => .nx ((σd.set i (some d)).set j (some e)) S1
  | _ => .bad
def sPar3 (i j l : Nat) (f : AM) : SM := fun _ σd S => (f σd S).toS σd fun ds S1 => match ds with
  | [d, e, h] => .nx (((σd.set i (some d)).set j (some e)).set l (some h)) S1
  | _ => .bad
section
variable {X : Cx} {hx : Hx} {pos : Pos} {e tg : Expr} {fe : EM} {g : GM} {is : List Nat}
theorem ds_asg (h : DE X hx e fe) (hg : DG X hx tg is g) (hs : swapsWithSole [tg] e pos.line X.env = pure false := by rfl) (hw : swappedStores [tg] e X.env = pure none := by rfl)
    (h1 : (assignEach [tg] X.env).map (·.2) = [assign tg X.env] := by rfl) : DS X hx (.Assign [tg] e pos) (sAsg g fe) := ⟨fun W tk => PSimp (ps_asg (h.run W tk) (hg.run W tk) hs hw h1) fun σ H D ⟨b0, A0, S0, H0, A, S, σd, R0, T, R, E, p⟩ =>
  ⟨A, S, σd, R, E, (Post.ofS (R1 := rV _) R T E p).mono fun v H1 ⟨A1, S1, d, R1, T1, E1, r1, p1⟩ => ⟨A1, S1, σd, d, R1, E1, r1, (Post.ofS (R1 := rEv _ is σ) R1 T1 E1 p1).mono fun σ2 H2 ⟨A2, S2, σd2, R2, T2, _, ⟨E2, _⟩, p2⟩ => p2 A2 H2 σ2 R2 T2 E2⟩⟩⟩
theorem ds_par {i j : Nat} {x y : Str} {a b : Expr} {fa : AM} {px py pt : Pos} {kt k2 pt2} (hc : X.calm = true) (hN : X.N.Nodup) (ha : DA X hx [a, b] fa) (hi : X.N[i]? = some x := by rfl) (hj : X.N[j]? = some y := by rfl) (hij : i ≠ j := by decide)
    (hx' : X.env.scope.names.lookup x = some .local := by rfl) (hy : X.env.scope.names.lookup y = some .local := by rfl)
    (hw : swappedStores [.Tuple [.Name x px, .Name y py] kt pt] (.Tuple [a, b] k2 pt2) X.env = pure (some [x, y]) := by rfl)
    (hs : swapsWithSole [.Tuple [.Name x px, .Name y py] kt pt] (.Tuple [a, b] k2 pt2) pos.line X.env = pure false := by rfl) :
    DS X hx (.Assign [.Tuple [.Name x px, .Name y py] kt pt] (.Tuple [a, b] k2 pt2) pos) (sPar i j fa) := ⟨fun W tk => PSimp (ps_par hc hN hi hj hij hx' hy (ha.run W tk) hw hs) fun σ H D ⟨b0, A0, S0, H0, A, S, σd, R0, T, R, E, p⟩ =>
  ⟨A, S, σd, R, E, (Post.ofS (R1 := rVs _) R T E p).mono fun vs H1 ⟨A1, S1, ds, R1, T1, E1, r1, p1⟩ => by
    match ds, r1, p1 with
    | [d, e], r1, p1 =>
      obtain ⟨v, u, rfl, r2, r3⟩ := rvs2 r1
      exact ⟨v, u, rfl, p1 A1 H1 _ R1 T1 ((E1.set r2).set r3)⟩
    | [], _, p1 => exact p1.elim
    | [_], _, p1 => exact p1.elim
    | _ :: _ :: _ :: _, _, p1 => exact p1.elim⟩⟩
end

/-! ### o[i] = v for a list's cell, a dict's cell -/
def dput (k : Key) (x : D) (l : List (Key × D)) : List (Key × D) := if (l.any fun p => decide (p.1 = k)) = true then l.map (fun p => if p.1 = k then (p.1, x) else p) else l ++ [(k, x)]
def noEx {α : Type} : Res α → Res α
  | .ok a S => .ok a S
  | _ => .bad
theorem noEx_nox {α : Type} (r : Res α) : NoX (noEx r) := by cases r <;> intro _ _ _ _ e <;> cases e
theorem Post.noEx {α β : Type} {c : Cn} {R1 : RR α β} {σ : L2.St} {A : Ads} {S : Store} {H : Hp} {Q : β → Hp → Prop} {r : Res α} (p : Post c R1 σ A S H Q (Y.noEx r)) : Post c R1 σ A S H Q r := by
  cases r with
  | ok a S' => exact p
  | exc C ns l S' => exact p.elim
  | bad => exact p.elim
def putC (n : Nat) (i : Option D) (x : D) (S : Store) : Option Cell → Res Unit
  | some (.lst l) => match i with
    | some (.int k) => match ixN l.length k with
      | some j => .ok () (S.set n (.lst (l.set j x)))
      | none => .bad
    | _ => .bad
  | some (.dK l) => match i.bind D.key with
    | some k => if l.length < lim then .ok () (S.set n (.dK (dput k x l))) else .bad
    | none => .bad
  | _ => .bad
def setC (o i d : Wt) (S : Store) : Res Unit := (fz1 S d).bind fun x S1 => match o with
  | .loc n => putC n (deref S1 i) x S1 S1[n]?
  | _ => .bad
def rU (c : Cn) : RR Unit Unit := fun _ _ _ _ _ => True
def rSet (c : Cn) : TSet := fun o i v H Q => ∃ A S σ d1 d2 d3, Rel c.K A S H ∧ rV c A S H d1 o ∧ rV c A S H d2 i ∧ rV c A S H d3 v ∧ Post c (rU c) σ A S H (fun _ H' => Q H') (setC d1 d2 d3 S)
theorem any_map {α : Type} {β : Type} {k : Key} {l : List (Key × α)} {l' : List (Key × β)} (h : l.map (·.1) = l'.map (·.1)) : (l.any fun p => decide (p.1 = k)) = (l'.any fun p => decide (p.1 = k)) := by
  have q : ∀ {γ : Type} (l : List (Key × γ)), (l.any fun p => decide (p.1 = k)) = ((l.map (·.1)).any fun p => decide (p = k)) := fun l => by rw [List.any_map]; rfl
  rw [q, q, h]
theorem dput_rps {K : PySem.W.Frag} {lv : Addr → Prop} {H : Hp} {k : Key} {x : D} {v : V} {l : List (Key × D)} {kvs : List (Key × V)} (hk : kvs.map (·.1) = l.map (·.1)) (r : RPs K lv H (l.map (·.2)) (kvs.map (·.2))) (rx : RP K lv H x v) :
    (putK kvs k v).map (·.1) = (dput k x l).map (·.1) ∧ RPs K lv H ((dput k x l).map (·.2)) ((putK kvs k v).map (·.2)) := by
  unfold putK dput
  rw [any_map hk]
  split
  · rename_i hb
    clear hb
    induction l generalizing kvs with
    | nil =>
      cases kvs with
      | nil => exact ⟨rfl, .nil⟩
      | cons _ _ => cases hk
    | cons p l ih =>
      cases kvs with
      | nil => cases hk
      | cons q kvs =>
        simp only [List.map_cons, List.cons.injEq] at hk
        simp only [List.map_cons] at r
        cases r with
        | cons r1 r2 =>
          obtain ⟨i1, i2⟩ := ih hk.2 r2
          simp only [List.map_cons]
          rw [hk.1, i1]
          by_cases e : p.1 = k
          · rw [if_pos e, if_pos e]
            exact ⟨rfl, .cons rx i2⟩
          · rw [if_neg e, if_neg e]
            exact ⟨by rw [hk.1], .cons r1 i2⟩
  · rw [List.map_append, List.map_append, List.map_append, List.map_append, hk]
    exact ⟨rfl, r.append (.one rx)⟩
section
variable {X : Cx} {hx : Hx} {pos : Pos} {o i e : Expr} {fo fi fe : EM}
theorem pset (hu : X.A.units + 65 < cLine) (W : WX) : PSet X (rSet ⟨X.K, hx, W⟩) := by
  intro pins s σ H o i v ov iv u Q I ro ri rv h
  obtain ⟨A, S, σ', d1, d2, d3, R, r1, r2, r3, p⟩ := h
  obtain ⟨x, S1, R1, T1, rx, p1⟩ := Post.fz1 R r3 p
  have r1' := r1.step R T1
  have r2' := r2.step R T1
  cases d1 with
  | d x => exact p1.elim
  | hex C ns l => exact p1.elim
  | loc n =>
    obtain ⟨a, ha, rfl⟩ := r1'
    obtain ⟨c, w, hc, hu', ok⟩ := R1.known ha
    have p1 : Post (⟨X.K, hx, W⟩ : Cn) (rU ⟨X.K, hx, W⟩) σ' A S1 H (fun _ H' => Q H') (putC n (deref S1 d2) x S1 S1[n]?) := p1
    rw [hc] at p1
    cases c with
    | dead => exact p1.elim
    | frz d => exact p1.elim
    | ins C l => exact p1.elim
    | lst l =>
      obtain ⟨vs, h1, h2⟩ := ok
      cases e2 : deref S1 d2 with
      | none => rw [e2] at p1; exact p1.elim
      | some y =>
        rw [e2] at p1
        cases y with
        | int k =>
          unfold putC at p1
          dsimp only at p1
          cases e3 : ixN l.length k with
          | none => rw [e3] at p1; exact p1.elim
          | some j =>
            rw [e3] at p1
            obtain rfl := (readAs R1 r2' e2).int
            obtain ⟨R2, T2⟩ := R1.putL ha hc (h2.set rx j)
            exact set_list pins s σ H _ _ v ov iv u Q I ro ri rv ⟨a, vs, k, j, rfl, rfl, h1, by rw [← h2.len]; exact e3, p1 A _ () R2 T2 trivial⟩
        | _ => exact p1.elim
    | dK l =>
      obtain ⟨kvs, h1, h2, h3⟩ := ok
      unfold putC at p1
      dsimp only at p1
      cases e2 : deref S1 d2 with
      | none => rw [e2] at p1; exact p1.elim
      | some y =>
        rw [e2] at p1
        cases e3 : y.key with
        | none => rw [show (some y).bind D.key = none from e3] at p1; exact p1.elim
        | some k =>
          rw [show (some y).bind D.key = some k from e3] at p1
          obtain ⟨hz, p1⟩ := Post.iteP p1
          have hkl : kvs.length = l.length := by
            have := congrArg List.length h2
            simpa using this
          obtain ⟨q1, q2⟩ := dput_rps (k := k) h2 h3 rx
          obtain ⟨R2, T2⟩ := R1.putK ha hc q1 q2
          obtain rfl := key_ok (readAs R1 r2' e2) e3
          cases ro
          exact d_setItem (by omega) I (DPut.k h1 (by rw [hkl]; exact lim_lt hz)) ri rv fun s' I' => ⟨_, I', p1 A _ () R2 T2 trivial⟩
def gSb (fo fi : EM) : GM := fun d σd S => noEx ((fo σd S).bind fun o S1 => (fi σd S1).bind fun i S2 => (setC o i d S2).bind fun _ S3 => .ok σd S3)
theorem dg_sub (hu : X.A.units + 65 < cLine) (ho : DE X hx o fo) (hi : DE X hx i fi)
    (ha : ∀ v, assign (.Subscript o i pos) X.env v = (do
      let ov ← holding [v] (eval o X.env)
      let iv ← holding [v, ov] (eval i X.env)
      standAt pos
      holding [v, ov, iv] (setItem ov iv v)
      release [v, ov, iv] []) := by intro _; rfl) : DG X hx (.Subscript o i pos) [] (gSb fo fi) :=
  ⟨fun W tk => PGimp (pg_sub (ho.run W tk) (hi.run W tk) (pset hu W) ha) fun v σ H Q ⟨A, S, σd, d, R, E, r, p⟩ => by
    refine ⟨A, S, σd, R, E, (Post.bind (R1 := rV _) (Post.noEx p)).mono fun ov H1 ⟨A1, S1, o1, R1, T1, r1, p1⟩ => ⟨A1, S1, σd, R1, E.step R T1, (Post.bind (R1 := rV _) p1).mono fun iv H2 ⟨A2, S2, i2, R2, T2, r2, p2⟩ => ?_⟩⟩
    exact ⟨A2, S2, σ, o1, i2, d, R2, r1.step R1 T2, r2, (r.step R T1).step R1 T2, (Post.bind (R1 := rU _) p2).mono fun _ H3 ⟨A3, S3, _, R3, T3, _, p3⟩ => p3 A3 H3 _ R3 .refl ⟨((E.step R T1).step R1 T2).step R2 T3, .refl _ _⟩⟩,
   fun d σd S => noEx_nox _⟩
end

/-! ### methods -/
def rMD (c : Cn) (f : Wt → List Wt → Store → Res Wt) : V → List V → Hp → VK → Prop := fun x vs H Q => ∃ A S σ d ds, Rel c.K A S H ∧ rV c A S H d x ∧ rVs c A S H ds vs ∧ Post c (rV c) σ A S H Q (f d ds S)
def MetD (X : Cx) (hx : Hx) (id : String) (f : Wt → List Wt → Store → Res Wt) : Prop := ∀ W, MtR X id (rMD ⟨X.K, hx, W⟩ f)
def eM (ok : Wt → Store → Bool) (f : Wt → List Wt → Store → Res Wt) (fo : EM) (g : AM) : EM := fun σd S => (fo σd S).bind fun o S1 => if ok o S1 = true then (g σd S1).bind fun ds S2 => f o ds S2 else .bad
def isLst (d : Wt) (S : Store) : Bool := match deref S d with
  | some (.lst _) => true
  | some (.fls _) => true
  | _ => false
def isStr (d : Wt) (S : Store) : Bool := match deref S d with
  | some (.str _) => true
  | _ => false
section
variable {X : Cx} {hx : Hx} {apos cpos : Pos} {o e : Expr} {es : List Expr} {fo : EM} {g : AM} {name : Str} {T id : String} {f : Wt → List Wt → Store → Res Wt} {ok : Wt → Store → Bool}
def TyD (T : String) (ok : Wt → Store → Bool) : Prop := ∀ {c : Cn} {A : Ads} {S : Store} {H : Hp} {d : Wt} {v : V}, Rel c.K A S H → rV c A S H d v → ok d S = true → tyV c.K T v H
theorem ty_lst : TyD "list" isLst := by
  intro c A S H d v R r h
  unfold isLst at h
  split at h
  · rename_i l e
    obtain ⟨a, vs, rfl, h1, g1⟩ := (readAs R r e).lst
    exact .inl ⟨rfl, vs, SqL.of h1⟩
  · rename_i l e
    obtain ⟨a, vs, rfl, h1, g1⟩ := (readAs R r e).fls
    exact .inl ⟨rfl, vs, h1⟩
  · cases h
theorem ty_str : TyD "str" isStr := by
  intro c A S H d v R r h
  unfold isStr at h
  split at h
  · rename_i l e
    obtain rfl := (readAs R r e).str
    rfl
  · cases h
theorem d_m0 (ht : TyD T ok) (pa : PlainAttrs T) (slot : Slot T name id) (hty : typeOf (.builtin id) = pure (.type "method_descriptor")) (hm : MetD X hx id f) (ho : DE X hx o fo)
    (hbase : attributeBase o name X.env (eval o X.env) = eval o X.env := by rfl) (hline : (apos.endLine == cpos.line) = true := by rfl) : DE X hx (.Call (.Attribute o name apos) [] [] cpos) (eM ok f fo aNil) :=
  ⟨fun W tk => PEimp (pe_bm0 pa slot hty (hm W) (ho.run W tk) hbase hline) fun σ H Q ⟨A, S, σd, R, E, p⟩ => ⟨A, S, σd, R, E, (Post.bind (R1 := rV _) p).mono fun v H1 ⟨A1, S1, d, R1, T1, r1, p1⟩ => by
    obtain ⟨hk, p1⟩ := Post.iteP p1
    exact ⟨ht (c := ⟨X.K, hx, W⟩) R1 r1 hk, A1, S1, σ, d, [], R1, r1, .nil, p1⟩⟩⟩
theorem d_m (ht : TyD T ok) (pa : PlainAttrs T) (slot : Slot T name id) (hty : typeOf (.builtin id) = pure (.type "method_descriptor")) (hm : MetD X hx id f) (ho : DE X hx o fo) (ha : DA X hx (e :: es) g)
    (hbase : attributeBase o name X.env (eval o X.env) = eval o X.env := by rfl)
    (hfew : ((backTo cpos (starEach (e :: es) X.env)).all (fun x => !x.1) && (backToKw cpos (keywordEach [] X.env)).all (fun x => x.1.isSome)
      && decide ((e :: es).length + ([] : List Keyword).length + (if ([] : List Keyword).isEmpty then 0 else 1) < 30)) = true := by rfl)
    (hline : (apos.endLine == cpos.line) = true := by rfl) (hs : starEach (e :: es) X.env = (false, eval e X.env) :: starEach es X.env := by rfl) (hplain : (backTo cpos (starEach es X.env)).any (·.1) = false := by rfl) :
    DE X hx (.Call (.Attribute o name apos) (e :: es) [] cpos) (eM ok f fo g) :=
  ⟨fun W tk => PEimp (pe_bm pa slot hty (hm W) (ho.run W tk) (ha.run W tk) hbase hfew hline hs hplain) fun σ H Q ⟨A, S, σd, R, E, p⟩ => ⟨A, S, σd, R, E, (Post.bind (R1 := rV _) p).mono fun v H1 ⟨A1, S1, d, R1, T1, r1, p1⟩ => by
    obtain ⟨hk, p1⟩ := Post.iteP p1
    exact ⟨ht (c := ⟨X.K, hx, W⟩) R1 r1 hk, A1, S1, σd, R1, E.step R T1, (Post.bind (R1 := rVs _) p1).mono fun vs H2 ⟨A2, S2, ds, R2, T2, r2, p2⟩ => ⟨A2, S2, σ, d, ds, R2, r1.step R1 T2, r2, p2⟩⟩⟩⟩
end
def appC (n : Nat) (x : D) (S : Store) : Option Cell → Res Wt
  | some (.lst l) => if l.length < lim then .ok (.d .non) (S.set n (.lst (l ++ [x]))) else .bad
  | _ => .bad
def mApp (o : Wt) (ds : List Wt) (S : Store) : Res Wt := match ds with
  | [d] => (fz1 S d).bind fun x S1 => match o with
    | .loc n => appC n x S1 S1[n]?
    | _ => .bad
  | _ => .bad
def popC (n : Nat) (S : Store) : Option Cell → Res Wt
  | some (.lst l) => match l[l.length - 1]? with
    | some x => .ok (.d x) (S.set n (.lst l.dropLast))
    | none => .bad
  | _ => .bad
def mPop (o : Wt) (ds : List Wt) (S : Store) : Res Wt := match ds with
  | [] => match o with
    | .loc n => popC n S S[n]?
    | _ => .bad
  | _ => .bad
def popAtC (n : Nat) (i : Option D) (S : Store) : Option Cell → Res Wt
  | some (.lst l) => match i with
    | some (.int i) => match ixN l.length i with
      | some k => match l[k]? with
        | some x => .ok (.d x) (S.set n (.lst (l.eraseIdx k)))
        | none => .bad
      | none => .bad
    | _ => .bad
  | _ => .bad
def mPopAt (o : Wt) (ds : List Wt) (S : Store) : Res Wt := match ds with
  | [i] => match o with
    | .loc n => popAtC n (deref S i) S S[n]?
    | _ => .bad
  | _ => .bad
def extC (n : Nat) (m : List D) (S : Store) : Option Cell → Res Wt
  | some (.lst l) => if l.length + m.length ≤ lim then .ok (.d .non) (S.set n (.lst (l ++ m))) else .bad
  | _ => .bad
def mExt (o : Wt) (ds : List Wt) (S : Store) : Res Wt := match ds with
  | [d] => match deref S d with
    | some (.lst m) => match o with
      | .loc n => extC n m S S[n]?
      | _ => .bad
    | _ => .bad
  | _ => .bad
section
variable {X : Cx} {hx : Hx}
theorem RPs.eraseIdx {K : PySem.W.Frag} {lv : Addr → Prop} {H : Hp} : ∀ {ds : List D} {vs : List V} (i : Nat), RPs K lv H ds vs → RPs K lv H (ds.eraseIdx i) (vs.eraseIdx i)
  | _, _, _, .nil => .nil
  | _, _, 0, .cons _ t => t
  | _, _, i + 1, .cons r t => .cons r (RPs.eraseIdx i t)
theorem RPs.dropLast {K : PySem.W.Frag} {lv : Addr → Prop} {H : Hp} {ds : List D} {vs : List V} (h : RPs K lv H ds vs) : RPs K lv H ds.dropLast vs.dropLast := by
  rw [List.dropLast_eq_take, List.dropLast_eq_take, h.length]
  exact h.take _
theorem met_app : MetD X hx "list.append" mApp := by
  intro W pins s σ H x xs v us Q I r rs h
  obtain ⟨A, S, σ', d, ds, R, rd, rds, p⟩ := h
  match ds, rds, p with
  | [], _, p => exact p.elim
  | _ :: _ :: _, _, p => exact p.elim
  | [y], rds, p =>
    obtain ⟨w, rfl, ry⟩ := rvs1 rds
    obtain ⟨x', S1, R1, T1, rx, p1⟩ := Post.fz1 R ry p
    have rd' := rd.step R T1
    cases d with
    | d x => exact p1.elim
    | hex C ns l => exact p1.elim
    | loc n =>
      obtain ⟨a, ha, rfl⟩ := rd'
      obtain ⟨c, w', hc, hu', ok⟩ := R1.known ha
      have p1 : Post (⟨X.K, hx, W⟩ : Cn) (rV ⟨X.K, hx, W⟩) σ' A S1 H Q (appC n x' S1 S1[n]?) := p1
      rw [hc] at p1
      cases c with
      | lst l =>
        obtain ⟨vs, h1, h2⟩ := ok
        obtain ⟨hz, p1⟩ := Post.iteP p1
        obtain ⟨R2, T2⟩ := R1.putL ha hc (h2.append (.one rx))
        exact mt_append pins s σ H _ _ v us Q I r rs ⟨a, vs, w, rfl, rfl, h1, by rw [← h2.len]; exact lim_lt hz, p1 A _ _ R2 T2 (RV.of (x := .non) .non)⟩
      | _ => exact p1.elim
theorem met_pop : MetD X hx "list.pop" mPop := by
  intro W pins s σ H x xs v us Q I r rs h
  obtain ⟨A, S, σ', d, ds, R, rd, rds, p⟩ := h
  match ds, rds, p with
  | _ :: _, _, p => exact p.elim
  | [], .nil, p =>
    cases d with
    | d x => exact p.elim
    | hex C ns l => exact p.elim
    | loc n =>
      obtain ⟨a, ha, rfl⟩ := rd
      obtain ⟨c, w', hc, hu', ok⟩ := R.known ha
      have p1 : Post (⟨X.K, hx, W⟩ : Cn) (rV ⟨X.K, hx, W⟩) σ' A S H Q (popC n S S[n]?) := p
      rw [hc] at p1
      cases c with
      | lst l =>
        obtain ⟨vs, h1, h2⟩ := ok
        unfold popC at p1
        dsimp only at p1
        cases e : l[l.length - 1]? with
        | none => rw [e] at p1; exact p1.elim
        | some y =>
          rw [e] at p1
          obtain ⟨w, e', ry⟩ := h2.get e
          obtain ⟨R2, T2⟩ := R.putL ha hc h2.dropLast
          exact mt_pop pins s σ H _ _ v us Q I r rs ⟨a, vs, w, rfl, rfl, h1, by rw [← h2.len]; exact e', p1 A _ _ R2 T2 (RV.of (RP.fr R T2.fr ry))⟩
      | _ => exact p1.elim
theorem met_popAt : MetD X hx "list.pop" mPopAt := by
  intro W pins s σ H x xs v us Q I r rs h
  obtain ⟨A, S, σ', d, ds, R, rd, rds, p⟩ := h
  match ds, rds, p with
  | [], _, p => exact p.elim
  | _ :: _ :: _, _, p => exact p.elim
  | [y], rds, p =>
    obtain ⟨w, rfl, ry⟩ := rvs1 rds
    cases d with
    | d x => exact p.elim
    | hex C ns l => exact p.elim
    | loc n =>
      obtain ⟨a, ha, rfl⟩ := rd
      obtain ⟨c, w', hc, hu', ok⟩ := R.known ha
      have p1 : Post (⟨X.K, hx, W⟩ : Cn) (rV ⟨X.K, hx, W⟩) σ' A S H Q (popAtC n (deref S y) S S[n]?) := p
      rw [hc] at p1
      cases c with
      | lst l =>
        obtain ⟨vs, h1, h2⟩ := ok
        cases e2 : deref S y with
        | none => rw [e2] at p1; exact p1.elim
        | some y' =>
          rw [e2] at p1
          cases y' with
          | int i =>
            unfold popAtC at p1
            dsimp only at p1
            cases e3 : ixN l.length i with
            | none => rw [e3] at p1; exact p1.elim
            | some k =>
              rw [e3] at p1
              dsimp only at p1
              cases e : l[k]? with
              | none => rw [e] at p1; exact p1.elim
              | some z =>
                rw [e] at p1
                obtain ⟨w2, e', rz⟩ := h2.get e
                obtain ⟨R2, T2⟩ := R.putL ha hc (h2.eraseIdx k)
                obtain rfl := (readAs R ry e2).int
                rw [h2.len] at e3
                obtain ⟨q1, q2, q3, q4⟩ := ixN_seq e3
                have hn := line63
                have hzl := (I.lst h1)
                obtain ⟨its, n', rvs, ho, hz⟩ := hzl
                have := rvs.length
                exact mt_popAt pins s σ H _ _ v us Q I r rs ⟨a, vs, i, k, w2, rfl, rfl, h1, by omega, by omega, q1, e', p1 A _ _ R2 T2 (RV.of (RP.fr R T2.fr rz))⟩
          | _ => exact p1.elim
      | _ => exact p1.elim
end
end Y
end
section
/-! Y11: enumerate over tuples. -/
namespace Y
open PySem PySem.Spec PyProof.Rows L2
open Sem (wp)

theorem meets_enumerate_newB1 {v : Value} {o : Obj} {H : Heap → Prop} (B : Begins v o H) :
    Meets (Builtin.«enumerate.__new__» ⟨[.type "enumerate", v], []⟩) (fun _ R s => H s.heap ∧
      R (.ok (.ret (.ref (s.heap.push o).objs.size))) { s with heap := (s.heap.push o).push { cls := .type "enumerate", data := .fields #[.none, .bool false, .ref s.heap.objs.size, rawInt 0, .none, .none] } }) :=
  .of_wp fun prog w A R s h => by
    obtain ⟨hp, g, d, tk, os⟩ := s; obtain ⟨h1, h⟩ := h
    have hsub := sub_enumerate
    have q1 : ∀ {A' : Around} {E : Value → Shared → Prop} {Q : Value → Shared → Prop}, Q (.ref hp.objs.size) ⟨hp.push o, g, d, tk, os⟩ → wpAny (model prog w) A' (pyIter v) Q E ⟨hp, g, d, tk, os⟩ :=
      fun q => B.iter prog w _ _ ⟨hp, g, d, tk, os⟩ _ h1 q
    wp_walk using q1
    refine wpAny_stack_any fun st => wpAny_pure ?_
    split
    · rename_i c _ _ _ _ _
      cases (c == Value.type "enumerate")
      · wp_walk using q1
        exact ⟨_, rfl, h⟩
      · wp_walk using q1
        exact ⟨_, rfl, h⟩
    · wp_walk using q1
      exact ⟨_, rfl, h⟩
theorem enum_begins1 {prog : Program} {w : World} {A : Around} {E : Value → Shared → Prop} {s : Shared} {v : Value} {o : Obj} {H : Heap → Prop} {Q : Value → Shared → Prop} (B : Begins v o H) (h1 : H s.heap)
    (h : ∀ h', IsEnum h' (s.heap.objs.size + 1) s.heap.objs.size 0 .none → h'.get? s.heap.objs.size = some o → h'.objs.size = s.heap.objs.size + 2 →
      (∀ b o, s.heap.get? b = some o → h'.get? b = some o) → Q (.ref (s.heap.objs.size + 1)) { s with heap := h' }) :
    wpAny (model prog w) A (call (.type "enumerate") [v]) Q E s := by
  refine callType_new F.called_enumerate (by decide) (F.typeCall_enumerate_1 _) (F.newCall_enumerate_1 _) (fun obj => F.args_object_init_2 obj _) F.entry_enumerate_new
    (meets_enumerate_newB1 B) ⟨h1, ?_⟩
  have hz : (s.heap.push o).objs.size = s.heap.objs.size + 1 := Heap.size_push ..
  show _ ∧ _
  rw [hz]
  have he : IsEnum ((s.heap.push o).push { cls := .type "enumerate", data := .fields #[.none, .bool false, .ref s.heap.objs.size, rawInt 0, .none, .none] }) (s.heap.objs.size + 1) s.heap.objs.size 0 .none := by
    have := Heap.get?_push_size (s.heap.push o) (o := { cls := .type "enumerate", data := .fields #[.none, .bool false, .ref s.heap.objs.size, rawInt 0, .none, .none] }) rfl
    rw [hz] at this; exact this
  refine ⟨⟨_, he, rfl⟩, h _ he (Heap.get?_push_of_some _ (Heap.get?_push_size _ B.free)) (by rw [Heap.size_push, hz]) fun b o x => Heap.get?_push_of_some _ (Heap.get?_push_of_some _ x)⟩

def IteT (K : PySem.W.Frag) (a : Addr) : It :=
  ⟨fun i H => ∃ (xs : List V) (x : V), SqT K H a xs ∧ xs[i]? = some x, fun i H v H' => ∃ T x, v = .ref T ∧ H T = none ∧ H' = upd H T (.tup [.int (i : Nat), x]) ∧ ∀ xs, SqT K H a xs → xs[i]? = some x, fun i H => ∃ xs : List V, SqT K H a xs ∧ xs.length ≤ i⟩
theorem turn_enumT {P : Program} {w : World} {K : PySem.W.Frag} {elts : List Expr} {kk : Nat} {tpos : Pos} (a e it : Addr) (hai : a ≠ it) (hae : a ≠ e) :
    Turn P w K (.Tuple elts kk tpos) (IteT K a) [e, it] e (fun i h => (∃ old, IsEnum h e it ((i : Nat) : Int) old) ∧ h.IsTupleIter it a i ∧ e ≠ it) where
  mem := by simp
  obj := fun i h st b hb => by
    obtain ⟨⟨old, he⟩, ⟨o, ho, hc, hd⟩, _⟩ := st
    have e' : b = e ∨ b = it := by simpa using hb
    rcases e' with z | z
    · rw [z]; exact ⟨_, he, fun v q => nomatch q⟩
    · rw [z]; exact ⟨o, ho, fun v q => by rw [hd] at q; cases q⟩
  keep := fun i h h' st k => let ⟨⟨old, he⟩, hi, hne⟩ := st; ⟨⟨old, k e (by simp) _ he⟩, hi.at fun o q => k it (by simp) o q, hne⟩
  item := by
    intro X hP hw hK hc i pins s σ H E I hf st hg
    subst hP hw hK
    obtain ⟨⟨old, he⟩, hit, hne⟩ := st
    obtain ⟨xs, x, hq, hx⟩ := hg
    obtain ⟨its, rv, p, hz⟩ := I.tuple hq
    obtain ⟨u, hu, ru⟩ := rv.get hx
    have hel : e < s.heap.objs.size := Heap.lt_size he
    have hil : it < s.heap.objs.size := by obtain ⟨_, q, _⟩ := hit; exact Heap.lt_size q
    have D := Draws.tuple (prog := X.prog) (w := X.w) (A := X.A.in1) (I.ok.hd hc) it a hai its.toArray
    have hlt : i < its.toArray.size := by
      have := (List.getElem?_eq_some_iff.mp hu).1
      simpa using this
    refine wpAny_pyNext_enum_itemC D he ⟨hit, p⟩ hlt hne (by simp [hne, Ne.symm hae]) fun y h' tk hy ho hit' hT hsz hk => ?_
    obtain rfl : y = u := by
      rw [show its.toArray[i]? = some u by simpa using hu] at hy
      exact (Option.some.inj hy).symm
    refine ⟨_, rfl, wpAny_letOwnedTupleGo_enum (s := { s with heap := h', toks := tk + 1 }) ho fun h'' he' sb => ?_⟩
    have hT2 : h''.get? s.heap.objs.size = some { cls := .type "tuple", data := .seq #[.int i tk, y] } := (sb.2 _ (Nat.ne_of_gt hel)).trans hT
    have new : ObjOk X.prog X.w (upd H s.heap.objs.size (.tup [.int (i : Nat), x])) h'' s.heap.objs.size (.tup [.int (i : Nat), x]) :=
      ⟨by show 2 ≤ sizeLine; decide, [.int i tk, y], .cons ⟨_, rfl⟩ (.cons ru .nil), ⟨_, hT2, rfl, _, rfl⟩⟩
    have I1 : Inv X pins σ (upd H s.heap.objs.size (.tup [.int (i : Nat), x])) { s with heap := h'', toks := tk + 1 } :=
      I.turnedNew (ch := [e, it]) (fun b ob hb q => (sb.2 b (fun z => hb (by simp [z]))).trans (hk b ob (fun z => hb (by simp [z])) (fun z => hb (by simp [z])) q)) hf (Nat.le_refl _) new
    refine ⟨.ref s.heap.objs.size, _, I1, rfl, ⟨_, x, rfl, I.hok.fresh (Nat.le_refl _), rfl, fun ys hy => by rw [I.tuple_inj hy hq]; exact hx⟩, ⟨⟨y, ?_⟩, hit'.1.at fun o q => (sb.2 it (Ne.symm hne)).trans q, hne⟩, fun b hb => ?_⟩
    · have e1 : ((i + 1 : Nat) : Int) = (i : Int) + 1 := by omega
      rw [e1]; exact he'
    · have hb' : b < s.heap.objs.size := by
        have e' : b = e ∨ b = it := by simpa using hb
        rcases e' with z | z
        · rw [z]; exact hel
        · rw [z]; exact hil
      rw [upd_ne (Nat.ne_of_lt hb')]
      exact (hf b hb).1
  done := by
    intro X hP hw hK hc i pins s σ H E I hf st hg
    subst hP hw hK
    obtain ⟨⟨old, he⟩, hit, hne⟩ := st
    obtain ⟨xs, hq, hx⟩ := hg
    obtain ⟨its, rv, p, hz⟩ := I.tuple hq
    obtain ⟨f0, f1, f2, f3, f4, f5⟩ := hf it (by simp)
    have hl := rv.length
    have D : Draws X.prog X.w X.A.in1 it [it, a] i (fun _ _ => True) (fun j h => j = i ∧ h.IsTupleIter it a i ∧ h.IsTuple a its.toArray) :=
      { live := fun _ _ st => let ⟨o, ho, _⟩ := st.2.1; ⟨o, ho⟩
        frame := fun _ _ _ st hk => ⟨st.1, st.2.1.at fun o e => hk it (by simp) o e, st.2.2.at fun o e => hk a (by simp) o e⟩
        item := fun j s Q E hi st hQ => by have := st.1; omega
        done := fun s Q E st hE => wpAny_nextOf_tuple_end (I.ok.hd hc) st.2.1 st.2.2 (by simp; omega) hE }
    exact wpAny_pyNext_enum_endD D he ⟨rfl, hit, p⟩ fun h' eb => ⟨rfl, I.turned (t' := s.toks) (fun b o hb q => eb b o hb q) f0 f1 f3 f4 f5⟩
  self := fun A i s Q E st h => let ⟨⟨_, he⟩, _⟩ := st; wpAny_pyIter_enum he h
def iEnumA (K : PySem.W.Frag) (ta : TA) : TI := fun σ H R => ta σ H fun vs H1 => ∃ a xs, vs = [.ref a] ∧ ((SqL K H1 a xs ∧ R (Ite K a) H1) ∨ (SqT K H1 a xs ∧ R (IteT K a) H1))
theorem pi_enumA {X : Cx} {e : Expr} {ta : TA} {p pos tpos : Pos} {elts : List Expr} {kk : Nat} (hg : Gl X "enumerate") (hm : X.mg "enumerate" = none) (ha : PA X [e] ta) (hs : starEach [e] X.env = [(false, eval e X.env)] := by rfl) :
    PI X (.Tuple elts kk tpos) (.Call (.Name "enumerate" p) [e] [] pos) (iEnumA X.K ta) := by
  refine ⟨fun pins s σ H R I h => ?_⟩
  refine Call_ (ld_blt I hg hm boot_enumerate (PyProof.Rows.callWith_type1 (thn (ha.run pos pins s σ H _ I h) fun us s1 ⟨vs, H1, I1, r1, q1⟩ => ?_) hs rfl))
  obtain ⟨a, xs, ex, q1⟩ := q1
  subst ex
  cases r1 with
  | cons r rr =>
    cases rr
    cases r
    have fin : ∀ b ∈ [s1.heap.objs.size + 1, s1.heap.objs.size], FpOk X pins H1 b := fun b hb => by
      have e' : b = s1.heap.objs.size + 1 ∨ b = s1.heap.objs.size := by simpa using hb
      have hle : s1.heap.objs.size ≤ b := by
        rcases e' with z | z
        · rw [z]; exact Nat.le_add_right _ _
        · rw [z]; exact Nat.le_refl _
      exact I1.fpOk hle (I1.hok.fresh hle)
    rcases q1 with ⟨hq, q⟩ | ⟨hq, q⟩
    · obtain ⟨its, rv, p', hz⟩ := I1.list hq
      refine call_enumerate_list p'.isList fun h' he hit hsz hk => wpAny_pyIter_enum he ?_
      have I2 : Inv X pins σ H1 { s1 with heap := h' } := I1.kept (t' := s1.toks) hk
      exact ⟨s1.heap.objs.size + 1, [s1.heap.objs.size + 1, s1.heap.objs.size], _, _, H1, rfl, I2, turn_enum a (s1.heap.objs.size + 1) s1.heap.objs.size, ⟨⟨.none, he⟩, hit, Nat.succ_ne_self _⟩, fin, q⟩
    · obtain ⟨its, rv, p', hz⟩ := I1.tuple hq
      refine enum_begins1 (begins_tuple a its.toArray) p' fun h' he hit hsz hk => wpAny_pyIter_enum he ?_
      have I2 : Inv X pins σ H1 { s1 with heap := h' } := I1.kept (t' := s1.toks) hk
      have hal : a < s1.heap.objs.size := by obtain ⟨o, ho, _⟩ := p'; exact Heap.lt_size ho
      exact ⟨s1.heap.objs.size + 1, [s1.heap.objs.size + 1, s1.heap.objs.size], _, _, H1, rfl, I2, turn_enumT a (s1.heap.objs.size + 1) s1.heap.objs.size (Nat.ne_of_lt hal) (Nat.ne_of_lt (Nat.lt_succ_of_lt hal)), ⟨⟨.none, he⟩, ⟨_, hit, rfl, rfl⟩, Nat.succ_ne_self _⟩, fin, q⟩

/-! ### walks -/
/-- what a walk yields: these, however the heap has grown -/
def rIt (c : Cn) : RR (List D) It := fun A S H ds J => ∀ A' S' H', Rel c.K A' S' H' → Fr A S H A' S' H' →
  (∀ i, i < ds.length → J.go i H') ∧ J.stop ds.length H' ∧
    ∀ i x H'', i < ds.length → J.yld i H' x H'' → ∃ d, ds[i]? = some d ∧ Rel c.K A' S' H'' ∧ Stp A' S' H' A' S' H'' ∧ RP c.K (Live A' S') H'' d x
abbrev IM := Ev → Store → Res (List D)
def tI (c : Cn) (f : IM) : TI := fun σ H R => ∃ A S σd, Rel c.K A S H ∧ RE c.K c.hx A (Live A S) H σd σ ∧ Post c (rIt c) σ A S H R (f σd S)
structure DI (X : Cx) (hx : Hx) (tg iter : Expr) (f : IM) : Prop where
  run : ∀ W, Takes X W → PI X tg iter (tI ⟨X.K, hx, W⟩ f)
theorem PIimp {X : Cx} {tg e : Expr} {t t' : TI} (h : PI X tg e t) (i : ∀ σ H Q, t' σ H Q → t σ H Q) : PI X tg e t' := ⟨fun pins s σ H Q I q => h.run pins s σ H Q I (i σ H Q q)⟩
/-- the items of a list, a tuple (let alone from then on), the signs of a text -/
def itemsOf : D → Option (List D)
  | .lst l => some l
  | .fls l => some l
  | .tup l => some l
  | .str x => some (x.cps.toList.map fun c => .str ⟨#[c]⟩)
  | _ => none
def optI (S : Store) : Option (List D) → Res (List D)
  | some l => .ok l S
  | none => .bad
def iVal (f : EM) : IM := fun σd S => (f σd S).bind fun d S1 => (fz1 S1 d).bind fun x S2 => optI S2 (itemsOf x)
theorem optI_ok {c : Cn} {σ : L2.St} {A : Ads} {S : Store} {H : Hp} {R : It → Hp → Prop} {o : Option (List D)} (p : Post c (rIt c) σ A S H R (optI S o)) : ∃ d, o = some d ∧ Post c (rIt c) σ A S H R (.ok d S) := by
  cases o with
  | none => exact p.elim
  | some d => exact ⟨d, rfl, p⟩
section
variable {c : Cn} {A : Ads} {S : Store} {H : Hp} {ds : List D} {vs : List V} {a : Addr}
theorem it_at {α : Type} {l : List α} {i : Nat} (h : i < l.length) : ∃ x, l[i]? = some x := ⟨_, List.getElem?_eq_getElem h⟩
theorem it_list (R0 : Rel c.K A S H) (hl : ∀ A' S' H', Rel c.K A' S' H' → Fr A S H A' S' H' → SqL c.K H' a vs) (r : RPs c.K (Live A S) H ds vs) : rIt c A S H ds (Itl c.K a) := by
  intro A' S' H' R' T
  have q := hl A' S' H' R' T
  have r' := r.fr R0 T
  refine ⟨fun i hi => ?_, ⟨vs, q, by rw [r.len]; exact Nat.le_refl _⟩, fun i x H'' hi y => ?_⟩
  · obtain ⟨x, hx⟩ := it_at (l := vs) (by rw [← r.len]; exact hi)
    exact ⟨vs, x, q, hx⟩
  · obtain ⟨rfl, y⟩ := y
    obtain ⟨d, hd⟩ := it_at hi
    obtain ⟨v, hv, rd⟩ := r'.get hd
    have e := y vs q
    rw [hv] at e
    cases e
    exact ⟨d, hd, R', .refl, rd⟩
theorem it_tup (R0 : Rel c.K A S H) (h : SqT c.K H a vs) (r : RPs c.K (Live A S) H ds vs) : rIt c A S H ds (Itt c.K a) := by
  intro A' S' H' R' T
  have q := T.sqT R0 h
  have r' := r.fr R0 T
  refine ⟨fun i hi => ?_, ⟨vs, q, by rw [r.len]; exact Nat.le_refl _⟩, fun i x H'' hi y => ?_⟩
  · obtain ⟨x, hx⟩ := it_at (l := vs) (by rw [← r.len]; exact hi)
    exact ⟨vs, x, q, hx⟩
  · obtain ⟨rfl, y⟩ := y
    obtain ⟨d, hd⟩ := it_at hi
    obtain ⟨v, hv, rd⟩ := r'.get hd
    have e := y vs q
    rw [hv] at e
    cases e
    exact ⟨d, hd, R', .refl, rd⟩
def numbered (i : Nat) : List D → List D
  | [] => []
  | d :: ds => .tup [.int (i : Nat), d] :: numbered (i + 1) ds
theorem numbered_len : ∀ (i : Nat) (ds : List D), (numbered i ds).length = ds.length
  | _, [] => rfl
  | i, d :: ds => by simp [numbered, numbered_len (i + 1) ds]
theorem numbered_get : ∀ (k i : Nat) (ds : List D) (d : D), ds[i]? = some d → (numbered k ds)[i]? = some (.tup [.int ((k + i : Nat) : Int), d])
  | _, _, [], _, h => by simp at h
  | k, 0, x :: ds, d, h => by simp at h; subst h; simp [numbered]
  | k, i + 1, x :: ds, d, h => by
    have := numbered_get (k + 1) i ds d (by simpa using h)
    simp only [numbered, List.getElem?_cons_succ, this]
    have e : k + 1 + i = k + (i + 1) := by omega
    rw [e]
theorem pair_new {T : Addr} {i : Int} {x : V} {d : D} {lv : Addr → Prop} (R : Rel c.K A S H) (h : H T = none) (r : RP c.K (Live A S) H d x) :
    Rel c.K A S (upd H T (.tup [.int i, x])) ∧ Stp A S H A S (upd H T (.tup [.int i, x])) ∧ RP c.K (Live A S) (upd H T (.tup [.int i, x])) (.tup [.int i, d]) (.ref T) :=
  ⟨R.new h, Stp.new h, .tup (SqT.of upd_same) (.cons (.int i) (.cons (r.fr R (Fr.upd_new h)) .nil))⟩
theorem it_enumL (R0 : Rel c.K A S H) (hl : ∀ A' S' H', Rel c.K A' S' H' → Fr A S H A' S' H' → SqL c.K H' a vs) (r : RPs c.K (Live A S) H ds vs) : rIt c A S H (numbered 0 ds) (Ite c.K a) := by
  intro A' S' H' R' T
  have q := hl A' S' H' R' T
  have r' := r.fr R0 T
  rw [numbered_len]
  refine ⟨fun i hi => ?_, ⟨vs, q, by rw [r.len]; exact Nat.le_refl _⟩, fun i x H'' hi y => ?_⟩
  · obtain ⟨x, hx⟩ := it_at (l := vs) (by rw [← r.len]; exact hi)
    exact ⟨vs, x, q, hx⟩
  · obtain ⟨T, x, rfl, hT, rfl, y⟩ := y
    obtain ⟨d, hd⟩ := it_at hi
    obtain ⟨v, hv, rd⟩ := r'.get hd
    have e := y vs q
    rw [hv] at e
    cases e
    have := numbered_get 0 i ds d hd
    rw [Nat.zero_add] at this
    exact ⟨_, this, pair_new (lv := Live A' S') R' hT rd⟩
theorem it_enumT (R0 : Rel c.K A S H) (h : SqT c.K H a vs) (r : RPs c.K (Live A S) H ds vs) : rIt c A S H (numbered 0 ds) (IteT c.K a) := by
  intro A' S' H' R' T
  have q := T.sqT R0 h
  have r' := r.fr R0 T
  rw [numbered_len]
  refine ⟨fun i hi => ?_, ⟨vs, q, by rw [r.len]; exact Nat.le_refl _⟩, fun i x H'' hi y => ?_⟩
  · obtain ⟨x, hx⟩ := it_at (l := vs) (by rw [← r.len]; exact hi)
    exact ⟨vs, x, q, hx⟩
  · obtain ⟨T, x, rfl, hT, rfl, y⟩ := y
    obtain ⟨d, hd⟩ := it_at hi
    obtain ⟨v, hv, rd⟩ := r'.get hd
    have e := y vs q
    rw [hv] at e
    cases e
    have := numbered_get 0 i ds d hd
    rw [Nat.zero_add] at this
    exact ⟨_, this, pair_new (lv := Live A' S') R' hT rd⟩
theorem it_str {x : Str} : rIt c A S H (x.cps.toList.map fun c => D.str ⟨#[c]⟩) (Its x) := by
  intro A' S' H' R' T
  have hl : (x.cps.toList.map fun c => D.str ⟨#[c]⟩).length = x.cps.size := by simp
  rw [hl]
  refine ⟨fun i hi => hi, Nat.le_refl _, fun i v H'' hi y => ?_⟩
  obtain ⟨rfl, c', hc, rfl⟩ := y
  refine ⟨.str ⟨#[c']⟩, ?_, R', .refl, .str _⟩
  rw [List.getElem?_map, Array.getElem?_toList, hc]
  rfl
def rng (lo : Int) (n : Nat) : List D := (List.range n).map fun i : Nat => D.int (lo + i)
theorem it_rng {lo : Int} {n : Nat} : rIt c A S H (rng lo n) (Itr lo n) := by
  intro A' S' H' R' T
  have hl : (rng lo n).length = n := by simp [rng]
  rw [hl]
  refine ⟨fun i hi => hi, Nat.le_refl _, fun i v H'' hi y => ?_⟩
  obtain ⟨rfl, rfl⟩ := y
  refine ⟨.int (lo + i), ?_, R', .refl, .int _⟩
  simp [rng, hi]
def rngC (lo s : Int) (n : Nat) : List D := (List.range n).map fun i : Nat => D.int (lo + i * s)
theorem it_rngC {lo s : Int} {n : Nat} : rIt c A S H (rngC lo s n) (Itc lo s n) := by
  intro A' S' H' R' T
  have hl : (rngC lo s n).length = n := by simp [rngC]
  rw [hl]
  refine ⟨fun i hi => hi, Nat.le_refl _, fun i v H'' hi y => ?_⟩
  obtain ⟨rfl, rfl⟩ := y
  refine ⟨.int (lo + i * s), ?_, R', .refl, .int _⟩
  simp [rngC, hi]
/-- a list, let alone, is there for good -/
theorem lst_stays {l : List D} {lv : Addr → Prop} (R0 : Rel c.K A S H) (r : RP c.K (Live A S) H (.lst l) (.ref a)) (h : H a = some (.lst vs)) : ∀ A' S' H', Rel c.K A' S' H' → Fr A S H A' S' H' → SqL c.K H' a vs := by
  intro A' S' H' R' T
  cases r with
  | lst h0 h1 h2 => exact SqL.of (T.tr _ _ h0 h).2
theorem fl_stays (h : FL c.K (Live A S) H a vs) : ∀ A' S' H', Rel c.K A' S' H' → Fr A S H A' S' H' → SqL c.K H' a vs := fun A' S' H' R' T => (h.mono T.tr).sq
end
section
variable {X : Cx} {hx : Hx} {tg e : Expr} {fe : EM} {p pos : Pos}
/-- what walks over a value -/
theorem pi_any {tl : TE} (hl : PE X e tl) : PI X tg e (fun σ H R => tl σ H fun x H1 => (∃ a xs, x = .ref a ∧ SqL X.K H1 a xs ∧ R (Itl X.K a) H1) ∨ (∃ a xs, x = .ref a ∧ SqT X.K H1 a xs ∧ R (Itt X.K a) H1) ∨ ∃ y, x = .str y ∧ R (Its y) H1) := by
  refine ⟨fun pins s σ H R I h => ?_⟩
  refine thn (hl.run pins s σ H _ I h) fun v s1 ⟨x, H1, I1, r1, q1⟩ => ?_
  rcases q1 with ⟨a, xs, e, hq, q⟩ | ⟨a, xs, e, hq, q⟩ | ⟨y, e, q⟩
  · subst e
    cases r1
    obtain ⟨its, rv, p, hz⟩ := I1.list hq
    refine wpAny_pyIter_list p.isList ?_
    refine ⟨s1.heap.objs.size, [s1.heap.objs.size], _, _, H1, rfl, I1.kept (t' := s1.toks) fun b o e => Heap.get?_push_of_some _ e, turn_list a _, ⟨_, Heap.get?_push_size _ rfl, rfl, rfl⟩, fun b hb => ?_, q⟩
    have e : b = s1.heap.objs.size := by simpa using hb
    subst e
    exact I1.fpOk (Nat.le_refl _) (I1.hok.fresh (Nat.le_refl _))
  · subst e
    cases r1
    obtain ⟨its, rv, p, hz⟩ := I1.tuple hq
    refine wpAny_pyIter_tuple (show s1.heap.IsTuple a its.toArray from p) ?_
    refine ⟨s1.heap.objs.size, [s1.heap.objs.size], _, _, H1, rfl, I1.kept (t' := s1.toks) fun b o e => Heap.get?_push_of_some _ e, turn_tuple a _, ⟨_, Heap.get?_push_size _ rfl, rfl, rfl⟩, fun b hb => ?_, q⟩
    have e : b = s1.heap.objs.size := by simpa using hb
    subst e
    exact I1.fpOk (Nat.le_refl _) (I1.hok.fresh (Nat.le_refl _))
  · subst e
    obtain ⟨t, rfl⟩ := r1
    cases ha : y.cps.all (· < 128)
    · exact wpAny_pyIter_wide ha (pi_one (tk := s1.toks) I1 _ (turn_str _ y t "str_iterator" (.inr rfl)) ⟨_, Heap.get?_push_size _ rfl, rfl, rfl⟩ q)
    · exact wpAny_pyIter_ascii ha (pi_one (tk := s1.toks) I1 _ (turn_str _ y t "str_ascii_iterator" (.inl rfl)) ⟨_, Heap.get?_push_size _ rfl, rfl, rfl⟩ q)
theorem di_val (h : DE X hx e fe) : DI X hx tg e (iVal fe) := ⟨fun W tk => PIimp (pi_any (h.run W tk)) fun σ H Q ⟨A, S, σd, R, E, p⟩ => ⟨A, S, σd, R, E, (Post.bind (R1 := rV _) p).mono fun v H1 ⟨A1, S1, d, R1, T1, r1, p1⟩ => by
    obtain ⟨x, S2, R2, T2, r2, p2⟩ := Post.fz1 R1 r1 p1
    obtain ⟨l, e, p3⟩ := optI_ok p2
    cases x with
    | lst l' =>
      cases e
      cases r2 with
      | lst h0 h1 h2 => exact .inl ⟨_, _, rfl, SqL.of h1, p3 A1 H1 _ R2 .refl (it_list (c := ⟨X.K, hx, W⟩) R2 (lst_stays (lv := Live A1 S2) R2 (.lst h0 h1 h2) h1) h2)⟩
    | fls l' =>
      cases e
      cases r2 with
      | fls h1 h2 => exact .inl ⟨_, _, rfl, h1.sq, p3 A1 H1 _ R2 .refl (it_list (c := ⟨X.K, hx, W⟩) R2 (fl_stays (c := ⟨X.K, hx, W⟩) h1) h2)⟩
    | tup l' =>
      cases e
      cases r2 with
      | tup h1 h2 => exact .inr (.inl ⟨_, _, rfl, h1, p3 A1 H1 _ R2 .refl (it_tup (c := ⟨X.K, hx, W⟩) R2 h1 h2)⟩)
    | str y =>
      cases e
      cases r2
      exact .inr (.inr ⟨y, rfl, p3 A1 H1 _ R2 .refl it_str⟩)
    | _ => cases e⟩⟩
/-- range -/
def iRng1 (g : AM) : IM := fun σd S => (g σd S).bind fun ds S1 => match ds with
  | [.d (.int j)] => if -(2 ^ 62) ≤ j ∧ j < 2 ^ 62 then .ok (rng 0 j.toNat) S1 else .bad
  | _ => .bad
def iRng2 (g : AM) : IM := fun σd S => (g σd S).bind fun ds S1 => match ds with
  | [.d (.int i), .d (.int j)] => if -(2 ^ 62) ≤ i ∧ i < 2 ^ 62 ∧ -(2 ^ 62) ≤ j ∧ j < 2 ^ 62 then .ok (rng i (j - i).toNat) S1 else .bad
  | _ => .bad
def iRng3 (g : AM) : IM := fun σd S => (g σd S).bind fun ds S1 => match ds with
  | [.d (.int i), .d (.int j), .d (.int s)] => if s ≠ 0 ∧ s.natAbs < 1073741824 ∧ Builtin.Range.small i j s = true ∧ 0 ≤ Builtin.Range.rangeSize i j s then .ok (rngC i s (Builtin.Range.rangeSize i j s).toNat) S1 else .bad
  | _ => .bad
theorem rv_int {c : Cn} {A : Ads} {S : Store} {H : Hp} {i : Int} {v : V} (h : rV c A S H (.d (.int i)) v) : v = .int i := by
  have h : RP c.K (Live A S) H (.int i) v := h
  cases h; rfl
theorem di_rng1 {a : Expr} {g : AM} (hm : X.mg "range" = none) (ha : DA X hx [a] g) (hg : Gl X "range" := by rfl) (hs : starEach [a] X.env = [(false, eval a X.env)] := by rfl) : DI X hx tg (.Call (.Name "range" p) [a] [] pos) (iRng1 g) :=
  ⟨fun W tk => PIimp (pi_range1 hg hm (ha.run W tk) hs) fun σ H Q ⟨A, S, σd, R, E, p⟩ => ⟨A, S, σd, R, E, (Post.bind (R1 := rVs _) p).mono fun vs H1 ⟨A1, S1, ds, R1, T1, r1, p1⟩ => by
    split at p1
    · rename_i j
      obtain ⟨⟨z1, z2⟩, p1⟩ := Post.iteP p1
      obtain ⟨v, rfl, r2⟩ := rvs1 r1
      obtain rfl := rv_int r2
      exact ⟨j, rfl, z1, z2, p1 A1 H1 _ R1 .refl it_rng⟩
    · exact p1.elim⟩⟩
theorem di_rng2 {a b : Expr} {g : AM} (hm : X.mg "range" = none) (ha : DA X hx [a, b] g) (hg : Gl X "range" := by rfl) (hs : starEach [a, b] X.env = [(false, eval a X.env), (false, eval b X.env)] := by rfl) (hs2 : starEach [b] X.env = [(false, eval b X.env)] := by rfl) :
    DI X hx tg (.Call (.Name "range" p) [a, b] [] pos) (iRng2 g) :=
  ⟨fun W tk => PIimp (pi_range2 hg hm (ha.run W tk) hs hs2) fun σ H Q ⟨A, S, σd, R, E, p⟩ => ⟨A, S, σd, R, E, (Post.bind (R1 := rVs _) p).mono fun vs H1 ⟨A1, S1, ds, R1, T1, r1, p1⟩ => by
    split at p1
    · rename_i i j
      obtain ⟨hz, p1⟩ := Post.iteP p1
      obtain ⟨v, u, rfl, r2, r3⟩ := rvs2 r1
      obtain rfl := rv_int r2
      obtain rfl := rv_int r3
      exact ⟨i, j, rfl, hz, p1 A1 H1 _ R1 .refl it_rng⟩
    · exact p1.elim⟩⟩
theorem rvs3 {c : Cn} {A : Ads} {S : Store} {H : Hp} {d e f : Wt} {vs : List V} (h : rVs c A S H [d, e, f] vs) : ∃ v u w, vs = [v, u, w] ∧ rV c A S H d v ∧ rV c A S H e u ∧ rV c A S H f w := by
  cases h with
  | cons r t =>
    obtain ⟨u, w, rfl, r', r''⟩ := rvs2 t
    exact ⟨_, _, _, rfl, r, r', r''⟩
theorem di_rng3 {a b c : Expr} {g : AM} (hm : X.mg "range" = none) (ha : DA X hx [a, b, c] g) (hg : Gl X "range" := by rfl)
    (hs : starEach [a, b, c] X.env = (false, eval a X.env) :: starEach [b, c] X.env := by rfl) (hpl : (backTo pos (starEach [b, c] X.env)).any (·.1) = false := by rfl) :
    DI X hx tg (.Call (.Name "range" p) [a, b, c] [] pos) (iRng3 g) :=
  ⟨fun W tk => PIimp (pi_range3 hg hm (ha.run W tk) hs hpl) fun σ H Q ⟨A, S, σd, R, E, p⟩ => ⟨A, S, σd, R, E, (Post.bind (R1 := rVs _) p).mono fun vs H1 ⟨A1, S1, ds, R1, T1, r1, p1⟩ => by
    split at p1
    · rename_i i j s
      obtain ⟨⟨z1, z2, z3, z4⟩, p1⟩ := Post.iteP p1
      obtain ⟨v, u, w, rfl, r2, r3, r4⟩ := rvs3 r1
      obtain rfl := rv_int r2
      obtain rfl := rv_int r3
      obtain rfl := rv_int r4
      exact ⟨i, j, s, _, rfl, ⟨z1, z2, z3, by omega⟩, p1 A1 H1 _ R1 .refl it_rngC⟩
    · exact p1.elim⟩⟩
/-- enumerate -/
def optE (S : Store) : D → Res (List D)
  | .lst l => .ok (numbered 0 l) S
  | .fls l => .ok (numbered 0 l) S
  | .tup l => .ok (numbered 0 l) S
  | _ => .bad
def iEnu (g : AM) : IM := fun σd S => (g σd S).bind fun ds S1 => match ds with
  | [d] => (fz1 S1 d).bind fun x S2 => optE S2 x
  | _ => .bad
theorem di_enu {a : Expr} {g : AM} {elts : List Expr} {kk : Nat} {tpos : Pos} (hm : X.mg "enumerate" = none) (ha : DA X hx [a] g) (hg : Gl X "enumerate" := by rfl) (hs : starEach [a] X.env = [(false, eval a X.env)] := by rfl) :
    DI X hx (.Tuple elts kk tpos) (.Call (.Name "enumerate" p) [a] [] pos) (iEnu g) :=
  ⟨fun W tk => PIimp (pi_enumA hg hm (ha.run W tk) hs) fun σ H Q ⟨A, S, σd, R, E, p⟩ => ⟨A, S, σd, R, E, (Post.bind (R1 := rVs _) p).mono fun vs H1 ⟨A1, S1, ds, R1, T1, r1, p1⟩ => by
    split at p1
    · obtain ⟨v, rfl, r2⟩ := rvs1 r1
      obtain ⟨x, S2, R2, T2, r2, p2⟩ := Post.fz1 R1 r2 p1
      cases x with
      | lst l' =>
        cases r2 with
        | lst h0 h1 h2 => exact ⟨_, _, rfl, .inl ⟨SqL.of h1, p2 A1 H1 _ R2 .refl (it_enumL (c := ⟨X.K, hx, W⟩) R2 (lst_stays (lv := Live A1 S2) R2 (.lst h0 h1 h2) h1) h2)⟩⟩
      | fls l' =>
        cases r2 with
        | fls h1 h2 => exact ⟨_, _, rfl, .inl ⟨h1.sq, p2 A1 H1 _ R2 .refl (it_enumL (c := ⟨X.K, hx, W⟩) R2 (fl_stays (c := ⟨X.K, hx, W⟩) h1) h2)⟩⟩
      | tup l' =>
        cases r2 with
        | tup h1 h2 => exact ⟨_, _, rfl, .inr ⟨h1, p2 A1 H1 _ R2 .refl (it_enumT (c := ⟨X.K, hx, W⟩) R2 h1 h2)⟩⟩
      | _ => exact p2.elim
    · exact p1.elim⟩⟩
end

/-! ### zip -/
def zipD : List D → List D → List D
  | d :: ds, e :: es => .tup [d, e] :: zipD ds es
  | _, _ => []
theorem zipD_len : ∀ (l m : List D), (zipD l m).length = min l.length m.length
  | [], m => by simp [zipD]
  | _ :: _, [] => by simp [zipD]
  | d :: l, e :: m => by simp [zipD, zipD_len l m, Nat.succ_min_succ]
theorem zipD_get : ∀ (l m : List D) (i : Nat) (d e : D), l[i]? = some d → m[i]? = some e → (zipD l m)[i]? = some (.tup [d, e])
  | [], _, _, _, _, h, _ => by simp at h
  | _ :: _, [], _, _, _, _, h => by simp at h
  | a :: l, b :: m, 0, d, e, h1, h2 => by simp at h1 h2; simp [zipD, h1, h2]
  | a :: l, b :: m, i + 1, d, e, h1, h2 => by simpa [zipD] using zipD_get l m i d e (by simpa using h1) (by simpa using h2)
section
variable {c : Cn} {A : Ads} {S : Store} {H : Hp} {ds es : List D} {vs us : List V} {a b : Addr}
theorem pair_new2 {T : Addr} {y x : V} {d e : D} (R : Rel c.K A S H) (h : H T = none) (re : RP c.K (Live A S) H e y) (r : RP c.K (Live A S) H d x) :
    Rel c.K A S (upd H T (.tup [y, x])) ∧ Stp A S H A S (upd H T (.tup [y, x])) ∧ RP c.K (Live A S) (upd H T (.tup [y, x])) (.tup [e, d]) (.ref T) :=
  ⟨R.new h, Stp.new h, .tup (SqT.of upd_same) (.cons (re.fr R (Fr.upd_new h)) (.cons (r.fr R (Fr.upd_new h)) .nil))⟩
theorem it_zipL (R0 : Rel c.K A S H) (hl : ∀ A' S' H', Rel c.K A' S' H' → Fr A S H A' S' H' → SqL c.K H' a vs) (hm : ∀ A' S' H', Rel c.K A' S' H' → Fr A S H A' S' H' → SqL c.K H' b us)
    (r : RPs c.K (Live A S) H ds vs) (re : RPs c.K (Live A S) H es us) : rIt c A S H (zipD ds es) (Itz c.K a b) := by
  intro A' S' H' R' T
  have q := hl A' S' H' R' T
  have q2 := hm A' S' H' R' T
  have r' := r.fr R0 T
  have re' := re.fr R0 T
  have l1 := r.len
  have l2 := re.len
  rw [zipD_len]
  refine ⟨fun i hi => ?_, ⟨vs, us, q, q2, by omega⟩, fun i x H'' hi y => ?_⟩
  · obtain ⟨x, hx⟩ := it_at (l := vs) (i := i) (by omega)
    obtain ⟨y, hy⟩ := it_at (l := us) (i := i) (by omega)
    exact ⟨vs, us, x, y, q, q2, hx, hy⟩
  · obtain ⟨T, x, y, rfl, hT, rfl, e1, e2⟩ := y
    obtain ⟨d, hd⟩ := it_at (l := ds) (i := i) (by omega)
    obtain ⟨e, he⟩ := it_at (l := es) (i := i) (by omega)
    obtain ⟨v, hv, rd⟩ := r'.get hd
    obtain ⟨u, hu, ru⟩ := re'.get he
    have e1 := e1 vs q
    have e2 := e2 us q2
    rw [hv] at e1
    rw [hu] at e2
    cases e1
    cases e2
    exact ⟨_, zipD_get _ _ _ _ _ hd he, pair_new2 R' hT rd ru⟩
theorem it_zipT (R0 : Rel c.K A S H) (hl : SqT c.K H a vs) (hm : SqT c.K H b us)
    (r : RPs c.K (Live A S) H ds vs) (re : RPs c.K (Live A S) H es us) : rIt c A S H (zipD ds es) (RZ.ItzT c.K a b) := by
  intro A' S' H' R' T
  have q := T.sqT R0 hl
  have q2 := T.sqT R0 hm
  have r' := r.fr R0 T
  have re' := re.fr R0 T
  have l1 := r.len
  have l2 := re.len
  rw [zipD_len]
  refine ⟨fun i hi => ?_, ⟨vs, us, q, q2, by omega⟩, fun i x H'' hi y => ?_⟩
  · obtain ⟨x, hx⟩ := it_at (l := vs) (i := i) (by omega)
    obtain ⟨y, hy⟩ := it_at (l := us) (i := i) (by omega)
    exact ⟨vs, us, x, y, q, q2, hx, hy⟩
  · obtain ⟨T, x, y, rfl, hT, rfl, e1, e2⟩ := y
    obtain ⟨d, hd⟩ := it_at (l := ds) (i := i) (by omega)
    obtain ⟨e, he⟩ := it_at (l := es) (i := i) (by omega)
    obtain ⟨v, hv, rd⟩ := r'.get hd
    obtain ⟨u, hu, ru⟩ := re'.get he
    have e1 := e1 vs q
    have e2 := e2 us q2
    rw [hv] at e1
    rw [hu] at e2
    cases e1
    cases e2
    exact ⟨_, zipD_get _ _ _ _ _ hd he, pair_new2 R' hT rd ru⟩
end
def optZ (S : Store) : D → D → Res (List D)
  | .lst l, .lst m => .ok (zipD l m) S
  | .tup l, .tup m => .ok (zipD l m) S
  | _, _ => .bad
def iZip (g : AM) : IM := fun σd S => (g σd S).bind fun ds S1 => match ds with
  | [d, e] => (fz1 S1 d).bind fun x S2 => (fz1 S2 e).bind fun y S3 => optZ S3 x y
  | _ => .bad
section
variable {X : Cx} {hx : Hx} {p pos : Pos}
theorem di_zip {a b : Expr} {g : AM} {elts : List Expr} {kk : Nat} {tpos : Pos} (hm : X.mg "zip" = none) (ha : DA X hx [a, b] g) (hg : Gl X "zip" := by rfl)
    (hs : starEach [a, b] X.env = (false, eval a X.env) :: starEach [b] X.env := by rfl) (hpl : (backTo pos (starEach [b] X.env)).any (·.1) = false := by rfl) :
    DI X hx (.Tuple elts kk tpos) (.Call (.Name "zip" p) [a, b] [] pos) (iZip g) :=
  ⟨fun W tk => PIimp (RZ.pi_zipA hg hm (ha.run W tk) hs hpl) fun σ H Q ⟨A, S, σd, R, E, p⟩ => ⟨A, S, σd, R, E, (Post.bind (R1 := rVs _) p).mono fun vs H1 ⟨A1, S1, ds, R1, T1, r1, p1⟩ => by
    split at p1
    · obtain ⟨v, u, rfl, r2, r3⟩ := rvs2 r1
      obtain ⟨x, S2, R2, T2, r2, p2⟩ := Post.fz1 R1 r2 p1
      obtain ⟨y, S3, R3, T3, r3, p3⟩ := Post.fz1 R2 (r3.step R1 T2) p2
      have r2 := r2.fr R2 T3.fr
      unfold optZ at p3
      split at p3
      · cases r2 with
        | lst h0 h1 h2 =>
          cases r3 with
          | lst g0 g1 g2 => exact ⟨_, _, _, _, rfl, .inl ⟨SqL.of h1, SqL.of g1, p3 A1 H1 _ R3 .refl (it_zipL (c := ⟨X.K, hx, W⟩) R3 (lst_stays (lv := Live A1 S3) R3 (.lst h0 h1 h2) h1) (lst_stays (lv := Live A1 S3) R3 (.lst g0 g1 g2) g1) h2 g2)⟩⟩
      · cases r2 with
        | tup h1 h2 =>
          cases r3 with
          | tup g1 g2 => exact ⟨_, _, _, _, rfl, .inr ⟨h1, g1, p3 A1 H1 _ R3 .refl (it_zipT (c := ⟨X.K, hx, W⟩) R3 h1 g1 h2 g2)⟩⟩
      · exact p3.elim
    · exact p1.elim⟩⟩
end

/-! ### for -/
def forN (g : GM) (f : SM) : List D → SM
  | [] => fun _ σd S => .nx σd S
  | d :: ds => fun b σd S => (g (.d d) σd S).toS σd fun σ1 S1 => match f b σ1 S1 with
    | .nx σ2 S2 => forN g f ds b σ2 S2
    | .ct σ2 S2 => forN g f ds b σ2 S2
    | .bk σ2 S2 => .nx σ2 S2
    | r => r
def sFor (w : IM) (g : GM) (f : SM) : SM := fun b σd S => (w σd S).toS σd fun ds S1 => forN g f ds b σd S1
section
variable {X : Cx} {hx : Hx} {tg iter : Expr} {body : List Stmt} {pos : Pos} {w : IM} {g : GM} {f : SM} {is : List Nat}
theorem drop_cons {α : Type} {l : List α} {i : Nat} {d : α} (h : l[i]? = some d) : l.drop i = d :: l.drop (i + 1) := by
  obtain ⟨hl, rfl⟩ := List.getElem?_eq_some_iff.mp h
  exact List.drop_eq_getElem_cons hl
theorem ds_for (hp : PassesOwn (model X.prog X.w) X.A X.env X.xe) (hc : X.calm = true) (hi : DI X hx tg iter w) (hg : DG X hx tg is g) (hb : DB X hx body f)
    (hs : ∀ x, foldedSetIterable iter X.env x = pure x := by intro _; rfl) : DS X hx (.For tg iter body [] pos) (sFor w g f) := ⟨fun W tk => PSimp (ps_for hp hc (hi.run W tk) (hg.run W tk) (hb.run W tk) hs) fun σ H D ⟨b0, A0, S0, H0, A, S, σd, R0, T, R, E, p⟩ => by
  refine ⟨A, S, σd, R, E, (Post.ofS (R1 := rIt _) R T E p).mono fun J H1 ⟨A1, S1, ds, R1, T1, E1, j1, p1⟩ => ?_⟩
  let Pn : List Y.D → L2.St → Hp → Prop := fun l σ H => ∃ A S σd, Stp A1 S1 H1 A S H ∧ Rel X.K A S H ∧ RE X.K hx A (Live A S) H σd σ ∧ SPost ⟨X.K, hx, W⟩ A1 S1 H1 D (forN g f l b0 σd S)
  refine ⟨fun i m σ H => i + m = ds.length ∧ Pn (ds.drop i) σ H, ⟨ds.length, Nat.zero_add _, A1, S1, σd, .refl, R1, E1, SPost.shift T1 p1⟩, ?_⟩
  rintro i m σ H ⟨hm, A, S, σd, T, R, E, p⟩
  obtain ⟨go, stop, yld⟩ := j1 A S H R T.fr
  by_cases hlt : i < ds.length
  · refine .inr ⟨go i hlt, fun σ' H' => Pn (ds.drop (i + 1)) σ' H', fun σ' H' h => ⟨m - 1, by omega, by omega, h⟩, fun x H' y => ?_⟩
    obtain ⟨d, hd, R2, T2, r2⟩ := yld i x H' hlt y
    rw [drop_cons hd] at p
    refine ⟨A, S, σd, .d d, R2, E.step R T2, RV.of r2, (Post.ofS (R1 := rEv _ is σ) R2 (T.trans T2) (E.step R T2) p).mono fun σ3 H3 ⟨A3, S3, σd3, R3, T3, _, ⟨E3, _⟩, p3⟩ => ?_⟩
    refine ⟨b0, A1, S1, H1, A3, S3, σd3, R1, T3, R3, E3, ?_⟩
    cases q : f b0 σd3 S3 with
    | nx σd' S' => rw [q] at p3; exact fun A' H' σ' R' T' E' => ⟨A', S', σd', T', R', E', p3⟩
    | ct σd' S' => rw [q] at p3; exact fun A' H' σ' R' T' E' => ⟨A', S', σd', T', R', E', p3⟩
    | rt d S' => rw [q] at p3; exact p3
    | bk σd' S' => rw [q] at p3; exact p3
    | exc C ns l σd' S' => rw [q] at p3; exact p3
    | bad => rw [q] at p3; exact p3
  · have e : i = ds.length := by omega
    subst e
    rw [List.drop_length] at p
    exact .inl ⟨stop, p A H σ R T E⟩⟩
end
end Y
end
section
/-! Y12: list comprehensions. -/
namespace Y
open PySem PySem.Spec PyProof.Rows L2

def wipeD (σ : Ev) : List Nat → Ev
  | [] => σ
  | v :: vs => (wipeD σ vs).set v none
theorem wipeD_length (σ : Ev) : ∀ vs : List Nat, (wipeD σ vs).length = σ.length
  | [] => rfl
  | v :: vs => by unfold wipeD; rw [List.length_set, wipeD_length σ vs]
theorem RE.wipe {K : PySem.W.Frag} {hx : Hx} {A : Ads} {lv : Addr → Prop} {H : Hp} {σd : Ev} {σ : L2.St} (h : RE K hx A lv H σd σ) : ∀ vs : List Nat, RE K hx A lv H (wipeD σd vs) (wipe σ vs)
  | [] => h
  | v :: vs => by
    have ih := RE.wipe h vs
    refine ⟨by rw [wipeD_length, wipe_length, h.len], fun j d e => ?_⟩
    unfold wipeD at e
    unfold L2.wipe
    by_cases hj : v = j
    · subst hj
      by_cases hl : v < (wipeD σd vs).length
      · rw [List.getElem?_set_self hl] at e; cases e
      · rw [List.getElem?_eq_none (by simpa using hl)] at e; cases e
    · rw [List.getElem?_set_ne hj] at e ⊢
      exact ih.at_ j d e
theorem wipe_at {σ : L2.St} {j : Nat} : ∀ {vs : List Nat}, (wipe σ vs)[j]? = if j ∈ vs then (if j < σ.length then some none else none) else σ[j]?
  | [] => by simp [L2.wipe]
  | v :: vs => by
    unfold L2.wipe
    by_cases hj : v = j
    · subst hj
      rw [if_pos (by simp)]
      by_cases hl : v < (wipe σ vs).length
      · rw [List.getElem?_set_self hl]
        rw [wipe_length] at hl
        rw [if_pos hl]
      · rw [List.getElem?_eq_none (by simpa using hl)]
        rw [wipe_length] at hl
        rw [if_neg hl]
    · rw [List.getElem?_set_ne hj, wipe_at (vs := vs)]
      have : (j ∈ v :: vs) ↔ j ∈ vs := by simp [Ne.symm hj]
      simp only [this]
theorem Same.wipe {is vs : List Nat} {σ0 σ : L2.St} (h : Same is σ0 σ) (hs : ∀ i ∈ is, i ∈ vs) : wipe σ vs = wipe σ0 vs := by
  apply List.ext_getElem?
  intro j
  rw [wipe_at, wipe_at, h.1]
  by_cases hj : j ∈ vs
  · rw [if_pos hj, if_pos hj]
  · rw [if_neg hj, if_neg hj]
    exact h.2 j fun z => hj (hs j z)
theorem wipe_wipe {σ : L2.St} {vs : List Nat} : wipe (wipe σ vs) vs = wipe σ vs := by
  apply List.ext_getElem?
  intro j
  rw [wipe_at (σ := wipe σ vs), wipe_length]
  by_cases hj : j ∈ vs
  · rw [if_pos hj, wipe_at, if_pos hj]
  · rw [if_neg hj]

structure DTs (X : Cx) (hx : Hx) (ifs : List Expr) (t : TM) : Prop where
  run : ∀ W, Takes X W → PTs X ifs (tT ⟨X.K, hx, W⟩ t)
def tYs : TM := fun _ S => .ok true S
theorem dts_nil {X : Cx} {hx : Hx} : DTs X hx [] tYs := ⟨fun W tk => ⟨fun pins s σ H Q I ⟨A, S, σd, R, E, p⟩ => pts_nil.run pins s σ H Q I (p.here R rfl)⟩⟩
theorem dts_one {X : Cx} {hx : Hx} {c : Expr} {t : TM} (h : DT X hx c t) : DTs X hx [c] t := ⟨fun W tk => pts_one (h.run W tk)⟩

def addC (n : Nat) (y : D) (S : Store) : Option Cell → Option Store
  | some (.lst acc) => if acc.length < lim then some ((S.set n (.lst (acc ++ [y]))).take (n + 1)) else none
  | _ => none
/-- the turns; the new list is the n-th cell -/
def lcN (g : GM) (t : TM) (e : EM) (σw : Ev) (n : Nat) : List D → Store → Option Store
  | [], S => some S
  | d :: ds, S => match g (.d d) σw S with
    | .ok σ2 S2 => match t σ2 S2 with
      | .ok true S3 => match e σ2 S3 with
        | .ok w S4 => match fz1 S4 w with
          | .ok y S5 => match addC n y S5 S5[n]? with
            | some S6 => lcN g t e σw n ds S6
            | none => none
          | _ => none
        | _ => none
      | .ok false S3 => lcN g t e σw n ds (S3.take (n + 1))
      | _ => none
    | _ => none
def optS (o : Option Store) (k : Store → Res Wt) : Res Wt := match o with
  | some S => k S
  | none => .bad
def finV (n : Nat) (S : Store) : Res Wt := match S[n]? with
  | some (.lst acc) => .ok (.d (.lst acc)) (S.take n)
  | _ => .bad
def finL (n : Nat) (S : Store) : Res Wt := .ok (.loc n) S
def eLcG (fin : Nat → Store → Res Wt) (w : IM) (g : GM) (t : TM) (e : EM) (vs : List Nat) : EM := fun σd S => (w σd S).bind fun ds S1 => optS (lcN g t e (wipeD σd vs) S1.length ds (S1 ++ [.lst []])) (fin S1.length)
abbrev eLc := eLcG finV
abbrev eLcL := eLcG finL
def FinOk (fin : Nat → Store → Res Wt) : Prop := ∀ (c : Cn) (σ : L2.St) (A1 A : Ads) (S1 S : Store) (H1 H : Hp) (D : Addr) (Q : VK), Rel c.K A1 S1 H1 → Rel c.K A S H → Stp A1 S1 H1 A S H → A[S1.length]? = some (some D) → Post c (rV c) σ A1 S1 H1 Q (fin S1.length S) → Q (.ref D) H
theorem finL_ok : FinOk finL := fun c σ A1 A S1 S H1 H D Q R1 R T hA p => p A H _ R T ⟨D, hA, rfl⟩
theorem finV_ok : FinOk finV := fun c σ A1 A S1 S H1 H D Q R1 R T hA p => by
  unfold finV at p
  split at p
  · rename_i acc e
    have fz : fz1 S (.loc S1.length) = .ok (.lst acc) (S.set S1.length (.frz (.lst acc))) := by
      show fzC S S1.length S[S1.length]? = _
      rw [e]
      rfl
    obtain ⟨R2, T2, r2⟩ := fz1_ok (hx := hx0) (d := .loc S1.length) (v := .ref D) R ⟨D, hA, rfl⟩ fz
    have e2 : (S.set S1.length (.frz (.lst acc))).take S1.length = S.take S1.length := by
      rw [List.take_set_of_le (Nat.le_refl _)]
    have R3 := R2.take S1.length
    have T3 := (T.trans T2).take R1
    rw [e2] at R3 T3
    refine p _ H _ R3 T3 ?_
    have := RP.fr R2 (Fr.take S1.length) r2
    rw [e2] at this
    exact RV.of this
  · exact p.elim
theorem takes_no {X : Cx} : Takes X (fun _ _ _ _ => False) := fun u s' ⟨a, B, sI, pins, σ, H, cls, d, e, I, nb, up, sky, na, os, ag, w⟩ => w.elim
abbrev cno (K : PySem.W.Frag) (hx : Hx) : Cn := ⟨K, hx, fun _ _ _ _ => False⟩
section
variable {K : PySem.W.Frag} {hx : Hx} {W : WX} {w : IM} {g : GM} {t : TM} {e : EM} {vs is : List Nat} {fin : Nat → Store → Res Wt}
theorem lc_of (fo : FinOk fin) (hs : ∀ i ∈ is, i ∈ vs) {σ : L2.St} {H : Hp} {Q : VK} (h : tE ⟨K, hx, W⟩ (eLcG fin w g t e vs) σ H Q) :
    tLc (tI ⟨K, hx, W⟩ w) (tG (cno K hx) is g) (tT (cno K hx) t) (tE (cno K hx) e) vs σ H Q := by
  obtain ⟨A, S, σd, R, E, p⟩ := h
  refine ⟨A, S, σd, R, E, (Post.bind (R1 := rIt ⟨K, hx, W⟩) p).mono fun J H1 ⟨A1, S1, ds, R1, T1, j1, p1⟩ => ?_⟩
  intro D hD
  cases hq : lcN g t e (wipeD σd vs) S1.length ds (S1 ++ [.lst []]) with
  | none => rw [hq] at p1; exact p1.elim
  | some Sf =>
    rw [hq] at p1
    have p1 : Post ⟨K, hx, W⟩ (rV ⟨K, hx, W⟩) σ A1 S1 H1 Q (fin S1.length Sf) := p1
    obtain ⟨Rb, Tb⟩ := Rel.alloc (c := .lst []) (o := .lst []) R1 hD ⟨[], upd_same, .nil⟩
    have hAb : (A1 ++ [some D])[S1.length]? = some (some D) := by rw [← R1.len]; simp
    have hlb : (S1 ++ [Cell.lst []]).length = S1.length + 1 := by simp
    have E1 := E.step R T1
    have Ew := (E1.step R1 Tb).wipe vs
    generalize hAe : A1 ++ [some D] = Ab at Rb Tb hAb Ew
    generalize hSe : S1 ++ [Cell.lst []] = Sb at Rb Tb hlb hq Ew
    generalize hHe : upd H1 D (.lst []) = Hb at Rb Tb Ew
    refine ⟨fun i m H => i + m = ds.length ∧ ∃ A S, Rel K A S H ∧ Stp Ab Sb Hb A S H ∧ lcN g t e (wipeD σd vs) S1.length (ds.drop i) S = some Sf, ⟨ds.length, Nat.zero_add _, Ab, Sb, Rb, .refl, hq⟩, ?_⟩
    rintro i m H ⟨hm, A, S, R, T, q⟩
    obtain ⟨go, stop, yld⟩ := j1 A S H R (Tb.trans T).fr
    by_cases hlt : i < ds.length
    · refine .inr ⟨go i hlt, fun H => i + 1 + (m - 1) = ds.length ∧ ∃ A S, Rel K A S H ∧ Stp Ab Sb Hb A S H ∧ lcN g t e (wipeD σd vs) S1.length (ds.drop (i + 1)) S = some Sf, fun H' h => ⟨m - 1, by omega, h⟩, fun x H' y => ?_⟩
      obtain ⟨d, hd, R2, T2, r2⟩ := yld i x H' hlt y
      rw [drop_cons hd] at q
      unfold lcN at q
      cases qg : g (.d d) (wipeD σd vs) S with
      | bad => rw [qg] at q; cases q
      | exc C ns l S' => rw [qg] at q; cases q
      | ok σ2d S2 =>
        rw [qg] at q
        dsimp only at q
        refine ⟨A, S, wipeD σd vs, .d d, R2, Ew.step Rb (T.trans T2), RV.of r2, ?_⟩
        rw [qg]
        intro A2 H2 σ2 R3 T3 ⟨E3, sm⟩
        refine ⟨by rw [sm.wipe hs, wipe_wipe], ?_⟩
        cases qt : t σ2d S2 with
        | bad => rw [qt] at q; cases q
        | exc C ns l S' => rw [qt] at q; cases q
        | ok b S3 =>
          rw [qt] at q
          refine ⟨A2, S2, σ2d, R3, E3, ?_⟩
          rw [qt]
          intro A3 H3 b' R4 T4 hb
          have hb : b = b' := hb
          subst hb
          have T' := ((T.trans T2).trans T3).trans T4
          cases b with
          | false =>
            rw [if_neg Bool.false_ne_true]
            dsimp only at q
            refine ⟨by omega, A3.take (S1.length + 1), S3.take (S1.length + 1), R4.take _, ?_, q⟩
            have := T'.take Rb
            rw [hlb] at this
            exact this
          | true =>
            rw [if_pos rfl]
            dsimp only at q
            cases qe : e σ2d S3 with
            | bad => rw [qe] at q; cases q
            | exc C ns l S' => rw [qe] at q; cases q
            | ok w4 S4 =>
              rw [qe] at q
              dsimp only at q
              refine ⟨A3, S3, σ2d, R4, E3.step R3 T4, ?_⟩
              rw [qe]
              intro A4 H4 y R5 T5 r5
              cases qf : fz1 S4 w4 with
              | bad => rw [qf] at q; cases q
              | exc C ns l S' => rw [qf] at q; cases q
              | ok yd S5 =>
                rw [qf] at q
                dsimp only at q
                obtain ⟨R6, T6, r6⟩ := fz1_ok R5 r5 qf
                have T'' := (T'.trans T5).trans T6
                have hA4 := T''.ext _ _ hAb
                obtain ⟨cl, u, hcl, hu, ok⟩ := R6.known hA4
                rw [hcl] at q
                cases cl with
                | lst acc =>
                  obtain ⟨us, h1, h2⟩ := ok
                  unfold addC at q
                  dsimp only at q
                  by_cases hz : acc.length < lim
                  · rw [if_pos hz] at q
                    dsimp only at q
                    obtain ⟨R7, T7⟩ := R6.putL hA4 hcl (h2.append (.one r6))
                    refine ⟨us, h1, by rw [← h2.len]; exact lim_lt hz, by omega, A4.take (S1.length + 1), _, R7.take _, ?_, q⟩
                    have := (T''.trans T7).take Rb
                    rw [hlb] at this
                    exact this
                  · rw [if_neg hz] at q; cases q
                | _ => cases q
    · have e : i = ds.length := by omega
      subst e
      rw [List.drop_length] at q
      cases q
      exact .inl ⟨stop, fo ⟨K, hx, W⟩ σ A1 A S1 _ H1 H D Q R1 R (Tb.trans T) (T.ext _ _ hAb) p1⟩
end
section
variable {X : Cx} {hx : Hx} {elt tg iter : Expr} {ifs : List Expr} {scope : Scope} {own : List (Str × Nat)} {pos : Pos} {w : IM} {g : GM} {t : TM} {e : EM} {is : List Nat} {fin : Nat → Store → Res Wt}
theorem d_lcG (fo : FinOk fin) (hc : X.calm = true) (hN : X.N.Nodup) (own : List (Str × Nat)) (hi : DI X hx tg iter w) (ok : BlkOk X.N X.env.scope scope own) (hs' : ∀ i ∈ is, i ∈ own.map (·.2))
    (hg : ∀ (s : Shared) (H : Hp) (C : Addr) (cl : List (Str × Addr)) (fp : List Addr), DG (X.blk s H scope (compEnvC scope cl C X.env) fp) hx tg is g)
    (ht : ∀ (s : Shared) (H : Hp) (C : Addr) (cl : List (Str × Addr)) (fp : List Addr), DTs (X.blk s H scope (compEnvC scope cl C X.env) fp) hx ifs t)
    (he : ∀ (s : Shared) (H : Hp) (C : Addr) (cl : List (Str × Addr)) (fp : List Addr), DE (X.blk s H scope (compEnvC scope cl C X.env) fp) hx elt e) (hs : ∀ x, foldedSetIterable iter X.env x = pure x := by intro _; rfl) :
    DE X hx (.ListComp elt [⟨tg, iter, ifs, 0⟩] scope pos) (eLcG fin w g t e (own.map (·.2))) :=
  ⟨fun W tk => PEimp (pe_lc hc hN (hi.run W tk) ok (fun s H C cl fp => (hg s H C cl fp).run _ takes_no) (fun s H C cl fp => (ht s H C cl fp).run _ takes_no) (fun s H C cl fp => (he s H C cl fp).run _ takes_no) hs) fun σ H Q h => lc_of fo hs' h⟩
theorem ds_setLcG {i : Nat} {y : Str} {py spos : Pos} (fo : FinOk fin) (hc : X.calm = true) (hN : X.N.Nodup) (own : List (Str × Nat)) (hi : DI X hx tg iter w) (ok : BlkOk X.N X.env.scope scope own) (hs' : ∀ i ∈ is, i ∈ own.map (·.2))
    (hg : ∀ (s : Shared) (H : Hp) (C : Addr) (cl : List (Str × Addr)) (fp : List Addr), DG (X.blk s H scope (compEnvC scope cl C X.env) fp) hx tg is g)
    (ht : ∀ (s : Shared) (H : Hp) (C : Addr) (cl : List (Str × Addr)) (fp : List Addr), DTs (X.blk s H scope (compEnvC scope cl C X.env) fp) hx ifs t)
    (he : ∀ (s : Shared) (H : Hp) (C : Addr) (cl : List (Str × Addr)) (fp : List Addr), DE (X.blk s H scope (compEnvC scope cl C X.env) fp) hx elt e)
    (hy : X.N[i]? = some y := by rfl) (hyl : X.env.scope.names.lookup y = some .local := by rfl)
    (hsw : swapsWith (.ListComp elt [⟨tg, iter, ifs, 0⟩] scope pos) (some (.Name y py)) spos.line X.env = pure true := by first | exact sw_true rfl rfl rfl rfl) (hs : ∀ x, foldedSetIterable iter X.env x = pure x := by intro _; rfl) :
    DS X hx (.Assign [.Name y py] (.ListComp elt [⟨tg, iter, ifs, 0⟩] scope pos) spos) (sSet i (eLcG fin w g t e (own.map (·.2)))) :=
  ⟨fun W tk => PSimp (ps_setLc hc hN hy hyl hsw (hi.run W tk) ok (fun s H C cl fp => (hg s H C cl fp).run _ takes_no) (fun s H C cl fp => (ht s H C cl fp).run _ takes_no) (fun s H C cl fp => (he s H C cl fp).run _ takes_no) hs) fun σ H D ⟨b0, A0, S0, H0, A, S, σd, R0, T, R, E, p⟩ =>
    lc_of (W := W) fo hs' ⟨A, S, σd, R, E, (Post.ofS (R1 := rV _) R T E p).mono fun v H1 ⟨A1, S1, d, R1, T1, E1, r1, p1⟩ => p1 A1 H1 _ R1 T1 (E1.set r1)⟩⟩
end
end Y
end
section
/-! Y13: calls with keywords, methods of texts, str(..), three names at once. -/
namespace Y
open PySem PySem.Spec PyProof.Rows L2

/-! ### keywords -/
def pick {α : Type} (perm : List Nat) (l : List α) : List α := perm.filterMap (l[·]?)
theorem Paired.at_ {α β : Type} {R : α → β → Prop} : ∀ {l : List α} {m : List β}, Paired R l m → ∀ i : Nat, (∃ a b, l[i]? = some a ∧ m[i]? = some b ∧ R a b) ∨ (l[i]? = none ∧ m[i]? = none)
  | _, _, .nil, i => .inr ⟨by simp, by simp⟩
  | _, _, .cons r _, 0 => .inl ⟨_, _, rfl, rfl, r⟩
  | _, _, .cons _ t, i + 1 => by simpa using Paired.at_ t i
theorem paired_pick {α β : Type} {R : α → β → Prop} {l : List α} {m : List β} (h : Paired R l m) : ∀ perm : List Nat, Paired R (pick perm l) (pick perm m)
  | [] => .nil
  | i :: perm => by
    have ih := paired_pick h perm
    unfold pick at ih ⊢
    rcases Paired.at_ h i with ⟨a, b, e1, e2, r⟩ | ⟨e1, e2⟩
    · rw [List.filterMap_cons_some e1, List.filterMap_cons_some e2]
      exact .cons r ih
    · rw [List.filterMap_cons_none e1, List.filterMap_cons_none e2]
      exact ih
theorem paired_app {α β : Type} {R : α → β → Prop} : ∀ {l l' : List α} {m m' : List β}, Paired R l m → Paired R l' m' → Paired R (l ++ l') (m ++ m')
  | _, _, _, _, .nil, h => h
  | _, _, _, _, .cons r t, h => .cons r (paired_app t h)
theorem vals_pick {l : List V} {m : List Value} (h : Vals l m) : ∀ perm : List Nat, Vals (pick perm l) (pick perm m) := fun perm => paired_pick h perm
theorem vals_app {l l' : List V} {m m' : List Value} (h : Vals l m) (h' : Vals l' m') : Vals (l ++ l') (m ++ m') := paired_app h h'
structure DK (X : Cx) (hx : Hx) (kws : List Keyword) (f : AM) : Prop where
  run : ∀ W, Takes X W → PK X kws (tA ⟨X.K, hx, W⟩ f)
/-- a def that stands at a name, called with keywords -/
structure FnKw (P : Program) (w : World) (K : PySem.W.Frag) (mg : Str → Option Value) (base : Heap) (x : Str) (k : Nat) (ps : List Str) (F : List Wt → Store → Res Wt) (n : Nat) (ks : List Str) (perm : List Nat) : Prop where
  is : ∃ f fd, mg x = some (.ref f) ∧ PySem.W.keepIn K (.ref f) = true ∧ KBn K fd ps n ks (fun us ws => pick perm (us ++ ws)) (fun vs zs => pick perm (vs ++ zs)) ∧ FnOk P w K mg base (L2.CX P w) k f fd ps (spOf K F)
theorem FnKw.mono {P : Program} {w : World} {K : PySem.W.Frag} {mg : Str → Option Value} {base : Heap} {x : Str} {k k' : Nat} {ps : List Str} {F : List Wt → Store → Res Wt} {n : Nat} {ks : List Str} {perm : List Nat} (h : FnKw P w K mg base x k ps F n ks perm) (l : k ≤ k') : FnKw P w K mg base x k' ps F n ks perm := by
  obtain ⟨f, fd, h1, h2, h3, h4⟩ := h.is
  exact ⟨f, fd, h1, h2, h3, h4.mono l⟩
theorem kbn_of {K : PySem.W.Frag} {x qual : Str} {params : Arguments} {body : List Stmt} {scope : Scope} {f : Addr} {fd : FuncData} {ps : List Str} {n : Nat} {ks : List Str} {perm : List Nat} (F : FunD K x qual params body scope [] [] f fd)
    (h : ∀ (kV doc pm : Value) (an : Option Addr) (cdv ct : Value) (us ws : List Value), us.length = n → ws.length = ks.length → bindArgs (PySem.W.fnOf x qual params body scope .none kV doc pm an cdv ct) ⟨us, ks.zip ws⟩ = pure (ps.zip (pick perm (us ++ ws)))) :
    KBn K fd ps n ks (fun us ws => pick perm (us ++ ws)) (fun vs zs => pick perm (vs ++ zs)) := by
  obtain ⟨oc, od, dV, kV, doc, pm, an, cdv, ct, osl, rfl, lk, hcd, hD, hK⟩ := F.ex
  rcases hD with ⟨_, rfl⟩ | ⟨e, _⟩
  · exact ⟨fun s us ws _ l1 l2 => .of_eq (h kV doc pm an cdv ct us ws l1 l2), fun r1 r2 => vals_pick (vals_app r1 r2) perm⟩
  · exact absurd rfl e
def eCK (F : List Wt → Store → Res Wt) (n m : Nat) (perm : List Nat) (g gk : AM) : EM := fun σd S => (g σd S).bind fun ds S1 => (gk σd S1).bind fun es S2 => if ds.length = n ∧ es.length = m then F (pick perm (ds ++ es)) S2 else .bad
section
variable {X : Cx} {hx : Hx} {x : Str} {k n : Nat} {ps ks : List Str} {perm : List Nat} {F : List Wt → Store → Res Wt} {e : Expr} {es : List Expr} {kws : List Keyword} {g gk : AM} {p pos kpos : Pos} {nm : Option Str} {fe : EM}
theorem PKimp {kws : List Keyword} {t t' : TA} (h : PK X kws t) (i : ∀ σ H Q, t' σ H Q → t σ H Q) : PK X kws t' := ⟨fun p pins s σ H Q I q => h.run p pins s σ H Q I (i σ H Q q)⟩
theorem dk_nil : DK X hx [] aNil := ⟨fun W tk => PKimp pk_nil fun σ H Q ⟨A, S, σd, R, E, p⟩ => p.here R .nil⟩
theorem dk_cons (h1 : DE X hx e fe) (h2 : DK X hx kws gk) : DK X hx (⟨nm, e, kpos⟩ :: kws) (aCons fe gk) := ⟨fun W tk => PKimp (pk_cons (h1.run W tk) (h2.run W tk)) fun σ H Q ⟨A, S, σd, R, E, p⟩ =>
    ⟨A, S, σd, R, E, (Post.bind (R1 := rV _) p).mono fun v H1 ⟨A1, S1, d, R1, T1, r1, p1⟩ => ⟨A1, S1, σd, R1, E.step R T1, (Post.bind (R1 := rVs _) p1).mono fun vs H2 ⟨A2, S2, ds, R2, T2, r2, p2⟩ =>
      p2.here R2 (.cons (r1.step R1 T2) r2)⟩⟩⟩
theorem run_fnNS {CX : CXT} {f : Addr} {fd : FuncData} {sp : Sp} {E : L2.St → XK} {g : List Value → List Value → List Value} {gV : List V → List V → List V} {pins : List (Addr × Obj)} {σ : L2.St} {H : Hp} {s : Shared} {Q : VK} {us ws : List Value} {vs zs : List V} (F : FnOk X.prog X.w X.K X.mg X.base CX k f fd ps sp) (hr : Room k X.A) (hb : KBn X.K fd ps n ks g gV) (hx : PassesAt CX X σ (E σ))
    (I : Inv X pins σ H s) (r : Vals vs us) (rz : Vals zs ws) (l1 : vs.length = n) (l2 : zs.length = ks.length) (h : sp (gV vs zs) H Q (E σ)) : wpAny (model X.prog X.w) X.A (call (.ref f) us (ks.zip ws)) (EP X pins σ Q) X.xe s := by
  have r2 := hb.rel r rz
  refine wpAny_call (codeAny_mono (F.run X.A X.stack s H ⟨us, ks.zip ws⟩ (g us ws) (gV vs zs) Q (E σ) hr I.env0 (hb.to s us ws I.kIn (r.length.symm.trans l1) (rz.length.symm.trans l2)) r2 h) fun r s' hq => ?_)
  cases r with
  | error e => exact hx pins H s e s' I hq
  | ok fl =>
    cases fl with
    | ret u => exact I.after hq
    | next => exact False.elim hq
    | brk => exact False.elim hq
    | cont => exact False.elim hq
def tCK (n m : Nat) (sp : Sp) (gV : List V → List V → List V) (E : L2.St → XK) (t tk : TA) : TE := fun σ H Q => t σ H fun vs H1 => tk σ H1 fun zs H2 => vs.length = n ∧ zs.length = m ∧ sp (gV vs zs) H2 Q (E σ)
theorem d_callKw (G : FnKw X.prog X.w X.K X.mg X.base x k ps F n ks perm) (hr : Room k X.A) (ha : DA X hx (e :: es) g) (hkw : DK X hx kws gk) {m : Nat} (hg : Gl X x := by rfl) (hmm : ks.length = m := by rfl) (hdb : (x == ("__debug__" : Str)) = false := by decide)
    (hall : (backToKw pos (keywordEach kws X.env)).all (·.1.isSome) = true := by rfl) (hks : (backToKw pos (keywordEach kws X.env)).filterMap (·.1) = ks := by rfl) (he : starEach (e :: es) X.env = (false, eval e X.env) :: starEach es X.env := by rfl)
    (hpl : ((backTo pos (starEach (e :: es) X.env)).any (·.1) || (backToKw pos (keywordEach kws X.env)).any (·.1.isNone)) = false := by rfl) : DE X hx (.Call (.Name x p) (e :: es) kws pos) (eCK F n m perm g gk) := by
  subst hmm
  obtain ⟨f, fd, hm, hk, hb, hF⟩ := G.is
  refine ⟨fun W tk => PEimp (t := tCK n ks.length (spOf X.K F) (fun vs zs => pick perm (vs ++ zs)) (WE W) (tA ⟨X.K, hx, W⟩ g) (tA ⟨X.K, hx, W⟩ gk)) ⟨fun pins s σ H Q I h => ?_⟩ fun σ H Q ⟨A, S, σd, R, E, q⟩ => ?_⟩
  · refine wpAny_Call_Name_kw (ld_glob I hg hm ?_ hdb)
    refine PySem.W.callWith_KW (h₀ := X.base) I.ok.mod.kin hk hall (thn ((ha.run W tk).run pos pins s σ H _ I h) fun us s1 ⟨vs, H1, I1, r, q⟩ => ?_) hpl he
    refine thn ((hkw.run W tk).run pos pins s1 σ H1 _ I1 q) fun ws s2 ⟨zs, H2, I2, rz, l1, l2, q2⟩ => ⟨I2.kIn, ?_⟩
    rw [hks]
    exact run_fnNS hF hr hb (passAt tk σ) I2 r rz l1 l2 q2
  · refine ⟨A, S, σd, R, E, (Post.bind (R1 := rVs _) q).mono fun vs H1 ⟨A1, S1, ds, R1, T1, r1, p1⟩ => ⟨A1, S1, σd, R1, E.step R T1, (Post.bind (R1 := rVs _) p1).mono fun zs H2 ⟨A2, S2, es', R2, T2, r2, p2⟩ => ?_⟩⟩
    obtain ⟨⟨l1, l2⟩, p3⟩ := Post.iteP p2
    have r1' := Paired.mapP r1 fun d v q => RV.step (hx := hx) R1 T2 q
    exact ⟨by rw [← Paired.length r1]; exact l1, by rw [← Paired.length r2]; exact l2, hx, A2, S2, _, R2, paired_pick (paired_app r1' r2) perm, p3.toCE⟩
theorem d_callKw0 (G : FnKw X.prog X.w X.K X.mg X.base x k ps F 0 ks perm) (hr : Room k X.A) (hkw : DK X hx kws gk) {m : Nat} (hg : Gl X x := by rfl) (hmm : ks.length = m := by rfl) (hdb : (x == ("__debug__" : Str)) = false := by decide)
    (hall : (backToKw pos (keywordEach kws X.env)).all (·.1.isSome) = true := by rfl) (hks : (backToKw pos (keywordEach kws X.env)).filterMap (·.1) = ks := by rfl)
    (hpl : ((backTo pos (starEach [] X.env)).any (·.1) || (backToKw pos (keywordEach kws X.env)).any (·.1.isNone)) = false := by rfl) : DE X hx (.Call (.Name x p) [] kws pos) (eCK F 0 m perm aNil gk) := by
  subst hmm
  obtain ⟨f, fd, hm, hk, hb, hF⟩ := G.is
  refine ⟨fun W tk => PEimp (t := tCK 0 ks.length (spOf X.K F) (fun vs zs => pick perm (vs ++ zs)) (WE W) L2.tNil (tA ⟨X.K, hx, W⟩ gk)) ⟨fun pins s σ H Q I h => ?_⟩ fun σ H Q ⟨A, S, σd, R, E, q⟩ => ?_⟩
  · refine wpAny_Call_Name_kw (ld_glob I hg hm ?_ hdb)
    refine PySem.W.callWith_KW0 (h₀ := X.base) I.ok.mod.kin hk hall ?_ hpl
    refine thn ((hkw.run W tk).run pos pins s σ H _ I h) fun ws s2 ⟨zs, H2, I2, rz, l1, l2, q2⟩ => ⟨I2.kIn, ?_⟩
    rw [hks]
    exact run_fnNS (us := []) (vs := []) hF hr hb (passAt tk σ) I2 .nil rz rfl l2 q2
  · refine ⟨A, S, σd, R, E, (Post.bind (R1 := rVs _) (show Post ⟨X.K, hx, W⟩ (rV ⟨X.K, hx, W⟩) σ A S H Q ((gk σd S).bind fun es S2 => if ([] : List Wt).length = 0 ∧ es.length = ks.length then F (pick perm ([] ++ es)) S2 else .bad) from q)).mono fun zs H2 ⟨A2, S2, es', R2, T2, r2, p2⟩ => ?_⟩
    obtain ⟨⟨_, l2⟩, p3⟩ := Post.iteP p2
    exact ⟨rfl, by rw [← Paired.length r2]; exact l2, hx, A2, S2, _, R2, paired_pick r2 perm, p3.toCE⟩
/-- f() -/
theorem d_call0 (G : Fn X.prog X.w X.K X.mg X.base x k [] F) (hr : Room k X.A) (hg : Gl X x := by rfl) (hdb : (x == ("__debug__" : Str)) = false := by decide) : DE X hx (.Call (.Name x p) [] [] pos) (fun _ S => F [] S) := by
  obtain ⟨f, fd, hm, hk, hb, hF⟩ := G.is
  refine ⟨fun W tk => ⟨fun pins s σ H Q I ⟨A, S, σd, R, E, q⟩ => ?_⟩⟩
  refine wpAny_Call_Name_kw (ld_glob I hg hm ?_ hdb)
  refine PySem.W.callWith_KW0 (kws := []) (env := X.env) (h₀ := X.base) I.ok.mod.kin hk rfl (wpAny_evalAll_nil ⟨I.kIn, ?_⟩) rfl
  exact run_fnS (us := []) (vs := []) (E := WE W) hF hr hb (passAt tk σ) I .nil ⟨hx, A, S, [], R, .nil, q.toCE⟩
end

/-! ### three names at once -/
section
variable {X : Cx} {hx : Hx} {pos : Pos}
theorem ds_par3 {i j l : Nat} {x y z : Str} {a b c : Expr} {fa : AM} {px py pz pt : Pos} {kt k2 pt2} (hc : X.calm = true) (hN : X.N.Nodup) (ha : DA X hx [a, b, c] fa) (hi : X.N[i]? = some x := by rfl) (hj : X.N[j]? = some y := by rfl) (hl : X.N[l]? = some z := by rfl) (hij : i ≠ j := by decide) (hil : i ≠ l := by decide) (hjl : j ≠ l := by decide)
    (hx' : X.env.scope.names.lookup x = some .local := by rfl) (hy : X.env.scope.names.lookup y = some .local := by rfl) (hz : X.env.scope.names.lookup z = some .local := by rfl)
    (hw : swappedStores [.Tuple [.Name x px, .Name y py, .Name z pz] kt pt] (.Tuple [a, b, c] k2 pt2) X.env = pure (some [x, y, z]) := by rfl)
    (hs : swapsWithSole [.Tuple [.Name x px, .Name y py, .Name z pz] kt pt] (.Tuple [a, b, c] k2 pt2) pos.line X.env = pure false := by rfl) :
    DS X hx (.Assign [.Tuple [.Name x px, .Name y py, .Name z pz] kt pt] (.Tuple [a, b, c] k2 pt2) pos) (sPar3 i j l fa) := ⟨fun W tk => PSimp (ps_par3 hc hN hi hj hl hij hil hjl hx' hy hz (ha.run W tk) hw hs) fun σ H D ⟨b0, A0, S0, H0, A, S, σd, R0, T, R, E, p⟩ =>
  ⟨A, S, σd, R, E, (Post.ofS (R1 := rVs _) R T E p).mono fun vs H1 ⟨A1, S1, ds, R1, T1, E1, r1, p1⟩ => by
    match ds, r1, p1 with
    | [d, e, f], r1, p1 =>
      obtain ⟨v, u, w, rfl, r2, r3, r4⟩ := rvs3 r1
      exact ⟨v, u, w, rfl, p1 A1 H1 _ R1 T1 (((E1.set r2).set r3).set r4)⟩
    | [], _, p1 => exact p1.elim
    | [_], _, p1 => exact p1.elim
    | [_, _], _, p1 => exact p1.elim
    | _ :: _ :: _ :: _ :: _, _, p1 => exact p1.elim⟩⟩

/-! ### texts -/
def bStr : List Wt → Store → Res Wt := f1 fun d S => match d with
  | .int i => if i.natAbs.log2 < 1920 then .ok (.d (.str (toString i))) S else .bad
  | _ => .bad
theorem cal_str : CalD X hx (.type "str") bStr := by
  intro W pins s σ H xs us Q I r h
  obtain ⟨A, S, σ', d, v, R, rfl, rv, p⟩ := rcd1 h
  split at p
  · rename_i x
    obtain ⟨hz, p⟩ := Post.iteP p
    exact call_str_int pins s σ H _ us Q I r ⟨x, by rw [rv.int], hz, p.hereV R (.str _)⟩
  · exact p.elim
def asStrs : List D → Option (List Str)
  | [] => some []
  | .str b :: l => (asStrs l).map (b :: ·)
  | _ => none
theorem strs_of {K : PySem.W.Frag} {lv : Addr → Prop} {H : Hp} : ∀ {l : List D} {vs : List V} {bs : List Str}, RPs K lv H l vs → asStrs l = some bs → vs = bs.map V.str
  | [], _, _, h, e => by cases h; cases e; rfl
  | d :: l, _, bs, h, e => by
    cases h with
    | cons h1 h2 =>
      cases d with
      | str b =>
        unfold asStrs at e
        cases e2 : asStrs l with
        | none => rw [e2] at e; cases e
        | some cs =>
          rw [e2] at e
          cases e
          cases h1
          rw [strs_of h2 e2]
          rfl
      | _ => cases e
theorem of_strs {K : PySem.W.Frag} {lv : Addr → Prop} {H : Hp} : ∀ (ns : List Str), RPs K lv H (ns.map D.str) (ns.map V.str)
  | [] => .nil
  | n :: ns => .cons (.str n) (of_strs ns)
end
end Y
end
section
/-! Y14: methods of texts; the end. -/
namespace Y
open PySem PySem.Spec PyProof.Rows L2
section
variable {X : Cx} {hx : Hx}
def optSt (S : Store) (o : Option (List Str)) (k : List Str → Res Wt) : Res Wt := match o with
  | some l => k l
  | none => .bad
def strsOf : D → Option (List Str)
  | .lst l => asStrs l
  | .tup l => asStrs l
  | _ => none
def mJoin (o : Wt) (ds : List Wt) (S : Store) : Res Wt := match ds with
  | [d] => match deref S o, deref S d with
    | some (.str a), some x => optSt S (strsOf x) fun ys => if (ys.map (·.length)).sum + ys.length * a.length ≤ 10000000 then .ok (.d (.str (Txt.join a ys))) S else .bad
    | _, _ => .bad
  | _ => .bad
theorem optSt_ok {c : Cn} {σ : L2.St} {A : Ads} {S : Store} {H : Hp} {Q : VK} {o : Option (List Str)} {k : List Str → Res Wt} (p : Post c (rV c) σ A S H Q (optSt S o k)) : ∃ l, o = some l ∧ Post c (rV c) σ A S H Q (k l) := by
  cases o with
  | none => exact p.elim
  | some l => exact ⟨l, rfl, p⟩
theorem met_join : MetD X hx "str.join" mJoin := by
  intro W pins s σ H x xs v us Q I r rs h
  obtain ⟨A, S, σ', d, ds, R, rd, rds, p⟩ := h
  match ds, rds, p with
  | [], _, p => exact p.elim
  | _ :: _ :: _, _, p => exact p.elim
  | [y], rds, p =>
    obtain ⟨w, rfl, ry⟩ := rvs1 rds
    unfold mJoin at p
    dsimp only at p
    split at p
    · rename_i a x' e1 e2
      obtain ⟨ys, e, p2⟩ := optSt_ok p
      obtain ⟨hz, p3⟩ := Post.iteP p2
      clear p p2
      obtain rfl := (readAs R rd e1).str
      have hz' : (ys.map (·.length)).sum + ys.length * a.length ≤ 16777216 := by omega
      cases x' with
      | lst l =>
        obtain ⟨b, vs, rfl, hq, g⟩ := (readAs R ry e2).lst
        obtain rfl := strs_of g e
        exact mt_join pins s σ H _ _ v us Q I r rs ⟨a, b, ys, rfl, rfl, .inl (SqL.of hq), hz', p3.hereV R (.str _)⟩
      | tup l =>
        obtain ⟨b, vs, rfl, hq, g⟩ := (readAs R ry e2).tup
        obtain rfl := strs_of g e
        exact mt_join pins s σ H _ _ v us Q I r rs ⟨a, b, ys, rfl, rfl, .inr hq, hz', p3.hereV R (.str _)⟩
      | _ => cases e
    · exact p.elim
theorem d_join {o e : Expr} {fo fe : EM} {apos cpos : Pos} (ho : DE X hx o fo) (he : DE X hx e fe) (hbase : attributeBase o "join" X.env (eval o X.env) = eval o X.env := by rfl)
    (hfew : ((backTo cpos (starEach [e] X.env)).all (fun x => !x.1) && (backToKw cpos (keywordEach [] X.env)).all (fun x => x.1.isSome)
      && decide ([e].length + ([] : List Keyword).length + (if ([] : List Keyword).isEmpty then 0 else 1) < 30)) = true := by rfl)
    (hline : (apos.endLine == cpos.line) = true := by rfl) (hs : starEach [e] X.env = (false, eval e X.env) :: starEach [] X.env := by rfl) (hplain : (backTo cpos (starEach [] X.env)).any (·.1) = false := by rfl) :
    DE X hx (.Call (.Attribute o "join" apos) [e] [] cpos) (eM isStr mJoin fo (aCons fe aNil)) :=
  d_m ty_str F.plainAttrs_str F.slot_str_join F.type_str_join met_join ho (da_cons he da_nil hs) hbase hfew hline hs hplain
end
def scr (ns : List Int) : Wt := .d (.fls (ns.map D.int))
theorem rel_none {K : PySem.W.Frag} {H : Hp} : Rel K [] [] H := ⟨rfl, fun n m a h _ => by simp at h, fun n c h => by simp at h⟩
theorem not_live_none {a : Addr} : ¬ Live [] [] a := fun ⟨n, c, h, _⟩ => by simp at h
theorem walk_Y {l : PySem.W.OpenLaw} {n k : Nat} {q : Program} {loose : List Str} {XP : (Str → Option Value) → Heap → Prop} {YP : World → Heap → Prop} {d : DefRec} {x : Str} {F : List Wt → Store → Res Wt}
    (hn : l.most = some n) (hn2 : n ≤ sizeLine) (hdf : d.params.defaults = []) (hr : Room k callerA)
    (Fc : ∀ (w : World) (mg : Str → Option Value) (fa : Addr) (h : Heap), YP w h → h.Ns mainGlobals mg → mg d.name = some (.ref fa) →
      ∃ (K : PySem.W.Frag) (fd : FuncData), K.In h ∧ (∀ (s : Shared) (u : Value), BindsTo s fd ⟨[u], []⟩ [(x, u)]) ∧
        ∀ base : Heap, K.In base → base.Ns mainGlobals mg → FnOk l.prog w K mg base (L2.CX l.prog w) k fa fd [x] (spOf K F))
    (hF : ∀ ns : List Int, ns.length ≤ n → (∀ z ∈ ns, Builtin.Int.intBits z ≤ 1048576) → ∃ S, F [scr ns] [] = .ok (.d (.bl true)) S) :
    PySem.W.WalkO q loose XP YP l.row.toRowW d [] (fun f vs => PySem.call f vs) := by
  refine Att.attach_callB hn hdf fun w s₀ s₁ mg mb fa o pm cd doc a vs ns G Y ho hd hcd hmg hobj hints hlen hbits hg => ?_
  obtain ⟨K, fd, KX, hb, hFn⟩ := Fc w mg fa _ Y G.T.g hmg
  refine law_call (CX := L2.CX l.prog w) KX G.T.g G.T.b G.T.builtins G.T.nolimit hg hobj hints (Nat.le_trans hlen hn2) hr hFn hb (fun H hO hS => ?_) fun H e s' => ?_
  · obtain ⟨S, e⟩ := hF ns hlen hbits
    refine ⟨hx0, [], [], [scr ns], rel_none, .cons ?_ .nil, ?_⟩
    · refine RV.of (.fls ?_ (of_ints ns))
      rcases hS with h | h
      · exact .inl ⟨not_live_none, h⟩
      · exact .inr h
    · rw [e]
      intro A' H' b R T r
      have r : RP K (Live A' S) H' (.bl true) b := r
      cases r
      rfl
  · rintro ⟨a, B, H', cls, d, _, _, _, _, _, _, _, z⟩
    exact z
end Y
end
section
/-! Y15: what the printed texts use. -/
namespace Y
open PySem PySem.Spec PyProof.Rows L2

def fuelW : Nat := 1000000000000000000000000000000
def sBad : SM := fun _ _ _ => .bad
section
variable {X : Cx} {hx : Hx} {apos cpos : Pos} {o e : Expr} {fo fe : EM} {st : Stmt}
theorem ds_never : DS X hx st sBad := ⟨fun W tk => PSimp ps_never fun σ H D ⟨b0, A0, S0, H0, A, S, σd, R0, T, R, E, p⟩ => p.elim⟩
theorem d_app (ho : DE X hx o fo) (he : DE X hx e fe) (hbase : attributeBase o "append" X.env (eval o X.env) = eval o X.env := by rfl)
    (hfew : ((backTo cpos (starEach [e] X.env)).all (fun x => !x.1) && (backToKw cpos (keywordEach [] X.env)).all (fun x => x.1.isSome)
      && decide ([e].length + ([] : List Keyword).length + (if ([] : List Keyword).isEmpty then 0 else 1) < 30)) = true := by rfl)
    (hline : (apos.endLine == cpos.line) = true := by rfl) (hs : starEach [e] X.env = (false, eval e X.env) :: starEach [] X.env := by rfl) (hplain : (backTo cpos (starEach [] X.env)).any (·.1) = false := by rfl) :
    DE X hx (.Call (.Attribute o "append" apos) [e] [] cpos) (eM isLst mApp fo (aCons fe aNil)) :=
  d_m ty_lst F.plainAttrs_list F.slot_list_append F.type_list_append met_app ho (da_cons he da_nil hs) hbase hfew hline hs hplain
theorem d_popAt (ho : DE X hx o fo) (he : DE X hx e fe) (hbase : attributeBase o "pop" X.env (eval o X.env) = eval o X.env := by rfl)
    (hfew : ((backTo cpos (starEach [e] X.env)).all (fun x => !x.1) && (backToKw cpos (keywordEach [] X.env)).all (fun x => x.1.isSome)
      && decide ([e].length + ([] : List Keyword).length + (if ([] : List Keyword).isEmpty then 0 else 1) < 30)) = true := by rfl)
    (hline : (apos.endLine == cpos.line) = true := by rfl) (hs : starEach [e] X.env = (false, eval e X.env) :: starEach [] X.env := by rfl) (hplain : (backTo cpos (starEach [] X.env)).any (·.1) = false := by rfl) :
    DE X hx (.Call (.Attribute o "pop" apos) [e] [] cpos) (eM isLst mPopAt fo (aCons fe aNil)) :=
  d_m ty_lst F.plainAttrs_list F.slot_list_pop F.type_list_pop met_popAt ho (da_cons he da_nil hs) hbase hfew hline hs hplain
theorem d_pop (ho : DE X hx o fo) (hbase : attributeBase o "pop" X.env (eval o X.env) = eval o X.env := by rfl) (hline : (apos.endLine == cpos.line) = true := by rfl) :
    DE X hx (.Call (.Attribute o "pop" apos) [] [] cpos) (eM isLst mPop fo aNil) :=
  d_m0 ty_lst F.plainAttrs_list F.slot_list_pop F.type_list_pop met_pop ho hbase hline
end
theorem fn_bad {P : Program} {w : World} {K : PySem.W.Frag} {mg : Str → Option Value} {base : Heap} {x qual : Str} {params : Arguments} {body : List Stmt} {scope : Scope} {f : Addr} {fd : FuncData} {N ps : List Str} {k : Nat}
    (F : FunD K x qual params body scope [] [] f fd) (Sc : FnScope N ps scope) : FnOk P w K mg base (L2.CX P w) k f fd ps (spOf K fun _ _ => .bad) := by
  have bad : ∀ vs H Q E, spOf K (fun _ _ => .bad) vs H Q E → False := fun vs H Q E ⟨hx, A, S, ds, R, r, p⟩ => p
  have h1 : FnOk P w K mg base (L2.CX P w) (k + 1) f fd ps (spOf K fun _ _ => .bad) := F.ok Sc (fun vs H Q E h => (bad vs H Q E h).elim) fun cdv A outer s H vs Q E hr h => (bad vs H Q E h).elim
  exact ⟨fun vs H Q E h => (bad vs H Q E h).elim, fun A outer s H args us vs Q E hr e0 hb r h => (bad vs H Q E h).elim⟩

/-! ### constants told by the heap -/
mutual
def matchV (K : PySem.W.Frag) : D → Value → Bool
  | .non, .none => true
  | .bl b, .bool c => decide (b = c)
  | .int i, .int j _ => decide (i = j)
  | .str x, .str y _ => decide (x = y)
  | .ty n, .type m => decide (n = m)
  | .tup ds, .ref a => match K.lookup a with
    | some o => (match o.cls with | .type n => decide (n = "tuple") | _ => false) && (match o.data with | .seq its _ => decide (its.size ≤ 1000000) && matchVs K ds its.toList | _ => false)
    | none => false
  | .fls ds, .ref a => match K.lookup a with
    | some o => (match o.cls with | .type n => decide (n = "list") | _ => false) && (match o.dict with | none => true | _ => false) && (match o.data with | .seq its _ => decide (its.size ≤ 1000000) && matchVs K ds its.toList | _ => false)
    | none => false
  | _, _ => false
def matchVs (K : PySem.W.Frag) : List D → List Value → Bool
  | [], [] => true
  | d :: ds, v :: vs => matchV K d v && matchVs K ds vs
  | _, _ => false
end
section
variable {K : PySem.W.Frag}
mutual
theorem matchV_ok : ∀ (d : D) (u : Value), matchV K d u = true → ∃ v, RelV v u ∧ ∀ lv H, RP K lv H d v
  | .non, u, h => by cases u <;> first | (exact ⟨.non, rfl, fun _ _ => .non⟩) | (simp [matchV] at h)
  | .bl b, u, h => by cases u <;> first | (simp [matchV] at h; done) | (simp [matchV] at h; subst h; exact ⟨.bl _, rfl, fun _ _ => .bl _⟩)
  | .int b, u, h => by cases u <;> first | (simp [matchV] at h; done) | (simp [matchV] at h; subst h; exact ⟨.int _, ⟨_, rfl⟩, fun _ _ => .int _⟩)
  | .str b, u, h => by cases u <;> first | (simp [matchV] at h; done) | (simp [matchV] at h; subst h; exact ⟨.str _, ⟨_, rfl⟩, fun _ _ => .str _⟩)
  | .ty b, u, h => by cases u <;> first | (simp [matchV] at h; done) | (simp [matchV] at h; subst h; exact ⟨.ty _, rfl, fun _ _ => .ty _⟩)
  | .tup ds, u, h => by
    cases u with
    | ref a =>
      unfold matchV at h
      cases e : K.lookup a with
      | none => rw [e] at h; cases h
      | some o =>
        rw [e] at h
        obtain ⟨oc, od, dt, sl⟩ := o
        dsimp only at h
        rw [Bool.and_eq_true] at h
        obtain ⟨h1, h2⟩ := h
        cases oc with
        | type n =>
          obtain rfl := of_decide_eq_true h1
          cases dt with
          | seq its n =>
            dsimp only at h2
            rw [Bool.and_eq_true] at h2
            obtain ⟨h3, h4⟩ := h2
            obtain ⟨vs, r, hv⟩ := matchVs_ok ds its.toList h4
            have h3 := of_decide_eq_true h3
            exact ⟨.ref a, rfl, fun lv H => .tup (.inr ⟨_, its, n, e, rfl, rfl, by rw [sizeLine_eq]; omega, r⟩) (hv lv H)⟩
          | _ => cases h2
        | _ => cases h1
    | _ => cases h
  | .fls ds, u, h => by
    cases u with
    | ref a =>
      unfold matchV at h
      cases e : K.lookup a with
      | none => rw [e] at h; cases h
      | some o =>
        rw [e] at h
        obtain ⟨oc, od, dt, sl⟩ := o
        dsimp only at h
        rw [Bool.and_eq_true, Bool.and_eq_true] at h
        obtain ⟨⟨h1, h0⟩, h2⟩ := h
        cases oc with
        | type n =>
          obtain rfl := of_decide_eq_true h1
          cases od with
          | none =>
            cases dt with
            | seq its n =>
              dsimp only at h2
              rw [Bool.and_eq_true] at h2
              obtain ⟨h3, h4⟩ := h2
              obtain ⟨vs, r, hv⟩ := matchVs_ok ds its.toList h4
              have h3 := of_decide_eq_true h3
              exact ⟨.ref a, rfl, fun lv H => .fls (.inr ⟨_, its, n, e, rfl, rfl, rfl, by rw [sizeLine_eq]; omega, r⟩) (hv lv H)⟩
            | _ => cases h2
          | some _ => cases h0
        | _ => cases h1
    | _ => cases h
  | .lst _, u, h => by cases u <;> cases h
  | .dct _ _, u, h => by cases u <;> cases h
  | .gl _, u, h => by cases u <;> cases h
  | .exo _ _ _, u, h => by cases u <;> cases h
theorem matchVs_ok : ∀ (ds : List D) (us : List Value), matchVs K ds us = true → ∃ vs, Vals vs us ∧ ∀ lv H, RPs K lv H ds vs
  | [], us, h => by
    cases us with
    | nil => exact ⟨[], .nil, fun _ _ => .nil⟩
    | cons _ _ => simp [matchVs] at h
  | d :: ds, us, h => by
    cases us with
    | nil => simp [matchVs] at h
    | cons u us =>
      unfold matchVs at h
      rw [Bool.and_eq_true] at h
      obtain ⟨v, r, hv⟩ := matchV_ok d u h.1
      obtain ⟨vs, rs, hvs⟩ := matchVs_ok ds us h.2
      exact ⟨v :: vs, .cons r rs, fun lv H => .cons (hv lv H) (hvs lv H)⟩
end
def konB (K : PySem.W.Frag) (p : Str × D) : Bool := match PySem.W.nsIn K mainGlobals p.1 with
  | some (some u) => matchV K p.2 u
  | _ => false
def gcdB (K : PySem.W.Frag) (x : Str) : Bool := match PySem.W.nsIn K mainGlobals x with
  | some (some (.builtin n)) => decide (n = "math.gcd")
  | _ => false
theorem konB_ok {h : Heap} {mg : Str → Option Value} (X : K.In h) (G : h.Ns mainGlobals mg) {p : Str × D} (c : konB K p = true) : ∃ u v, mg p.1 = some u ∧ RelV v u ∧ ∀ lv H, RP K lv H p.2 v := by
  unfold konB at c
  split at c
  · rename_i u e
    obtain ⟨v, r, hv⟩ := matchV_ok _ _ c
    exact ⟨u, v, PySem.W.mg_of X G e, r, hv⟩
  · cases c
theorem gcdB_ok {h : Heap} {mg : Str → Option Value} (X : K.In h) (G : h.Ns mainGlobals mg) {x : Str} (c : gcdB K x = true) : mg x = some (.builtin "math.gcd") := by
  unfold gcdB at c
  split at c
  · rename_i n e
    obtain rfl := of_decide_eq_true c
    exact PySem.W.mg_of X G e
  · cases c
end
end Y
end
section
/-! Y16: reckoning with the D functions. -/
namespace Y
open PySem PySem.Spec PyProof.Rows L2

@[simp] theorem lim_eq : lim = 10000000 := rfl
/-- a text's signs -/
def cl (x : Str) : List Nat := x.cps.toList
section
variable {α β : Type} {a : α} {S : Store} {σ : Ev}
@[simp] theorem ok_bind {f : α → Store → Res β} : (Res.ok a S).bind f = f a S := id rfl
@[simp] theorem exc_bind {f : α → Store → Res β} {C ns l} : (Res.exc C ns l S).bind f = .exc C ns l S := id rfl
@[simp] theorem bad_bind {f : α → Store → Res β} : (Res.bad : Res α).bind f = .bad := id rfl
@[simp] theorem ok_toS {k : α → Store → SR} : (Res.ok a S).toS σ k = k a S := id rfl
@[simp] theorem exc_toS {k : α → Store → SR} {C ns l} : (Res.exc C ns l S).toS σ k = .exc C ns l σ S := id rfl
@[simp] theorem bad_toS {k : α → Store → SR} : (Res.bad : Res α).toS σ k = .bad := id rfl
end
section
variable {σ : Ev} {S : Store} {b n i j : Nat} {f g h : SM} {e fa fb fc : EM} {t u : TM} {op op' : Wt → Wt → Store → Res Wt} {ga gb : AM} {d : D} {w : Wt} {F : List Wt → Store → Res Wt} {x y : Str} {k m : Int} {l l' : List D}
@[simp] theorem eVar_ap : eVar i σ S = (match σ[i]? with | some (some d) => .ok d S | _ => .bad) := id rfl
@[simp] theorem eC_ap : eC d σ S = .ok (.d d) S := id rfl
@[simp] theorem eOp_ap : eOp op fa fb σ S = (fa σ S).bind fun x S1 => (fb σ S1).bind fun y S2 => op x y S2 := id rfl
@[simp] theorem eUn_ap {o : Wt → Store → Res Wt} : eUn o fa σ S = (fa σ S).bind fun x S1 => o x S1 := id rfl
@[simp] theorem eB_ap : eB F ga σ S = (ga σ S).bind fun ds S1 => F ds S1 := id rfl
@[simp] theorem aNil_ap : aNil σ S = .ok [] S := id rfl
@[simp] theorem aCons_ap : aCons fa ga σ S = (fa σ S).bind fun d S1 => (ga σ S1).bind fun ds S2 => .ok (d :: ds) S2 := id rfl
@[simp] theorem eCK_ap {p q : Nat} {perm : List Nat} : eCK F p q perm ga gb σ S = (ga σ S).bind fun ds S1 => (gb σ S1).bind fun es S2 => if ds.length = p ∧ es.length = q then F (pick perm (ds ++ es)) S2 else .bad := id rfl
@[simp] theorem tBl_ap : tBl e σ S = (e σ S).bind asB := id rfl
@[simp] theorem asB_ap {c : Bool} : asB (.d (.bl c)) S = .ok c S := id rfl
@[simp] theorem tNot_ap : tNot t σ S = (t σ S).bind fun b S1 => .ok (!b) S1 := id rfl
@[simp] theorem tAnd_ap : tAnd t u σ S = (t σ S).bind fun b S1 => if b = true then u σ S1 else .ok false S1 := id rfl
@[simp] theorem tOr_ap : tOr t u σ S = (t σ S).bind fun b S1 => if b = true then .ok true S1 else u σ S1 := id rfl
@[simp] theorem tTru_ap : tTru e σ S = (e σ S).bind fun d S1 => (truth d S1).bind fun b S2 => .ok b S2 := id rfl
@[simp] theorem tYs_ap : tYs σ S = .ok true S := id rfl
@[simp] theorem eAnd_ap : eAnd fa fb σ S = (fa σ S).bind fun d S1 => (truth d S1).bind fun b S2 => if b = true then fb σ S2 else .ok d S2 := id rfl
@[simp] theorem eOr_ap : eOr fa fb σ S = (fa σ S).bind fun d S1 => (truth d S1).bind fun b S2 => if b = true then .ok d S2 else fb σ S2 := id rfl
@[simp] theorem eNot_ap : eNot fa σ S = (fa σ S).bind fun d S1 => (truth d S1).bind fun b S2 => .ok (.d (.bl (!b))) S2 := id rfl
@[simp] theorem eIf_ap : eIf t fa fb σ S = (t σ S).bind fun b S1 => if b = true then fa σ S1 else fb σ S1 := id rfl
@[simp] theorem eChain_ap : eChain op op' fa fb fc σ S = (fa σ S).bind fun x S1 => (fb σ S1).bind fun y S2 => (op x y S2).bind fun z S3 => (asB z S3).bind fun k S4 => if k = true then (fc σ S4).bind fun w S5 => op' y w S5 else .ok (.d (.bl false)) S4 := id rfl
@[simp] theorem eTup_ap : eTup ga σ S = (ga σ S).bind fun ds S1 => (fzs S1 ds).bind fun l S2 => mkSeq true l S2 := id rfl
@[simp] theorem eLst_ap : eLst ga σ S = (ga σ S).bind fun ds S1 => (fzs S1 ds).bind fun l S2 => mkSeq false l S2 := id rfl
@[simp] theorem eLstL_ap : eLstL ga σ S = (ga σ S).bind fun ds S1 => (fzs S1 ds).bind fun l S2 => if l.length ≤ lim then .ok (.loc S2.length) (S2 ++ [.lst l]) else .bad := id rfl
@[simp] theorem eM_ap {ok : Wt → Store → Bool} {o : Wt → List Wt → Store → Res Wt} : eM ok o fa ga σ S = (fa σ S).bind fun x S1 => if ok x S1 = true then (ga σ S1).bind fun ds S2 => o x ds S2 else .bad := id rfl
@[simp] theorem eSl_ap {o : Wt → Option Int → Option Int → Store → Res Wt} {fl fh : OM} : eSl o fa fl fh σ S = (fa σ S).bind fun d S1 => (fl σ S1).bind fun lo S2 => (fh σ S2).bind fun hi S3 => o d lo hi S3 := id rfl
@[simp] theorem oNone_ap : oNone σ S = .ok none S := id rfl
@[simp] theorem oSome_ap : oSome e σ S = (e σ S).bind asI := id rfl
@[simp] theorem asI_ap : asI (.d (.int k)) S = .ok (some k) S := id rfl
@[simp] theorem sSeq_ap : sSeq f g b σ S = (match f b σ S with | .nx σ' S' => g b σ' S' | r => r) := id rfl
@[simp] theorem sNext_ap : sNext b σ S = .nx σ S := id rfl
@[simp] theorem sBad_ap : sBad b σ S = .bad := id rfl
@[simp] theorem sExpr_ap : sExpr e b σ S = (e σ S).toS σ fun _ S' => .nx σ S' := id rfl
@[simp] theorem sRet_ap : sRet e b σ S = (e σ S).toS σ fun d S' => .rt d S' := id rfl
@[simp] theorem sRetN_ap : sRetN b σ S = .rt (.d .non) S := id rfl
@[simp] theorem sSet_ap : sSet i e b σ S = (e σ S).toS σ fun d S' => .nx (σ.set i (some d)) S' := id rfl
@[simp] theorem sIf_ap : sIf t f g b σ S = (t σ S).toS σ fun k S' => if k = true then f b σ S' else g b σ S' := id rfl
@[simp] theorem sBreak_ap : sBreak b σ S = .bk σ S := id rfl
@[simp] theorem sCont_ap : sCont b σ S = .ct σ S := id rfl
@[simp] theorem sPar_ap : sPar i j ga b σ S = (ga σ S).toS σ fun ds S1 => match ds with
  | [d, e] => .nx ((σ.set i (some d)).set j (some e)) S1
  | _ => .bad := id rfl
@[simp] theorem sPar3_ap : sPar3 i j n ga b σ S = (ga σ S).toS σ fun ds S1 => match ds with
  | [d, e, h] => .nx (((σ.set i (some d)).set j (some e)).set n (some h)) S1
  | _ => .bad := id rfl
@[simp] theorem sAsg_ap {q : GM} : sAsg q e b σ S = (e σ S).toS σ fun d S1 => (q d σ S1).toS σ fun σ2 S2 => .nx σ2 S2 := id rfl
@[simp] theorem gN_ap : gN i w σ S = .ok (σ.set i (some w)) S := id rfl
@[simp] theorem gT_ap {h : GMs} : gT n h (.d (.tup l)) σ S = if l.length = n then h (l.map Wt.d) σ S else .bad := id rfl
@[simp] theorem gN0_ap : gN0 [] σ S = .ok σ S := id rfl
@[simp] theorem gN1_ap {q : GM} {h : GMs} {ws : List Wt} : gN1 q h (w :: ws) σ S = (q w σ S).bind fun σ1 S1 => h ws σ1 S1 := id rfl
@[simp] theorem sFor_ap {p : IM} {q : GM} : sFor p q f b σ S = (p σ S).toS σ fun ds S1 => forN q f ds b σ S1 := id rfl
@[simp] theorem iVal_ap : iVal e σ S = (e σ S).bind fun d S1 => (fz1 S1 d).bind fun x S2 => optI S2 (itemsOf x) := id rfl
@[simp] theorem optI_ap : optI S (some l) = .ok l S := id rfl
@[simp] theorem fz1_d : fz1 S (.d d) = .ok d S := id rfl
@[simp] theorem fzs_nil : fzs S [] = .ok [] S := id rfl
@[simp] theorem fzs_cons {ws : List Wt} : fzs S (w :: ws) = (fz1 S w).bind fun d' S1 => (fzs S1 ws).bind fun ds' S2 => .ok (d' :: ds') S2 := id rfl
@[simp] theorem mkT : mkSeq true l S = if l.length ≤ lim then .ok (.d (.tup l)) S else .bad := id rfl
@[simp] theorem mkL : mkSeq false l S = if l.length ≤ lim then .ok (.d (.lst l)) S else .bad := id rfl
@[simp] theorem deref_d : deref S (.d d) = some d := id rfl
@[simp] theorem truth_bl {c : Bool} : truth (.d (.bl c)) S = .ok c S := id rfl
@[simp] theorem truth_int : truth (.d (.int k)) S = .ok (k != 0) S := id rfl
@[simp] theorem add_int : opAdd (.d (.int k)) (.d (.int m)) S = .ok (.d (.int (k + m))) S := id rfl
@[simp] theorem add_str : opAdd (.d (.str x)) (.d (.str y)) S = if x.length + y.length ≤ lim then .ok (.d (.str (x ++ y))) S else .bad := id rfl
@[simp] theorem add_tup : opAdd (.d (.tup l)) (.d (.tup l')) S = if l.length + l'.length ≤ lim then .ok (.d (.tup (l ++ l'))) S else .bad := id rfl
@[simp] theorem add_lst : opAdd (.d (.lst l)) (.d (.lst l')) S = if l.length + l'.length ≤ lim then .ok (.d (.lst (l ++ l'))) S else .bad := id rfl
@[simp] theorem sub_int : opSub (.d (.int k)) (.d (.int m)) S = .ok (.d (.int (k - m))) S := id rfl
@[simp] theorem mul_int : opMul (.d (.int k)) (.d (.int m)) S = if mulOk k m then .ok (.d (.int (k * m))) S else .bad := id rfl
@[simp] theorem mul_str : opMul (.d (.str x)) (.d (.int m)) S = if 0 ≤ m ∧ m ≤ 1000 ∧ x.length ≤ 1000 then .ok (.d (.str (Txt.mul x m))) S else .bad := id rfl
@[simp] theorem fdiv_int : opFdiv (.d (.int k)) (.d (.int m)) S = if m ≠ 0 ∧ m.natAbs.log2 < 9000 then .ok (.d (.int (k.fdiv m))) S else .bad := id rfl
@[simp] theorem mod_int : opMod (.d (.int k)) (.d (.int m)) S = if m ≠ 0 then .ok (.d (.int (k.fmod m))) S else .bad := id rfl
@[simp] theorem neg_int : opNeg (.d (.int k)) S = .ok (.d (.int (-k))) S := id rfl
@[simp] theorem lt_int : opLt (.d (.int k)) (.d (.int m)) S = .ok (.d (.bl (decide (k < m)))) S := id rfl
@[simp] theorem le_int : opLe (.d (.int k)) (.d (.int m)) S = .ok (.d (.bl (decide (k ≤ m)))) S := id rfl
@[simp] theorem gt_int : opGt (.d (.int k)) (.d (.int m)) S = .ok (.d (.bl (decide (k > m)))) S := id rfl
@[simp] theorem ge_int : opGe (.d (.int k)) (.d (.int m)) S = .ok (.d (.bl (decide (k ≥ m)))) S := id rfl
theorem beqd {α : Type} [BEq α] [LawfulBEq α] [DecidableEq α] {a b : α} : (a == b) = decide (a = b) := by
  by_cases h : a = b
  · subst h; simp
  · rw [decide_eq_false h]; simpa using h
theorem deq_int : deq (.int k) (.int m) = decide (k = m) := by simp [deq, toPy, PyData.eqv, beqd]
theorem deq_str : deq (.str x) (.str y) = decide (x = y) := by simp [deq, toPy, PyData.eqv, beqd]
theorem deq_bl {c c' : Bool} : deq (.bl c) (.bl c') = decide (c = c') := by simp [deq, toPy, PyData.eqv, beqd]
@[simp] theorem eq_int : opEq false (.d (.int k)) (.d (.int m)) S = .ok (.d (.bl (decide (k = m)))) S := by simp [opEq, eqOk, D.scal, deq_int]
@[simp] theorem ne_int : opEq true (.d (.int k)) (.d (.int m)) S = .ok (.d (.bl (!decide (k = m)))) S := by simp [opEq, eqOk, D.scal, deq_int]
@[simp] theorem eq_str : opEq false (.d (.str x)) (.d (.str y)) S = .ok (.d (.bl (decide (x = y)))) S := by simp [opEq, eqOk, D.scal, deq_str]
@[simp] theorem ne_str : opEq true (.d (.str x)) (.d (.str y)) S = .ok (.d (.bl (!decide (x = y)))) S := by simp [opEq, eqOk, D.scal, deq_str]
@[simp] theorem eq_bl {c c' : Bool} : opEq false (.d (.bl c)) (.d (.bl c')) S = .ok (.d (.bl (decide (c = c')))) S := by simp [opEq, eqOk, D.scal, deq_bl]
@[simp] theorem ne_bl {c c' : Bool} : opEq true (.d (.bl c)) (.d (.bl c')) S = .ok (.d (.bl (!decide (c = c')))) S := by simp [opEq, eqOk, D.scal, deq_bl]
@[simp] theorem ix_tup : opIx (.d (.tup l)) (.d (.int k)) S = optR S (atI l k) := id rfl
@[simp] theorem ix_lst : opIx (.d (.lst l)) (.d (.int k)) S = optR S (atI l k) := id rfl
@[simp] theorem ix_fls : opIx (.d (.fls l)) (.d (.int k)) S = optR S (atI l k) := id rfl
@[simp] theorem ix_str : opIx (.d (.str x)) (.d (.int k)) S = if x.length ≤ lim then optR S ((atI (cl x) k).map fun c => .str ⟨#[c]⟩) else .bad := id rfl
@[simp] theorem optR_some : optR S (some d) = .ok (.d d) S := id rfl
@[simp] theorem sl_str {lo hi : Option Int} : opSl (.d (.str x)) lo hi S = if x.length ≤ lim then .ok (.d (.str (cutS x lo hi))) S else .bad := id rfl
@[simp] theorem sl_tup {lo hi : Option Int} : opSl (.d (.tup l)) lo hi S = .ok (.d (.tup (cutD l lo hi))) S := id rfl
@[simp] theorem sl_lst {lo hi : Option Int} : opSl (.d (.lst l)) lo hi S = .ok (.d (.lst (cutD l lo hi))) S := id rfl
@[simp] theorem len_str : bLen [.d (.str x)] S = if x.length ≤ lim then .ok (.d (.int x.length)) S else .bad := id rfl
@[simp] theorem len_tup : bLen [.d (.tup l)] S = .ok (.d (.int l.length)) S := id rfl
@[simp] theorem len_lst : bLen [.d (.lst l)] S = .ok (.d (.int l.length)) S := id rfl
@[simp] theorem len_fls : bLen [.d (.fls l)] S = .ok (.d (.int l.length)) S := id rfl
@[simp] theorem abs_int : bAbs [.d (.int k)] S = .ok (.d (.int (if k < 0 then -k else k))) S := id rfl
@[simp] theorem int_int : bInt [.d (.int k)] S = .ok (.d (.int k)) S := id rfl
@[simp] theorem int_bl {c : Bool} : bInt [.d (.bl c)] S = .ok (.d (.int (if c then 1 else 0))) S := id rfl
@[simp] theorem max_int : bMax [.d (.int k), .d (.int m)] S = .ok (.d (.int (if m > k then m else k))) S := id rfl
@[simp] theorem min_int : bMin [.d (.int k), .d (.int m)] S = .ok (.d (.int (if m < k then m else k))) S := id rfl
@[simp] theorem tuple_lst : bTuple [.d (.lst l)] S = .ok (.d (.tup l)) S := id rfl
@[simp] theorem tuple_tup : bTuple [.d (.tup l)] S = .ok (.d (.tup l)) S := id rfl
@[simp] theorem list_lst : bList [.d (.lst l)] S = .ok (.d (.lst l)) S := id rfl
@[simp] theorem list_tup : bList [.d (.tup l)] S = .ok (.d (.lst l)) S := id rfl
@[simp] theorem str_int : bStr [.d (.int k)] S = if k.natAbs.log2 < 1920 then .ok (.d (.str (toString k))) S else .bad := id rfl
/-- what range says of its arguments -/
def rg1 (ds : List Wt) (S : Store) : Res (List D) := match ds with
  | [.d (.int j)] => if -(2 ^ 62) ≤ j ∧ j < 2 ^ 62 then .ok (rng 0 j.toNat) S else .bad
  | _ => .bad
def rg2 (ds : List Wt) (S : Store) : Res (List D) := match ds with
  | [.d (.int i), .d (.int j)] => if -(2 ^ 62) ≤ i ∧ i < 2 ^ 62 ∧ -(2 ^ 62) ≤ j ∧ j < 2 ^ 62 then .ok (rng i (j - i).toNat) S else .bad
  | _ => .bad
@[simp] theorem rng1_ap : iRng1 ga σ S = (ga σ S).bind rg1 := id rfl
@[simp] theorem rng2_ap : iRng2 ga σ S = (ga σ S).bind rg2 := id rfl
theorem rg1_int {j : Int} (h0 : -100000000 ≤ j) (h : j ≤ 100000000) : rg1 [.d (.int j)] S = .ok (rng 0 j.toNat) S := if_pos ⟨by omega, by omega⟩
theorem rg1_nat {j : Nat} (h : j ≤ 100000000) : rg1 [.d (.int (j : Int))] S = .ok (rng 0 j) S := rg1_int (by omega) (by omega)
theorem rg2_int {i j : Int} (h0 : -100000000 ≤ j) (h : j ≤ 100000000) (g0 : -100000000 ≤ i) (g : i ≤ 100000000) : rg2 [.d (.int i), .d (.int j)] S = .ok (rng i (j - i).toNat) S := if_pos ⟨by omega, by omega, by omega, by omega⟩
theorem ix_loc {N : Nat} (e : S[N]? = some (.lst l)) : opIx (.loc N) (.d (.int k)) S = optR S (atI l k) := by simp [opIx, deref, e, cellD]
theorem len_loc {N : Nat} (e : S[N]? = some (.lst l)) : bLen [.loc N] S = .ok (.d (.int l.length)) S := by simp [bLen, f1, deref, e, cellD]
theorem set_loc {N j : Nat} (e : S[N]? = some (.lst l)) (hj : ixN l.length k = some j) : setC (.loc N) (.d (.int k)) (.d d) S = .ok () (S.set N (.lst (l.set j d))) := by simp [setC, e, putC, hj]
theorem app_loc {N : Nat} (e : S[N]? = some (.lst l)) (hl : l.length < lim) : mApp (.loc N) [.d d] S = .ok (.d .non) (S.set N (.lst (l ++ [d]))) := by
  simp only [lim_eq] at hl
  simp [mApp, e, appC, hl]
theorem isLst_loc {N : Nat} (e : S[N]? = some (.lst l)) : isLst (.loc N) S = true := by simp [isLst, deref, e, cellD]
theorem tuple_loc {N : Nat} (e : S[N]? = some (.lst l)) : bTuple [.loc N] S = .ok (.d (.tup l)) S := by simp [bTuple, f1, deref, e, cellD]
@[simp] theorem isStr_d : isStr (.d (.str x)) S = true := id rfl
@[simp] theorem noEx_ok {α : Type} {a : α} : noEx (.ok a S) = .ok a S := id rfl
@[simp] theorem gSb_ap : gSb fa fb w σ S = noEx ((fa σ S).bind fun o S1 => (fb σ S1).bind fun i S2 => (setC o i w S2).bind fun _ S3 => .ok σ S3) := id rfl
@[simp] theorem take_self : S.take S.length = S := List.take_length
@[simp] theorem take_set {N : Nat} {c : Cell} : (S.set N c).take S.length = S.set N c := by
  have : (S.set N c).length = S.length := by simp
  rw [← this, List.take_length]
theorem take_new {T : Store} : (S ++ T).take S.length = S := by simp
@[simp] theorem sWhile_ap {N : Nat} : sWhile N t f b σ S = whileN t f N b σ S := id rfl
theorem while_turn {N : Nat} (hN : 0 < N) : whileN t f N b σ S = (t σ S).toS σ fun k S1 => if k = true then (match f b σ S1 with
    | .nx σd' S' => whileN t f (N - 1) b σd' S'
    | .ct σd' S' => whileN t f (N - 1) b σd' S'
    | .bk σd' S' => .nx σd' S'
    | r => r) else .nx σ S1 := by
  cases N with
  | zero => omega
  | succ N => rfl
/-- a def's call -/
theorem mkFn_eq {N M : Nat} {ds : List Wt} : mkFn N M f ds S = if ds.length = N then finish S.length (f S.length (ds.map some ++ List.replicate (M - N) none) S) else .bad := id rfl
@[simp] theorem fin_d : finish b (.rt (.d d) S) = .ok (.d d) (S.take b) := id rfl
@[simp] theorem fin_nx : finish b (.nx σ S) = .ok (.d .non) (S.take b) := id rfl
end
@[simp] theorem in_int : tyK.contains "int" = true := by decide
@[simp] theorem in_bool : tyK.contains "bool" = true := by decide
@[simp] theorem in_str : tyK.contains "str" = true := by decide
@[simp] theorem in_tuple : tyK.contains "tuple" = true := by decide
@[simp] theorem in_list : tyK.contains "list" = true := by decide
@[simp] theorem in_dict : tyK.contains "dict" = true := by decide
@[simp] theorem mem_int : "int" ∈ tyK := by decide
@[simp] theorem mem_bool : "bool" ∈ tyK := by decide
@[simp] theorem mem_str : "str" ∈ tyK := by decide
@[simp] theorem mem_tuple : "tuple" ∈ tyK := by decide
@[simp] theorem mem_list : "list" ∈ tyK := by decide
@[simp] theorem mem_dict : "dict" ∈ tyK := by decide
@[simp] theorem isT_NoneType_int : isT "NoneType" "int" = false := by decide
@[simp] theorem isT_NoneType_bool : isT "NoneType" "bool" = false := by decide
@[simp] theorem isT_NoneType_str : isT "NoneType" "str" = false := by decide
@[simp] theorem isT_NoneType_tuple : isT "NoneType" "tuple" = false := by decide
@[simp] theorem isT_NoneType_list : isT "NoneType" "list" = false := by decide
@[simp] theorem isT_NoneType_dict : isT "NoneType" "dict" = false := by decide
@[simp] theorem isT_bool_int : isT "bool" "int" = true := by decide
@[simp] theorem isT_bool_bool : isT "bool" "bool" = true := by decide
@[simp] theorem isT_bool_str : isT "bool" "str" = false := by decide
@[simp] theorem isT_bool_tuple : isT "bool" "tuple" = false := by decide
@[simp] theorem isT_bool_list : isT "bool" "list" = false := by decide
@[simp] theorem isT_bool_dict : isT "bool" "dict" = false := by decide
@[simp] theorem isT_int_int : isT "int" "int" = true := by decide
@[simp] theorem isT_int_bool : isT "int" "bool" = false := by decide
@[simp] theorem isT_int_str : isT "int" "str" = false := by decide
@[simp] theorem isT_int_tuple : isT "int" "tuple" = false := by decide
@[simp] theorem isT_int_list : isT "int" "list" = false := by decide
@[simp] theorem isT_int_dict : isT "int" "dict" = false := by decide
@[simp] theorem isT_str_int : isT "str" "int" = false := by decide
@[simp] theorem isT_str_bool : isT "str" "bool" = false := by decide
@[simp] theorem isT_str_str : isT "str" "str" = true := by decide
@[simp] theorem isT_str_tuple : isT "str" "tuple" = false := by decide
@[simp] theorem isT_str_list : isT "str" "list" = false := by decide
@[simp] theorem isT_str_dict : isT "str" "dict" = false := by decide
@[simp] theorem isT_tuple_int : isT "tuple" "int" = false := by decide
@[simp] theorem isT_tuple_bool : isT "tuple" "bool" = false := by decide
@[simp] theorem isT_tuple_str : isT "tuple" "str" = false := by decide
@[simp] theorem isT_tuple_tuple : isT "tuple" "tuple" = true := by decide
@[simp] theorem isT_tuple_list : isT "tuple" "list" = false := by decide
@[simp] theorem isT_tuple_dict : isT "tuple" "dict" = false := by decide
@[simp] theorem isT_list_int : isT "list" "int" = false := by decide
@[simp] theorem isT_list_bool : isT "list" "bool" = false := by decide
@[simp] theorem isT_list_str : isT "list" "str" = false := by decide
@[simp] theorem isT_list_tuple : isT "list" "tuple" = false := by decide
@[simp] theorem isT_list_list : isT "list" "list" = true := by decide
@[simp] theorem isT_list_dict : isT "list" "dict" = false := by decide
@[simp] theorem isT_dict_int : isT "dict" "int" = false := by decide
@[simp] theorem isT_dict_bool : isT "dict" "bool" = false := by decide
@[simp] theorem isT_dict_str : isT "dict" "str" = false := by decide
@[simp] theorem isT_dict_tuple : isT "dict" "tuple" = false := by decide
@[simp] theorem isT_dict_list : isT "dict" "list" = false := by decide
@[simp] theorem isT_dict_dict : isT "dict" "dict" = true := by decide
theorem asTys2 {n m : String} (hn : tyK.contains n = true) (hm : tyK.contains m = true) : asTys [.ty n, .ty m] = some [n, m] := by
  simp only [asTys, if_pos hn, if_pos hm, Option.map_some]
@[simp] theorem isi_non {n : String} {S : Store} : bIsi [.d (.non), .d (.ty n)] S = if tyK.contains n = true then .ok (.d (.bl (isT "NoneType" n))) S else .bad := id rfl
@[simp] theorem isi2_non {n m : String} {S : Store} (hn : tyK.contains n = true) (hm : tyK.contains m = true) : bIsi [.d (.non), .d (.tup [.ty n, .ty m])] S = .ok (.d (.bl (isT "NoneType" n || isT "NoneType" m))) S := by simp [bIsi, f2, tyN, asTys2 hn hm]
@[simp] theorem isi_bl {n : String} {c : Bool} {S : Store} : bIsi [.d (.bl c), .d (.ty n)] S = if tyK.contains n = true then .ok (.d (.bl (isT "bool" n))) S else .bad := id rfl
@[simp] theorem isi2_bl {n m : String} {c : Bool} {S : Store} (hn : tyK.contains n = true) (hm : tyK.contains m = true) : bIsi [.d (.bl c), .d (.tup [.ty n, .ty m])] S = .ok (.d (.bl (isT "bool" n || isT "bool" m))) S := by simp [bIsi, f2, tyN, asTys2 hn hm]
@[simp] theorem isi_int {n : String} {k : Int} {S : Store} : bIsi [.d (.int k), .d (.ty n)] S = if tyK.contains n = true then .ok (.d (.bl (isT "int" n))) S else .bad := id rfl
@[simp] theorem isi2_int {n m : String} {k : Int} {S : Store} (hn : tyK.contains n = true) (hm : tyK.contains m = true) : bIsi [.d (.int k), .d (.tup [.ty n, .ty m])] S = .ok (.d (.bl (isT "int" n || isT "int" m))) S := by simp [bIsi, f2, tyN, asTys2 hn hm]
@[simp] theorem isi_str {n : String} {x : Str} {S : Store} : bIsi [.d (.str x), .d (.ty n)] S = if tyK.contains n = true then .ok (.d (.bl (isT "str" n))) S else .bad := id rfl
@[simp] theorem isi2_str {n m : String} {x : Str} {S : Store} (hn : tyK.contains n = true) (hm : tyK.contains m = true) : bIsi [.d (.str x), .d (.tup [.ty n, .ty m])] S = .ok (.d (.bl (isT "str" n || isT "str" m))) S := by simp [bIsi, f2, tyN, asTys2 hn hm]
@[simp] theorem isi_tup {n : String} {l : List D} {S : Store} : bIsi [.d (.tup l), .d (.ty n)] S = if tyK.contains n = true then .ok (.d (.bl (isT "tuple" n))) S else .bad := id rfl
@[simp] theorem isi2_tup {n m : String} {l : List D} {S : Store} (hn : tyK.contains n = true) (hm : tyK.contains m = true) : bIsi [.d (.tup l), .d (.tup [.ty n, .ty m])] S = .ok (.d (.bl (isT "tuple" n || isT "tuple" m))) S := by simp [bIsi, f2, tyN, asTys2 hn hm]
@[simp] theorem isi_lst {n : String} {l : List D} {S : Store} : bIsi [.d (.lst l), .d (.ty n)] S = if tyK.contains n = true then .ok (.d (.bl (isT "list" n))) S else .bad := id rfl
@[simp] theorem isi2_lst {n m : String} {l : List D} {S : Store} (hn : tyK.contains n = true) (hm : tyK.contains m = true) : bIsi [.d (.lst l), .d (.tup [.ty n, .ty m])] S = .ok (.d (.bl (isT "list" n || isT "list" m))) S := by simp [bIsi, f2, tyN, asTys2 hn hm]
@[simp] theorem isi_fls {n : String} {l : List D} {S : Store} : bIsi [.d (.fls l), .d (.ty n)] S = if tyK.contains n = true then .ok (.d (.bl (isT "list" n))) S else .bad := id rfl
@[simp] theorem isi2_fls {n m : String} {l : List D} {S : Store} (hn : tyK.contains n = true) (hm : tyK.contains m = true) : bIsi [.d (.fls l), .d (.tup [.ty n, .ty m])] S = .ok (.d (.bl (isT "list" n || isT "list" m))) S := by simp [bIsi, f2, tyN, asTys2 hn hm]
@[simp] theorem isi_dct {n : String} {l : List D} {ks : List Key} {S : Store} : bIsi [.d (.dct ks l), .d (.ty n)] S = if tyK.contains n = true then .ok (.d (.bl (isT "dict" n))) S else .bad := id rfl
@[simp] theorem isi2_dct {n m : String} {l : List D} {ks : List Key} {S : Store} (hn : tyK.contains n = true) (hm : tyK.contains m = true) : bIsi [.d (.dct ks l), .d (.tup [.ty n, .ty m])] S = .ok (.d (.bl (isT "dict" n || isT "dict" m))) S := by simp [bIsi, f2, tyN, asTys2 hn hm]
section
variable {S : Store} {b c : Bool} {neg : Bool} {k : Int} {x : Str} {l : List D} {ks : List Key}
@[simp] theorem is_non : opIs neg (.d .non) (.d .non) S = .ok (.d (.bl (!neg))) S := id rfl
@[simp] theorem is_bl_non : opIs neg (.d (.bl b)) (.d .non) S = .ok (.d (.bl neg)) S := id rfl
@[simp] theorem is_int_non : opIs neg (.d (.int k)) (.d .non) S = .ok (.d (.bl neg)) S := id rfl
@[simp] theorem is_str_non : opIs neg (.d (.str x)) (.d .non) S = .ok (.d (.bl neg)) S := id rfl
@[simp] theorem is_tup_non : opIs neg (.d (.tup l)) (.d .non) S = .ok (.d (.bl neg)) S := id rfl
@[simp] theorem is_lst_non : opIs neg (.d (.lst l)) (.d .non) S = .ok (.d (.bl neg)) S := id rfl
@[simp] theorem is_dct_non : opIs neg (.d (.dct ks l)) (.d .non) S = .ok (.d (.bl neg)) S := id rfl
@[simp] theorem is_bl : opIs neg (.d (.bl b)) (.d (.bl c)) S = .ok (.d (.bl (if neg then !(b == c) else b == c))) S := id rfl
end
end Y
end
section
/-! Y17: loops and comprehensions reckoned. -/
namespace Y
open PySem PySem.Spec PyProof.Rows L2
section
variable {g : GM} {t : TM} {e : EM} {σw : Ev} {n b : Nat} {f : SM}
theorem lcN_keep {d y : D} {ds : List D} {acc : List D} {σ2 : Ev} {S S' S2 S3 : Store} {J : Store} (hn : S'.length = n) (h1 : g (.d d) σw S = .ok σ2 S2) (h2 : t σ2 S2 = .ok true S3) (h3 : e σ2 S3 = .ok (.d y) (S' ++ .lst acc :: J)) (hl : acc.length < lim) :
    lcN g t e σw n (d :: ds) S = lcN g t e σw n ds (S' ++ [.lst (acc ++ [y])]) := by
  have h4 : (S' ++ .lst acc :: J)[n]? = some (.lst acc) := by rw [List.getElem?_append_right (by omega), hn, Nat.sub_self]; rfl
  have h5 : ((S' ++ .lst acc :: J).set n (.lst (acc ++ [y]))).take (n + 1) = S' ++ [.lst (acc ++ [y])] := by
    rw [List.set_append_right _ _ (by omega), hn, Nat.sub_self, List.set_cons_zero, List.take_append, hn]
    simp [List.take_of_length_le (Nat.le_of_lt (show S'.length < n + 1 by omega))]
  simp only [lcN, h1, h2, h3, fz1_d, h4, addC, if_pos hl, h5]
theorem lcN_skip {d : D} {ds : List D} {acc : List D} {σ2 : Ev} {S S' S2 : Store} {J : Store} (hn : S'.length = n) (h1 : g (.d d) σw S = .ok σ2 S2) (h2 : t σ2 S2 = .ok false (S' ++ .lst acc :: J)) :
    lcN g t e σw n (d :: ds) S = lcN g t e σw n ds (S' ++ [.lst acc]) := by
  have h5 : (S' ++ .lst acc :: J).take (n + 1) = S' ++ [.lst acc] := by
    rw [List.take_append, hn]
    simp [List.take_of_length_le (Nat.le_of_lt (show S'.length < n + 1 by omega))]
  simp only [lcN, h1, h2, h5]
theorem lc_map (h : D → D) : ∀ (ds acc : List D) (S : Store), S.length = n → (∀ d ∈ ds, ∀ acc', ∃ σ2, g (.d d) σw (S ++ [.lst acc']) = .ok σ2 (S ++ [.lst acc']) ∧ t σ2 (S ++ [.lst acc']) = .ok true (S ++ [.lst acc']) ∧ e σ2 (S ++ [.lst acc']) = .ok (.d (h d)) (S ++ [.lst acc'])) →
    acc.length + ds.length ≤ lim → lcN g t e σw n ds (S ++ [.lst acc]) = some (S ++ [.lst (acc ++ ds.map h)])
  | [], acc, S, hn, _, _ => by simp [lcN]
  | d :: ds, acc, S, hn, hd, hl => by
    obtain ⟨σ2, h1, h2, h3⟩ := hd d (List.mem_cons_self ..) acc
    rw [List.length_cons] at hl
    rw [lcN_keep hn h1 h2 h3 (by omega), lc_map h ds _ S hn (fun x hx => hd x (List.mem_cons_of_mem _ hx)) (by rw [List.length_append, List.length_singleton]; omega)]
    simp
/-- with tests -/
theorem lc_filter (h : D → D) (q : D → Bool) : ∀ (ds acc : List D) (S : Store), S.length = n → (∀ d ∈ ds, ∀ acc', ∃ σ2, g (.d d) σw (S ++ [.lst acc']) = .ok σ2 (S ++ [.lst acc']) ∧ t σ2 (S ++ [.lst acc']) = .ok (q d) (S ++ [.lst acc']) ∧ (q d = true → e σ2 (S ++ [.lst acc']) = .ok (.d (h d)) (S ++ [.lst acc']))) →
    acc.length + ds.length ≤ lim → lcN g t e σw n ds (S ++ [.lst acc]) = some (S ++ [.lst (acc ++ (ds.filter q).map h)])
  | [], acc, S, hn, _, _ => by simp [lcN]
  | d :: ds, acc, S, hn, hd, hl => by
    obtain ⟨σ2, h1, h2, h3⟩ := hd d (List.mem_cons_self ..) acc
    rw [List.length_cons] at hl
    cases hq : q d with
    | true =>
      rw [hq] at h2
      rw [lcN_keep hn h1 h2 (h3 hq) (by omega), lc_filter h q ds _ S hn (fun x hx => hd x (List.mem_cons_of_mem _ hx)) (by rw [List.length_append, List.length_singleton]; omega)]
      simp [hq]
    | false =>
      rw [hq] at h2
      rw [lcN_skip hn h1 h2, lc_filter h q ds _ S hn (fun x hx => hd x (List.mem_cons_of_mem _ hx)) (by omega)]
      simp [hq]
theorem lc_run (I : Store → Prop) (P : D → Prop) : ∀ (ds acc : List D) (S : Store), S.length = n → I S → (∀ d ∈ ds, ∀ acc' S, S.length = n → I S → ∃ σ2 y S' J, g (.d d) σw (S ++ [.lst acc']) = .ok σ2 (S ++ [.lst acc']) ∧ t σ2 (S ++ [.lst acc']) = .ok true (S ++ [.lst acc']) ∧ e σ2 (S ++ [.lst acc']) = .ok (.d y) (S' ++ .lst acc' :: J) ∧ S'.length = n ∧ I S' ∧ P y) →
    acc.length + ds.length ≤ lim → ∃ ys S', lcN g t e σw n ds (S ++ [.lst acc]) = some (S' ++ [.lst (acc ++ ys)]) ∧ S'.length = n ∧ I S' ∧ ys.length = ds.length ∧ ∀ y ∈ ys, P y
  | [], acc, S, hn, hI, _, _ => ⟨[], S, by simp [lcN], hn, hI, rfl, fun _ h => nomatch h⟩
  | d :: ds, acc, S, hn, hI, hd, hl => by
    obtain ⟨σ2, y, S', J, h1, h2, h3, h4, h5, h6⟩ := hd d (List.mem_cons_self ..) acc S hn hI
    rw [List.length_cons] at hl
    obtain ⟨ys, S2, e2, q1, q2, q3, q4⟩ := lc_run I P ds (acc ++ [y]) S' h4 h5 (fun x hx => hd x (List.mem_cons_of_mem _ hx)) (by rw [List.length_append, List.length_singleton]; omega)
    refine ⟨y :: ys, S2, ?_, q1, q2, by simp [q3], fun z hz => ?_⟩
    · rw [lcN_keep h4 h1 h2 h3 (by omega), e2]
      simp
    · rcases List.mem_cons.mp hz with rfl | hz
      · exact h6
      · exact q4 z hz
theorem eLc_map {w : IM} {vs : List Nat} {σ : Ev} {S : Store} {ds : List D} (h : D → D) (hw : w σ S = .ok ds S) (hl : ds.length ≤ lim)
    (hd : ∀ d ∈ ds, ∀ acc', ∃ σ2, g (.d d) (wipeD σ vs) (S ++ [.lst acc']) = .ok σ2 (S ++ [.lst acc']) ∧ t σ2 (S ++ [.lst acc']) = .ok true (S ++ [.lst acc']) ∧ e σ2 (S ++ [.lst acc']) = .ok (.d (h d)) (S ++ [.lst acc'])) :
    eLc w g t e vs σ S = .ok (.d (.lst (ds.map h))) S := by
  show (w σ S).bind _ = _
  rw [hw, ok_bind, lc_map h ds [] S rfl hd (by simpa using hl)]
  simp [optS, finV]
theorem eLc_filter {w : IM} {vs : List Nat} {σ : Ev} {S : Store} {ds : List D} (h : D → D) (q : D → Bool) (hw : w σ S = .ok ds S) (hl : ds.length ≤ lim)
    (hd : ∀ d ∈ ds, ∀ acc', ∃ σ2, g (.d d) (wipeD σ vs) (S ++ [.lst acc']) = .ok σ2 (S ++ [.lst acc']) ∧ t σ2 (S ++ [.lst acc']) = .ok (q d) (S ++ [.lst acc']) ∧ (q d = true → e σ2 (S ++ [.lst acc']) = .ok (.d (h d)) (S ++ [.lst acc']))) :
    eLc w g t e vs σ S = .ok (.d (.lst ((ds.filter q).map h))) S := by
  show (w σ S).bind _ = _
  rw [hw, ok_bind, lc_filter h q ds [] S rfl hd (by simpa using hl)]
  simp [optS, finV]
theorem eLc_run {w : IM} {vs : List Nat} {σ : Ev} {S0 S : Store} {ds : List D} (I : Store → Prop) (P : D → Prop) (hw : w σ S0 = .ok ds S) (hI : I S) (hl : ds.length ≤ lim)
    (hd : ∀ d ∈ ds, ∀ acc' S', S'.length = S.length → I S' → ∃ σ2 y S'' J, g (.d d) (wipeD σ vs) (S' ++ [.lst acc']) = .ok σ2 (S' ++ [.lst acc']) ∧ t σ2 (S' ++ [.lst acc']) = .ok true (S' ++ [.lst acc']) ∧ e σ2 (S' ++ [.lst acc']) = .ok (.d y) (S'' ++ .lst acc' :: J) ∧ S''.length = S.length ∧ I S'' ∧ P y) :
    ∃ ys S', eLc w g t e vs σ S0 = .ok (.d (.lst ys)) S' ∧ S'.length = S.length ∧ I S' ∧ ys.length = ds.length ∧ ∀ y ∈ ys, P y := by
  obtain ⟨ys, S', e2, q1, q2, q3, q4⟩ := lc_run I P ds [] S rfl hI hd (by simpa using hl)
  refine ⟨ys, S', ?_, q1, q2, q3, q4⟩
  show (w σ S0).bind _ = _
  rw [hw, ok_bind, e2]
  simp [optS, finV, ← q1]
theorem for_run (I : List D → Ev → Store → Prop) : ∀ (ds : List D) (σ : Ev) (S : Store), I ds σ S → (∀ d ds σ S, I (d :: ds) σ S → ∃ σ1 S1 σ2 S2, g (.d d) σ S = .ok σ1 S1 ∧ f b σ1 S1 = .nx σ2 S2 ∧ I ds σ2 S2) →
    ∃ σ' S', forN g f ds b σ S = .nx σ' S' ∧ I [] σ' S'
  | [], σ, S, h, _ => ⟨σ, S, rfl, h⟩
  | d :: ds, σ, S, h, step => by
    obtain ⟨σ1, S1, σ2, S2, h1, h2, h3⟩ := step d ds σ S h
    obtain ⟨σ', S', h4, h5⟩ := for_run I ds σ2 S2 h3 step
    refine ⟨σ', S', ?_, h5⟩
    simp only [forN, h1, ok_toS, h2, h4]
/-- .. that may hand back -/
theorem for_ret (I : List D → Ev → Store → Prop) (P : Wt → Store → Prop) : ∀ (ds : List D) (σ : Ev) (S : Store), I ds σ S → (∀ d ds σ S, I (d :: ds) σ S → ∃ σ1 S1, g (.d d) σ S = .ok σ1 S1 ∧ ((∃ σ2 S2, f b σ1 S1 = .nx σ2 S2 ∧ I ds σ2 S2) ∨ ∃ w S2, f b σ1 S1 = .rt w S2 ∧ P w S2)) →
    (∃ σ' S', forN g f ds b σ S = .nx σ' S' ∧ I [] σ' S') ∨ ∃ w S', forN g f ds b σ S = .rt w S' ∧ P w S'
  | [], σ, S, h, _ => .inl ⟨σ, S, rfl, h⟩
  | d :: ds, σ, S, h, step => by
    obtain ⟨σ1, S1, h1, h2⟩ := step d ds σ S h
    rcases h2 with ⟨σ2, S2, h2, h3⟩ | ⟨w, S2, h2, h3⟩
    · rcases for_ret I P ds σ2 S2 h3 step with ⟨σ', S', h4, h5⟩ | ⟨w, S', h4, h5⟩
      · exact .inl ⟨σ', S', by simp only [forN, h1, ok_toS, h2, h4], h5⟩
      · exact .inr ⟨w, S', by simp only [forN, h1, ok_toS, h2, h4], h5⟩
    · exact .inr ⟨w, S2, by simp only [forN, h1, ok_toS, h2], h3⟩
end
theorem rng_mem {lo : Int} {n : Nat} {d : D} (h : d ∈ rng lo n) : ∃ i : Nat, i < n ∧ d = .int (lo + i) := by
  unfold rng at h
  obtain ⟨i, hi, rfl⟩ := List.mem_map.mp h
  exact ⟨i, List.mem_range.mp hi, rfl⟩
@[simp] theorem rng_length {lo : Int} {n : Nat} : (rng lo n).length = n := by simp [rng]
theorem all_true {l : List D} (h : ∀ d ∈ l, d = .bl true) : asBools l = some (l.map fun _ => true) := by
  induction l with
  | nil => rfl
  | cons d l ih =>
    obtain rfl := h d (List.mem_cons_self ..)
    simp [asBools, ih fun x hx => h x (List.mem_cons_of_mem _ hx)]
theorem asBools_map {α : Type} (l : List α) (q : α → Bool) : asBools (l.map fun a => .bl (q a)) = some (l.map q) := by
  induction l with
  | nil => rfl
  | cons d l ih => simp [asBools, ih]
theorem bLst_ok {α : Type} {as : List D → Option (List α)} {k : List α → Store → Res Wt} {l : List D} {bs : List α} {S : Store} (h : as l = some bs) : bLst as k [.d (.lst l)] S = k bs S := by
  unfold bLst f1
  simp only [deref_d, h]
theorem all_ok {l : List D} {S : Store} (h : ∀ d ∈ l, d = .bl true) : bAll [.d (.lst l)] S = .ok (.d (.bl true)) S := by
  refine (bLst_ok (all_true h)).trans ?_
  simp
theorem all_map {α : Type} {l : List α} {q : α → Bool} {S : Store} : bAll [.d (.lst (l.map fun a => .bl (q a)))] S = .ok (.d (.bl (l.all q))) S := by
  refine (bLst_ok (asBools_map l q)).trans ?_
  simp [List.all_map, Function.comp_def]
theorem any_map_ok {α : Type} {l : List α} {q : α → Bool} {S : Store} : bAny [.d (.lst (l.map fun a => .bl (q a)))] S = .ok (.d (.bl (l.any q))) S := by
  refine (bLst_ok (asBools_map l q)).trans ?_
  simp [List.any_map, Function.comp_def]
end Y
end
section
/-! Y18: list comprehensions of two clauses. -/
namespace Y
open PySem PySem.Spec PyProof.Rows L2

def addM (n m : Nat) (y : D) (S : Store) : Option Cell → Option Store
  | some (.lst acc) => if acc.length < lim then some ((S.set n (.lst (acc ++ [y]))).take m) else none
  | _ => none
/-- as lcN, the cells below m kept -/
def lcM (g : GM) (t : TM) (e : EM) (σw : Ev) (n m : Nat) : List D → Store → Option Store
  | [], S => some S
  | d :: ds, S => match g (.d d) σw S with
    | .ok σ2 S2 => match t σ2 S2 with
      | .ok true S3 => match e σ2 S3 with
        | .ok w S4 => match fz1 S4 w with
          | .ok y S5 => match addM n m y S5 S5[n]? with
            | some S6 => lcM g t e σw n m ds S6
            | none => none
          | _ => none
        | _ => none
      | .ok false S3 => lcM g t e σw n m ds (S3.take m)
      | _ => none
    | _ => none
theorem lcM_eq {g : GM} {t : TM} {e : EM} {σw : Ev} {n : Nat} : ∀ (ds : List D) (S : Store), lcM g t e σw n (n + 1) ds S = lcN g t e σw n ds S
  | [], S => rfl
  | d :: ds, S => by
    unfold lcM lcN
    cases g (.d d) σw S with
    | bad => rfl
    | exc _ _ _ _ => rfl
    | ok σ2 S2 =>
      dsimp only
      cases t σ2 S2 with
      | bad => rfl
      | exc _ _ _ _ => rfl
      | ok b S3 =>
        cases b with
        | false => exact lcM_eq ds _
        | true =>
          dsimp only
          cases e σ2 S3 with
          | bad => rfl
          | exc _ _ _ _ => rfl
          | ok w S4 =>
            dsimp only
            cases fz1 S4 w with
            | bad => rfl
            | exc _ _ _ _ => rfl
            | ok y S5 =>
              dsimp only
              have : addM n (n + 1) y S5 S5[n]? = addC n y S5 S5[n]? := by
                cases S5[n]? with
                | none => rfl
                | some c => cases c <;> rfl
              rw [this]
              cases addC n y S5 S5[n]? with
              | none => rfl
              | some S6 => exact lcM_eq ds S6
def lc2N (g : GM) (t : TM) (w1 : IM) (g1 : GM) (t1 : TM) (e : EM) (σw : Ev) (vs1 : List Nat) (n : Nat) : List D → Store → Option Store
  | [], S => some S
  | d :: ds, S => match g (.d d) σw S with
    | .ok σ2 S2 => match t σ2 S2 with
      | .ok true S3 => match w1 σ2 S3 with
        | .ok ds1 S4 => match lcM g1 t1 e (wipeD σ2 vs1) n S4.length ds1 S4 with
          | some S5 => lc2N g t w1 g1 t1 e σw vs1 n ds (S5.take (n + 1))
          | none => none
        | _ => none
      | .ok false S3 => lc2N g t w1 g1 t1 e σw vs1 n ds (S3.take (n + 1))
      | _ => none
    | _ => none
def eLc2G (fin : Nat → Store → Res Wt) (w : IM) (g : GM) (t : TM) (w1 : IM) (g1 : GM) (t1 : TM) (e : EM) (vs vs1 : List Nat) : EM := fun σd S => (w σd S).bind fun ds S1 => optS (lc2N g t w1 g1 t1 e (wipeD σd vs) vs1 S1.length ds (S1 ++ [.lst []])) (fin S1.length)
abbrev eLc2 := eLc2G finV
abbrev eLc2L := eLc2G finL
section
variable {K : PySem.W.Frag} {hx : Hx} {W : WX} {w w1 : IM} {g g1 : GM} {t t1 : TM} {e : EM} {vs vs1 is is1 : List Nat} {fin : Nat → Store → Res Wt}
theorem stp_cell {A : Ads} {S : Store} {H : Hp} {Ab : Ads} {Sb : Store} {Hb : Hp} (Rb : Rel K Ab Sb Hb) (T : Stp Ab Sb Hb A S H) {m : Nat} (hm : Sb.length = m) : Stp Ab Sb Hb (A.take m) (S.take m) H := by
  have := T.take Rb
  rw [hm] at this
  exact this
theorem lc2_of (fo : FinOk fin) (hs : ∀ i ∈ is, i ∈ vs) (hs1 : ∀ i ∈ is1, i ∈ vs1) {σ : L2.St} {H : Hp} {Q : VK} (h : tE ⟨K, hx, W⟩ (eLc2G fin w g t w1 g1 t1 e vs vs1) σ H Q) :
    tLc2 (tI ⟨K, hx, W⟩ w) (tG (cno K hx) is g) (tT (cno K hx) t) (tI (cno K hx) w1) (tG (cno K hx) is1 g1) (tT (cno K hx) t1) (tE (cno K hx) e) vs vs1 σ H Q := by
  obtain ⟨A, S, σd, R, E, p⟩ := h
  refine ⟨A, S, σd, R, E, (Post.bind (R1 := rIt ⟨K, hx, W⟩) p).mono fun J H1 ⟨A1, S1, ds, R1, T1, j1, p1⟩ => ?_⟩
  intro D hD
  cases hq : lc2N g t w1 g1 t1 e (wipeD σd vs) vs1 S1.length ds (S1 ++ [.lst []]) with
  | none => rw [hq] at p1; exact p1.elim
  | some Sf =>
    rw [hq] at p1
    have p1 : Post ⟨K, hx, W⟩ (rV ⟨K, hx, W⟩) σ A1 S1 H1 Q (fin S1.length Sf) := p1
    obtain ⟨Rb, Tb⟩ := Rel.alloc (c := .lst []) (o := .lst []) R1 hD ⟨[], upd_same, .nil⟩
    have hAb : (A1 ++ [some D])[S1.length]? = some (some D) := by rw [← R1.len]; simp
    have hlb : (S1 ++ [Cell.lst []]).length = S1.length + 1 := by simp
    have E1 := E.step R T1
    have Ew := (E1.step R1 Tb).wipe vs
    generalize hAe : A1 ++ [some D] = Ab at Rb Tb hAb Ew
    generalize hSe : S1 ++ [Cell.lst []] = Sb at Rb Tb hlb hq Ew
    generalize hHe : upd H1 D (.lst []) = Hb at Rb Tb Ew
    refine ⟨fun i m H => i + m = ds.length ∧ ∃ A S, Rel K A S H ∧ Stp Ab Sb Hb A S H ∧ lc2N g t w1 g1 t1 e (wipeD σd vs) vs1 S1.length (ds.drop i) S = some Sf, ⟨ds.length, Nat.zero_add _, Ab, Sb, Rb, .refl, hq⟩, ?_⟩
    rintro i m H ⟨hm, A, S, R, T, q⟩
    obtain ⟨go, stop, yld⟩ := j1 A S H R (Tb.trans T).fr
    by_cases hlt : i < ds.length
    · refine .inr ⟨go i hlt, fun H => i + 1 + (m - 1) = ds.length ∧ ∃ A S, Rel K A S H ∧ Stp Ab Sb Hb A S H ∧ lc2N g t w1 g1 t1 e (wipeD σd vs) vs1 S1.length (ds.drop (i + 1)) S = some Sf, fun H' h => ⟨m - 1, by omega, h⟩, fun x H' y => ?_⟩
      obtain ⟨d, hd, R2, T2, r2⟩ := yld i x H' hlt y
      rw [drop_cons hd] at q
      unfold lc2N at q
      cases qg : g (.d d) (wipeD σd vs) S with
      | bad => rw [qg] at q; cases q
      | exc C ns l S' => rw [qg] at q; cases q
      | ok σ2d S2 =>
        rw [qg] at q
        dsimp only at q
        refine ⟨A, S, wipeD σd vs, .d d, R2, Ew.step Rb (T.trans T2), RV.of r2, ?_⟩
        rw [qg]
        intro A2 H2 σ2 R3 T3 ⟨E3, sm⟩
        refine ⟨by rw [sm.wipe hs, wipe_wipe], ?_⟩
        cases qt : t σ2d S2 with
        | bad => rw [qt] at q; cases q
        | exc C ns l S' => rw [qt] at q; cases q
        | ok b S3 =>
          rw [qt] at q
          refine ⟨A2, S2, σ2d, R3, E3, ?_⟩
          rw [qt]
          intro A3 H3 b' R4 T4 hb
          have hb : b = b' := hb
          subst hb
          have T' := ((T.trans T2).trans T3).trans T4
          cases b with
          | false =>
            rw [if_neg Bool.false_ne_true]
            dsimp only at q
            exact ⟨by omega, A3.take (S1.length + 1), S3.take (S1.length + 1), R4.take _, stp_cell Rb T' hlb, q⟩
          | true =>
            rw [if_pos rfl]
            dsimp only at q
            cases qw : w1 σ2d S3 with
            | bad => rw [qw] at q; cases q
            | exc C ns l S' => rw [qw] at q; cases q
            | ok ds1 S4 =>
              rw [qw] at q
              dsimp only at q
              refine ⟨A3, S3, σ2d, R4, E3.step R3 T4, ?_⟩
              rw [qw]
              intro A4 H4 J1 R5 T5 k1
              have E4 := ((E3.step R3 T4).step R4 T5).wipe vs1
              have T4' := T'.trans T5
              cases qi : lcM g1 t1 e (wipeD σ2d vs1) S1.length S4.length ds1 S4 with
              | none => rw [qi] at q; cases q
              | some S5 =>
                rw [qi] at q
                dsimp only at q
                have hln : S1.length < S4.length := by
                  have a1 := T4'.le
                  rw [Rb.len, R5.len, hlb] at a1
                  omega
                refine ⟨fun j k H => j + k = ds1.length ∧ ∃ A S, Rel K A S H ∧ Stp A4 S4 H4 A S H ∧ lcM g1 t1 e (wipeD σ2d vs1) S1.length S4.length (ds1.drop j) S = some S5, ⟨ds1.length, Nat.zero_add _, A4, S4, R5, .refl, qi⟩, ?_⟩
                rintro j k H ⟨hk, A, S, R, T, q1⟩
                obtain ⟨go1, stop1, yld1⟩ := k1 A S H R T.fr
                by_cases hlt1 : j < ds1.length
                · refine .inr ⟨go1 j hlt1, fun H => j + 1 + (k - 1) = ds1.length ∧ ∃ A S, Rel K A S H ∧ Stp A4 S4 H4 A S H ∧ lcM g1 t1 e (wipeD σ2d vs1) S1.length S4.length (ds1.drop (j + 1)) S = some S5, fun H' h => ⟨k - 1, by omega, h⟩, fun x H' y => ?_⟩
                  obtain ⟨d1, hd1, R6, T6, r6⟩ := yld1 j x H' hlt1 y
                  rw [drop_cons hd1] at q1
                  unfold lcM at q1
                  cases qg1 : g1 (.d d1) (wipeD σ2d vs1) S with
                  | bad => rw [qg1] at q1; cases q1
                  | exc C ns l S' => rw [qg1] at q1; cases q1
                  | ok σ3d S6 =>
                    rw [qg1] at q1
                    dsimp only at q1
                    refine ⟨A, S, wipeD σ2d vs1, .d d1, R6, E4.step R5 (T.trans T6), RV.of r6, ?_⟩
                    rw [qg1]
                    intro A7 H7 σ3 R7 T7 ⟨E7, sm7⟩
                    refine ⟨by rw [sm7.wipe hs1, wipe_wipe], ?_⟩
                    cases qt1 : t1 σ3d S6 with
                    | bad => rw [qt1] at q1; cases q1
                    | exc C ns l S' => rw [qt1] at q1; cases q1
                    | ok b1 S8 =>
                      rw [qt1] at q1
                      refine ⟨A7, S6, σ3d, R7, E7, ?_⟩
                      rw [qt1]
                      intro A8 H8 b1' R8 T8 hb1
                      have hb1 : b1 = b1' := hb1
                      subst hb1
                      have U := ((T.trans T6).trans T7).trans T8
                      cases b1 with
                      | false =>
                        rw [if_neg Bool.false_ne_true]
                        dsimp only at q1
                        exact ⟨by omega, A8.take S4.length, S8.take S4.length, R8.take _, stp_cell R5 U rfl, q1⟩
                      | true =>
                        rw [if_pos rfl]
                        dsimp only at q1
                        cases qe : e σ3d S8 with
                        | bad => rw [qe] at q1; cases q1
                        | exc C ns l S' => rw [qe] at q1; cases q1
                        | ok w9 S9 =>
                          rw [qe] at q1
                          dsimp only at q1
                          refine ⟨A8, S8, σ3d, R8, E7.step R7 T8, ?_⟩
                          rw [qe]
                          intro A9 H9 y9 R9 T9 r9
                          cases qf : fz1 S9 w9 with
                          | bad => rw [qf] at q1; cases q1
                          | exc C ns l S' => rw [qf] at q1; cases q1
                          | ok yd S10 =>
                            rw [qf] at q1
                            dsimp only at q1
                            obtain ⟨R10, T10, r10⟩ := fz1_ok R9 r9 qf
                            have U' := (U.trans T9).trans T10
                            have hA9 := U'.ext _ _ (T4'.ext _ _ hAb)
                            obtain ⟨cl, u, hcl, hu, ok⟩ := R10.known hA9
                            rw [hcl] at q1
                            cases cl with
                            | lst acc =>
                              obtain ⟨us, h1, h2⟩ := ok
                              unfold addM at q1
                              dsimp only at q1
                              by_cases hz : acc.length < lim
                              · rw [if_pos hz] at q1
                                dsimp only at q1
                                obtain ⟨R11, T11⟩ := R10.putL hA9 hcl (h2.append (.one r10))
                                exact ⟨us, h1, by rw [← h2.len]; exact lim_lt hz, by omega, A9.take S4.length, _, R11.take _, stp_cell R5 (U'.trans T11) rfl, q1⟩
                              · rw [if_neg hz] at q1; cases q1
                            | _ => cases q1
                · have ej : j = ds1.length := by omega
                  subst ej
                  rw [List.drop_length] at q1
                  cases q1
                  exact .inl ⟨stop1, by omega, A.take (S1.length + 1), _, R.take _, stp_cell Rb (T4'.trans T) hlb, q⟩
    · have e : i = ds.length := by omega
      subst e
      rw [List.drop_length] at q
      cases q
      exact .inl ⟨stop, fo ⟨K, hx, W⟩ σ A1 A S1 _ H1 H D Q R1 R (Tb.trans T) (T.ext _ _ hAb) p1⟩
end
section
variable {X : Cx} {hx : Hx} {elt tg iter tg1 iter1 : Expr} {ifs ifs1 : List Expr} {scope : Scope} {own : List (Str × Nat)} {pos : Pos} {w w1 : IM} {g g1 : GM} {t t1 : TM} {e : EM} {is is1 vs1 : List Nat} {fin : Nat → Store → Res Wt}
theorem d_lc2G (fo : FinOk fin) (hc : X.calm = true) (hN : X.N.Nodup) (own : List (Str × Nat)) (vs1 : List Nat) (hi : DI X hx tg iter w) (ok : BlkOk X.N X.env.scope scope own) (hv : ∀ i ∈ vs1, i ∈ own.map (·.2)) (hs' : ∀ i ∈ is, i ∈ own.map (·.2)) (hs1' : ∀ i ∈ is1, i ∈ vs1)
    (hg : ∀ (s : Shared) (H : Hp) (C : Addr) (cl : List (Str × Addr)) (fp : List Addr), DG (X.blk s H scope (compEnvC scope cl C X.env) fp) hx tg is g)
    (ht : ∀ (s : Shared) (H : Hp) (C : Addr) (cl : List (Str × Addr)) (fp : List Addr), DTs (X.blk s H scope (compEnvC scope cl C X.env) fp) hx ifs t)
    (hi1 : ∀ (s : Shared) (H : Hp) (C : Addr) (cl : List (Str × Addr)) (fp : List Addr), DI (X.blk s H scope (compEnvC scope cl C X.env) fp) hx tg1 iter1 w1)
    (hg1 : ∀ (s : Shared) (H : Hp) (C : Addr) (cl : List (Str × Addr)) (fp : List Addr), DG (X.blk s H scope (compEnvC scope cl C X.env) fp) hx tg1 is1 g1)
    (ht1 : ∀ (s : Shared) (H : Hp) (C : Addr) (cl : List (Str × Addr)) (fp : List Addr), DTs (X.blk s H scope (compEnvC scope cl C X.env) fp) hx ifs1 t1)
    (he : ∀ (s : Shared) (H : Hp) (C : Addr) (cl : List (Str × Addr)) (fp : List Addr), DE (X.blk s H scope (compEnvC scope cl C X.env) fp) hx elt e) (hs : ∀ x, foldedSetIterable iter X.env x = pure x := by intro _; rfl) (hs1 : ∀ env x, foldedSetIterable iter1 env x = pure x := by intro _ _; rfl) :
    DE X hx (.ListComp elt [⟨tg, iter, ifs, 0⟩, ⟨tg1, iter1, ifs1, 0⟩] scope pos) (eLc2G fin w g t w1 g1 t1 e (own.map (·.2)) vs1) :=
  ⟨fun W tk => PEimp (pe_lc2 hc hN (hi.run W tk) ok hv (fun s H C cl fp => (hg s H C cl fp).run _ takes_no) (fun s H C cl fp => (ht s H C cl fp).run _ takes_no) (fun s H C cl fp => (hi1 s H C cl fp).run _ takes_no) (fun s H C cl fp => (hg1 s H C cl fp).run _ takes_no) (fun s H C cl fp => (ht1 s H C cl fp).run _ takes_no) (fun s H C cl fp => (he s H C cl fp).run _ takes_no) hs hs1) fun σ H Q h => lc2_of fo hs' hs1' h⟩
theorem ds_setLc2G {i : Nat} {y : Str} {py spos : Pos} (fo : FinOk fin) (hc : X.calm = true) (hN : X.N.Nodup) (own : List (Str × Nat)) (vs1 : List Nat) (hi : DI X hx tg iter w) (ok : BlkOk X.N X.env.scope scope own) (hv : ∀ i ∈ vs1, i ∈ own.map (·.2)) (hs' : ∀ i ∈ is, i ∈ own.map (·.2)) (hs1' : ∀ i ∈ is1, i ∈ vs1)
    (hg : ∀ (s : Shared) (H : Hp) (C : Addr) (cl : List (Str × Addr)) (fp : List Addr), DG (X.blk s H scope (compEnvC scope cl C X.env) fp) hx tg is g)
    (ht : ∀ (s : Shared) (H : Hp) (C : Addr) (cl : List (Str × Addr)) (fp : List Addr), DTs (X.blk s H scope (compEnvC scope cl C X.env) fp) hx ifs t)
    (hi1 : ∀ (s : Shared) (H : Hp) (C : Addr) (cl : List (Str × Addr)) (fp : List Addr), DI (X.blk s H scope (compEnvC scope cl C X.env) fp) hx tg1 iter1 w1)
    (hg1 : ∀ (s : Shared) (H : Hp) (C : Addr) (cl : List (Str × Addr)) (fp : List Addr), DG (X.blk s H scope (compEnvC scope cl C X.env) fp) hx tg1 is1 g1)
    (ht1 : ∀ (s : Shared) (H : Hp) (C : Addr) (cl : List (Str × Addr)) (fp : List Addr), DTs (X.blk s H scope (compEnvC scope cl C X.env) fp) hx ifs1 t1)
    (he : ∀ (s : Shared) (H : Hp) (C : Addr) (cl : List (Str × Addr)) (fp : List Addr), DE (X.blk s H scope (compEnvC scope cl C X.env) fp) hx elt e)
    (hy : X.N[i]? = some y := by rfl) (hyl : X.env.scope.names.lookup y = some .local := by rfl)
    (hsw : swapsWith (.ListComp elt [⟨tg, iter, ifs, 0⟩, ⟨tg1, iter1, ifs1, 0⟩] scope pos) (some (.Name y py)) spos.line X.env = pure true := by first | exact sw_true rfl rfl rfl rfl) (hs : ∀ x, foldedSetIterable iter X.env x = pure x := by intro _; rfl) (hs1 : ∀ env x, foldedSetIterable iter1 env x = pure x := by intro _ _; rfl) :
    DS X hx (.Assign [.Name y py] (.ListComp elt [⟨tg, iter, ifs, 0⟩, ⟨tg1, iter1, ifs1, 0⟩] scope pos) spos) (sSet i (eLc2G fin w g t w1 g1 t1 e (own.map (·.2)) vs1)) :=
  ⟨fun W tk => PSimp (ps_setLc2 hc hN hy hyl hsw (hi.run W tk) ok hv (fun s H C cl fp => (hg s H C cl fp).run _ takes_no) (fun s H C cl fp => (ht s H C cl fp).run _ takes_no) (fun s H C cl fp => (hi1 s H C cl fp).run _ takes_no) (fun s H C cl fp => (hg1 s H C cl fp).run _ takes_no) (fun s H C cl fp => (ht1 s H C cl fp).run _ takes_no) (fun s H C cl fp => (he s H C cl fp).run _ takes_no) hs hs1) fun σ H D ⟨b0, A0, S0, H0, A, S, σd, R0, T, R, E, p⟩ =>
    lc2_of (W := W) fo hs' hs1' ⟨A, S, σd, R, E, (Post.ofS (R1 := rV _) R T E p).mono fun v H1 ⟨A1, S1, d, R1, T1, E1, r1, p1⟩ => p1 A1 H1 _ R1 T1 (E1.set r1)⟩⟩
end
end Y
end
section
/-! Y19: own exceptions with an __init__ that keeps what it is given: raise. -/
namespace Y
open PySem PySem.Spec PyProof.Rows L2

/-- what the top says of such a class -/
def oexB (K : PySem.W.Frag) (C : Addr) : Bool := (match K.lookup C with
  | some ⟨.type "type", _, .cls cd, sl⟩ => (match cd.mro, sl.toList with
    | .ref C' :: bm, [_, _, _, _, some (.builtin n), _] => decide (C' = C) && (decide (n = "ValueError.__new__") && (!cd.hasDel && (cd.hasDict && PySem.HandSPX.refsVE bm)))
    | _, _ => false)
  | _ => false) && (decide (PySem.W.findIn K (.ref C) "__setattr__" = some (some (.builtin "object.__setattr__"))) && (decide (PySem.W.subIn K (.ref C) (.type "BaseException") = some true) &&
    (decide (PySem.W.typeIn K (.ref C) = some (.type "type")) && PySem.W.keepIn K (.ref C))))
theorem oexB_ok {K : PySem.W.Frag} {C : Addr} (h : oexB K C = true) : OexC K C := by
  unfold oexB at h
  simp only [Bool.and_eq_true, decide_eq_true_eq] at h
  obtain ⟨h0, h1, h2, h3, h4⟩ := h
  refine ⟨?_, h1, h2, h3, h4⟩
  split at h0
  · rename_i dd cd sl ho
    split at h0
    · rename_i C' bm k0 k1 k2 k3 n k5 hm hs
      simp only [Bool.and_eq_true, decide_eq_true_eq, Bool.not_eq_true'] at h0
      obtain ⟨rfl, rfl, hdel, hdict, ht⟩ := h0
      obtain ⟨nm, bs, mro, ns, qn, hd, sn, sub, ab, col, del⟩ := cd
      dsimp only at hm hdel hdict
      subst hm hdel hdict
      have hsl : sl = #[k0, k1, k2, k3, some (.builtin "ValueError.__new__"), k5] := by
        obtain ⟨l⟩ := sl
        simp only at hs
        rw [hs]
      subst hsl
      exact ⟨nm, qn, ns, bs, bm, sn, sub, ab, col, dd, k0, k1, k2, k3, k5, ho, ht⟩
    · cases h0
  · cases h0
end Y
end
section
/-! Y20: list(range(..)), tuple(range(..)), methods of texts and lists. -/
namespace Y
open PySem PySem.Spec PyProof.Rows L2
section
variable {X : Cx} {hx : Hx}
/-! ### ranges as arguments -/
def rgOk (i j : Int) : Bool := decide (-(2 ^ 62) ≤ i ∧ i < 2 ^ 62 ∧ -(2 ^ 62) ≤ j ∧ j < 2 ^ 62 ∧ (j - i).toNat ≤ 16777216)
theorem rgOk_ok {i j : Int} (h : rgOk i j = true) : RgOk i j := by
  unfold rgOk at h
  have := of_decide_eq_true h
  exact ⟨this.1, this.2.1, this.2.2.1, this.2.2.2.1, by have := this.2.2.2.2; omega⟩
def rgS (i j : Int) (k : List D → Store → Res Wt) (S : Store) : Res Wt := if rgOk i j = true then k (rng i (j - i).toNat) S else .bad
def rgB (i : Int) (k : List D → Store → Res Wt) (w : Wt) (S : Store) : Res Wt := match w with
  | .d (.int j) => rgS i j k S
  | _ => .bad
def rgA (fb : EM) (σd : Ev) (k : List D → Store → Res Wt) (v : Wt) (S : Store) : Res Wt := match v with
  | .d (.int i) => (fb σd S).bind fun w S2 => rgB i k w S2
  | _ => .bad
def eRgK (k : List D → Store → Res Wt) (fa fb : EM) : EM := fun σd S => (fa σd S).bind fun v S1 => rgA fb σd k v S1
def eRgK1 (k : List D → Store → Res Wt) (fa : EM) : EM := fun σd S => (fa σd S).bind fun v S1 => rgB 0 k v S1
def kLst : List D → Store → Res Wt := fun l S => .ok (.d (.lst l)) S
def kLstL : List D → Store → Res Wt := fun l S => .ok (.loc S.length) (S ++ [.lst l])
def kTup : List D → Store → Res Wt := fun l S => .ok (.d (.tup l)) S
theorem rps_rng {K : PySem.W.Frag} {lv : Addr → Prop} {H : Hp} {i : Int} {j : Int} : RPs K lv H (rng i (j - i).toNat) (rgV i j) := by
  unfold rng rgV
  generalize (List.range (j - i).toNat) = l
  induction l with
  | nil => exact .nil
  | cons a l ih => exact .cons (.int _) ih
def RgK (o : List V → HO) (k : List D → Store → Res Wt) : Prop := ∀ {c : Cn} {σ : L2.St} {A : Ads} {S : Store} {H : Hp} {Q : VK} {l : List D} {vs : List V} {p : Addr}, Post c (rV c) σ A S H Q (k l S) → Rel c.K A S H → RPs c.K (Live A S) H l vs → H p = none → Q (.ref p) (upd H p (o vs))
theorem k_lst : RgK .lst kLst := fun q R r h => Post.lst q R r h
theorem k_lstL : RgK .lst kLstL := fun q R r h => Post.alloc q R r h
theorem k_tup : RgK .tup kTup := fun q R r h => Post.tup q R r h
theorem rgB_ok {o : List V → HO} {k : List D → Store → Res Wt} (ok : RgK o k) {c : Cn} {σ : L2.St} {A : Ads} {S : Store} {H : Hp} {Q : VK} {i : Int} {w : Wt} {y : V} (R : Rel c.K A S H) (r : rV c A S H w y) (p : Post c (rV c) σ A S H Q (rgB i k w S)) :
    ∃ j, y = .int j ∧ RgOk i j ∧ ∀ q, H q = none → Q (.ref q) (upd H q (o (rgV i j))) := by
  unfold rgB at p
  split at p
  · rename_i j
    obtain rfl := rv_int r
    obtain ⟨hz, p⟩ := Post.iteP p
    exact ⟨j, rfl, rgOk_ok hz, fun q hq => ok p R rps_rng hq⟩
  · exact p.elim
theorem rg1_of {o : List V → HO} {k : List D → Store → Res Wt} (ok : RgK o k) {c : Cn} {fa : EM} {σ : L2.St} {H : Hp} {Q : VK} (h : tE c (eRgK1 k fa) σ H Q) :
    tRg1 (tE c fa) σ H fun a b H1 => RgOk a b ∧ ∀ q, H1 q = none → Q (.ref q) (upd H1 q (o (rgV a b))) := by
  obtain ⟨A, S, σd, R, E, p⟩ := h
  refine ⟨A, S, σd, R, E, (Post.bind (R1 := rV _) p).mono fun v H1 ⟨A1, S1, d, R1, T1, r1, p1⟩ => ?_⟩
  obtain ⟨j, rfl, h1, h2⟩ := rgB_ok ok R1 r1 p1
  exact ⟨j, rfl, h1, h2⟩
theorem rg2_of {o : List V → HO} {k : List D → Store → Res Wt} (ok : RgK o k) {c : Cn} {fa fb : EM} {σ : L2.St} {H : Hp} {Q : VK} (h : tE c (eRgK k fa fb) σ H Q) :
    tRg2 (tE c fa) (tE c fb) σ H fun a b H1 => RgOk a b ∧ ∀ q, H1 q = none → Q (.ref q) (upd H1 q (o (rgV a b))) := by
  obtain ⟨A, S, σd, R, E, p⟩ := h
  refine ⟨A, S, σd, R, E, (Post.bind (R1 := rV _) p).mono fun v H1 ⟨A1, S1, d, R1, T1, r1, p1⟩ => ?_⟩
  unfold rgA at p1
  split at p1
  · rename_i i
    obtain rfl := rv_int r1
    refine ⟨A1, S1, σd, R1, E.step R T1, (Post.bind (R1 := rV _) p1).mono fun w H2 ⟨A2, S2, d2, R2, T2, r2, p2⟩ => ?_⟩
    obtain ⟨j, rfl, h1, h2⟩ := rgB_ok ok R2 r2 p2
    exact ⟨i, j, rfl, rfl, h1, h2⟩
  · exact p1.elim
variable {a b : Expr} {fa fb : EM} {k : List D → Store → Res Wt} {p p2 pos pos2 : Pos}
theorem d_listRg2 (ok : RgK .lst k) (hc : X.calm = true) (hl : X.mg "list" = none) (hm : X.mg "range" = none) (ha : DE X hx a fa) (hb : DE X hx b fb) (hgl : Gl X "list" := by rfl) (hg : Gl X "range" := by rfl)
    (na : starEach [a, b] X.env = (false, eval a X.env) :: starEach [b] X.env := by rfl) (nb : starEach [b] X.env = (false, eval b X.env) :: starEach [] X.env := by rfl) (hp : (backTo pos2 (starEach [b] X.env)).any (·.1) = false := by rfl)
    (ne : starEach [.Call (.Name "range" p2) [a, b] [] pos2] X.env = (false, eval (.Call (.Name "range" p2) [a, b] [] pos2) X.env) :: starEach [] X.env := by rfl) :
    DE X hx (.Call (.Name "list" p) [.Call (.Name "range" p2) [a, b] [] pos2] [] pos) (eRgK k fa fb) :=
  ⟨fun W tk => PEimp (pe_listRg hc hgl hl (prg_2 hg hm (ha.run W tk) (hb.run W tk) na nb hp) ne) fun σ H Q h => rg2_of (c := ⟨X.K, hx, W⟩) ok h⟩
theorem d_listRg1 (ok : RgK .lst k) (hc : X.calm = true) (hl : X.mg "list" = none) (hm : X.mg "range" = none) (ha : DE X hx a fa) (hgl : Gl X "list" := by rfl) (hg : Gl X "range" := by rfl)
    (na : starEach [a] X.env = (false, eval a X.env) :: starEach [] X.env := by rfl)
    (ne : starEach [.Call (.Name "range" p2) [a] [] pos2] X.env = (false, eval (.Call (.Name "range" p2) [a] [] pos2) X.env) :: starEach [] X.env := by rfl) :
    DE X hx (.Call (.Name "list" p) [.Call (.Name "range" p2) [a] [] pos2] [] pos) (eRgK1 k fa) :=
  ⟨fun W tk => PEimp (pe_listRg hc hgl hl (prg_1 hg hm (ha.run W tk) na) ne) fun σ H Q h => rg1_of (c := ⟨X.K, hx, W⟩) ok h⟩
theorem d_tupRg2 (hc : X.calm = true) (hl : X.mg "tuple" = none) (hm : X.mg "range" = none) (ha : DE X hx a fa) (hb : DE X hx b fb) (hgl : Gl X "tuple" := by rfl) (hg : Gl X "range" := by rfl)
    (na : starEach [a, b] X.env = (false, eval a X.env) :: starEach [b] X.env := by rfl) (nb : starEach [b] X.env = (false, eval b X.env) :: starEach [] X.env := by rfl) (hp : (backTo pos2 (starEach [b] X.env)).any (·.1) = false := by rfl)
    (ne : starEach [.Call (.Name "range" p2) [a, b] [] pos2] X.env = (false, eval (.Call (.Name "range" p2) [a, b] [] pos2) X.env) :: starEach [] X.env := by rfl) :
    DE X hx (.Call (.Name "tuple" p) [.Call (.Name "range" p2) [a, b] [] pos2] [] pos) (eRgK kTup fa fb) :=
  ⟨fun W tk => PEimp (pe_tupRg hc hgl hl (prg_2 hg hm (ha.run W tk) (hb.run W tk) na nb hp) ne) fun σ H Q h => rg2_of (c := ⟨X.K, hx, W⟩) k_tup h⟩
theorem d_tupRg1 (hc : X.calm = true) (hl : X.mg "tuple" = none) (hm : X.mg "range" = none) (ha : DE X hx a fa) (hgl : Gl X "tuple" := by rfl) (hg : Gl X "range" := by rfl)
    (na : starEach [a] X.env = (false, eval a X.env) :: starEach [] X.env := by rfl)
    (ne : starEach [.Call (.Name "range" p2) [a] [] pos2] X.env = (false, eval (.Call (.Name "range" p2) [a] [] pos2) X.env) :: starEach [] X.env := by rfl) :
    DE X hx (.Call (.Name "tuple" p) [.Call (.Name "range" p2) [a] [] pos2] [] pos) (eRgK1 kTup fa) :=
  ⟨fun W tk => PEimp (pe_tupRg hc hgl hl (prg_1 hg hm (ha.run W tk) na) ne) fun σ H Q h => rg1_of (c := ⟨X.K, hx, W⟩) k_tup h⟩
/-! ### list.index (whole numbers, texts, truths, None) -/
def isIx (o : Option Nat) (S : Store) : Res Wt := match o with
  | some j => .ok (.d (.int j)) S
  | none => .bad
def idxOf (x : D) : List D → Option Nat
  | [] => none
  | y :: l => if deq y x then some 0 else (idxOf x l).map (· + 1)
def mIndex (o : Wt) (ds : List Wt) (S : Store) : Res Wt := match ds with
  | [d] => match deref S o, deref S d with
    | some (.lst l), some x => if (x.flat && l.all D.flat) = true then isIx (idxOf x l) S else .bad
    | _, _ => .bad
  | _ => .bad
theorem idxOf_some {x : D} : ∀ {l : List D} {j : Nat}, idxOf x l = some j → ∃ z, l[j]? = some z ∧ deq z x = true ∧ ∀ (m : Nat) (z' : D), m < j → l[m]? = some z' → deq z' x = false
  | [], _, h => by cases h
  | y :: l, j, h => by
    unfold idxOf at h
    by_cases e : deq y x = true
    · rw [if_pos e] at h
      cases h
      exact ⟨y, rfl, e, fun m z' hm => absurd hm (Nat.not_lt_zero _)⟩
    · rw [if_neg e] at h
      cases q : idxOf x l with
      | none => rw [q] at h; cases h
      | some i =>
        rw [q] at h
        cases h
        obtain ⟨z, h1, h2, h3⟩ := idxOf_some q
        refine ⟨z, h1, h2, fun m z' hm hz => ?_⟩
        cases m with
        | zero => cases hz; exact Bool.eq_false_iff.mpr e
        | succ m => exact h3 m z' (by have hm : m + 1 < i + 1 := hm; omega) hz
theorem met_index : MetD X hx "list.index" mIndex := by
  intro W pins s σ H x xs v us Q I r rs h
  obtain ⟨A, S, σ', d, ds, R, rd, rds, p⟩ := h
  match ds, rds, p with
  | [], _, p => exact p.elim
  | _ :: _ :: _, _, p => exact p.elim
  | [y], rds, p =>
    obtain ⟨w, rfl, ry⟩ := rvs1 rds
    unfold mIndex at p
    dsimp only at p
    split at p
    · rename_i l x' e1 e2
      obtain ⟨hz, p2⟩ := Post.iteP p
      rw [Bool.and_eq_true] at hz
      obtain ⟨b, vs, rfl, hq, g⟩ := (readAs R rd e1).lst
      have q1 := readAs R ry e2
      cases e : idxOf x' l with
      | none => rw [e] at p2; exact p2.elim
      | some j =>
        rw [e] at p2
        obtain ⟨z, h1, h2, h3⟩ := idxOf_some e
        obtain ⟨fx, fy⟩ := flat_ok q1 hz.1
        have fl := fun {z : D} {m : Nat} (h : l[m]? = some z) => List.all_eq_true.mp hz.2 z (List.mem_of_getElem? h)
        obtain ⟨u, hu, ru⟩ := g.get h1
        refine mt_index pins s σ H _ _ v us Q I r rs ⟨b, vs, w, j, u, rfl, rfl, SqL.of hq, fx, (flats_ok q1 hz.1 g hz.2).1, hu, ?_, ?_, p2.hereV R (.int _)⟩
        · rw [fy _ _ (.inl ru) (fl h1)]; exact h2
        · intro m z' hm hz'
          obtain ⟨d', hd', rd'⟩ := g.get' hz'
          rw [fy _ _ (.inl rd') (fl hd')]
          exact h3 m d' hm hd'
    · exact p.elim
variable {o e : Expr} {fo fe : EM} {apos cpos : Pos}
theorem d_index (ho : DE X hx o fo) (he : DE X hx e fe) (hbase : attributeBase o "index" X.env (eval o X.env) = eval o X.env := by rfl)
    (hfew : ((backTo cpos (starEach [e] X.env)).all (fun x => !x.1) && (backToKw cpos (keywordEach [] X.env)).all (fun x => x.1.isSome)
      && decide ([e].length + ([] : List Keyword).length + (if ([] : List Keyword).isEmpty then 0 else 1) < 30)) = true := by rfl)
    (hline : (apos.endLine == cpos.line) = true := by rfl) (hs : starEach [e] X.env = (false, eval e X.env) :: starEach [] X.env := by rfl) (hplain : (backTo cpos (starEach [] X.env)).any (·.1) = false := by rfl) :
    DE X hx (.Call (.Attribute o "index" apos) [e] [] cpos) (eM isLst mIndex fo (aCons fe aNil)) :=
  d_m ty_lst F.plainAttrs_list F.slot_list_index F.type_list_index met_index ho (da_cons he da_nil hs) hbase hfew hline hs hplain
end
end Y
end
section
/-! Y21: exceptions held as values. -/
namespace Y
open PySem PySem.Spec PyProof.Rows L2
theorem exv_ok {P : Program} {w : World} {H : Hp} {h : Heap} {a C : Addr} {d : Option Addr} {oe : Obj} {vs : Array Value} (h1 : h.get? a = some oe) (h2 : Zc (.ref C) d oe) (h3 : oe.data = .fields vs) : ObjOk P w H h a (exv a C d) :=
  ⟨⟨oe, vs, h1, h2, h3⟩, ⟨oe, h1⟩, fun h1 h2 ⟨o, v, q1, q2, q3⟩ k => ⟨o, v, k _ q1, q2, q3⟩⟩
theorem exv_at {P : Program} {w : World} {H : Hp} {h : Heap} {a C : Addr} {d : Option Addr} (hok : HOk P w H h) (he : H a = some (exv a C d)) : ∃ (oe : Obj) (vs : Array Value), h.get? a = some oe ∧ Zc (.ref C) d oe ∧ oe.data = .fields vs := by
  have x : ObjOk P w H h a (.ext fun h => ∃ (oe : Obj) (vs : Array Value), h.get? a = some oe ∧ Zc (.ref C) d oe ∧ oe.data = .fields vs) := hok a _ he
  exact x.1
def tMkV (t : L2.St → Hp → XK → Prop) : TE := fun σ H Q => t σ H fun cls d H' => ∃ C, cls = .ref C ∧ ∀ a, H' a = none → Q (.ref a) (upd H' a (exv a C d))
theorem pe_mkv {X : Cx} {e : Expr} {t : L2.St → Hp → XK → Prop} (h : L2.PMk X e t) : PE X e (tMkV t) := by
  refine ⟨fun pins s σ H Q I hh => thn (h pins s σ H _ I hh) fun u s' ⟨a, oe, vs, sI, H', cls, d, eu, J, k, hne, ha, hz, hd, h1, na, os, ag, r, C, ec, q⟩ => ?_⟩
  subst eu ec
  obtain ⟨hp, g, dr, tk, o1⟩ := sI
  obtain ⟨h2, g2, d2, t2, o2⟩ := s'
  have ne : ∀ {b : Addr} {o : Obj}, hp.get? b = some o → b ≠ a := fun {b o} z e => by
    subst e
    rw [hne] at z
    cases z
  have un : Un (frs X.stack) [] H' (upd H' a (exv a C d)) hp h2 := {
    keep := fun b o z _ _ _ => k b o z
    slot := fun b o z _ _ _ => ⟨o.slots, k b o z⟩
    free := fun b o z n _ => by rw [upd_ne (ne z)]; exact n
    there := fun b o z _ => ⟨o, k b o z⟩
    tups := fun b xs z => by rw [upd_ne (ne_of_none z na)]; exact z
    frzs := fun b o u z => by rw [upd_ne (ne_of_none z na)]; exact z
    tbls := fun b ps z => ⟨#[], by rw [upd_ne (ne_of_none z na), z]; simp⟩ }
  have hok : HOk X.prog X.w (upd H' a (exv a C d)) h2 := fun b o z => by
    by_cases hb : b = a
    · subst hb
      rw [upd_same] at z
      cases z
      exact exv_ok ha hz hd
    · rw [upd_ne hb] at z
      exact (J.hok b o z).stay (fun c v _ y => k c v y) (fun c hc => by rw [upd_ne (ne_of_none hc na)]; exact hc) (fun c xs hc => by rw [upd_ne (ne_of_none hc na)]; exact hc)
  exact ⟨.ref a, _, J.call' (ch := []) os un hok ag (fun b z => absurd z (by simp)), rfl, q a na⟩
end Y
end
section
/-! Y22: e.f of an exception held as a value. -/
namespace Y
open PySem PySem.Spec PyProof.Rows L2
/-- the reading: the value's field f -/
def tXv (K : PySem.W.Frag) (f : Str) (te : TE) : TE := fun σ H Q => te σ H fun x H1 => ∃ (a C dd : Addr) (fs : List (Str × V)) (v : V), x = .ref a ∧ H1 a = some (exv a C (some dd)) ∧ XfC K C ∧ PySem.W.findIn K (.ref C) f = some none ∧ H1 dd = some (.xd fs) ∧ fs.lookup f = some v ∧ Q v H1
theorem pe_xv {X : Cx} {e : Expr} {te : TE} {pos : Pos} {n : Str} (he : PE X e te) (hb : attributeBase e n X.env (eval e X.env) = eval e X.env := by rfl) : PE X (.Attribute e n pos) (tXv X.K n te) := by
  refine ⟨fun pins s σ H Q I h => ?_⟩
  refine attr_of hb (thn (he.run pins s σ H _ I h) fun u s1 hh => ?_)
  obtain ⟨x, H1, I1, rx, a, C, dd, fs, v, ex, ea, T, hno, ed, l, q⟩ := hh
  subst ex
  obtain rfl : u = Value.ref a := rx
  obtain ⟨oe, vs, ha, hz, hd⟩ := exv_at I1.hok ea
  have hx : ObjOk X.prog X.w H1 s1.heap dd (.xd fs) := I1.hok dd _ ed
  obtain ⟨mA, hns, hr⟩ := hx
  obtain ⟨od, ho, hl⟩ := lookIn_ns hns
  obtain ⟨u, hu, ru⟩ := RelO.some_of (v := v) (o := mA n) (by rw [← l]; exact hr n)
  have J : PySem.W.InstAt s1.heap a oe C (some od) := by
    refine ⟨ha, hz.1, ?_, ?_⟩
    · unfold PySem.W.notCls
      rw [hd] <;> rfl
    · rw [hz.2]
      exact ho
  have fo := PySem.W.findObj_own T.hdC hno rfl (by rw [hl, hu])
  exact HandSPX.exc_get I1.kIn J T.ga T.gg T.exC fo (handed_of ru) ⟨v, H1, I1.tok _, ru, q⟩
def zipL (n : Str) : List Str → List D → Option D
  | x :: xs, y :: ys => if x = n then some y else zipL n xs ys
  | _, _ => none
theorem zipL_ok {K : PySem.W.Frag} {lv : Addr → Prop} {H : Hp} {n : Str} {y : D} : ∀ {ns : List Str} {l : List D} {vs : List V}, RPs K lv H l vs → zipL n ns l = some y → ∃ v, (ns.zip vs).lookup n = some v ∧ RP K lv H y v
  | [], _, _, _, e => by cases e
  | x :: xs, [], _, _, e => by cases e
  | x :: xs, d :: l, _, .cons r t, e => by
    unfold zipL at e
    rw [List.zip_cons_cons, lookup_put]
    by_cases h : x = n
    · rw [if_pos h] at e
      cases e
      exact ⟨_, by rw [if_pos h.symm], r⟩
    · rw [if_neg h] at e
      obtain ⟨v, h1, h2⟩ := zipL_ok t e
      exact ⟨v, by rw [if_neg (Ne.symm h)]; exact h1, h2⟩
def optD (S : Store) : Option D → Res Wt
  | some y => .ok (.d y) S
  | none => .bad
def xfD (Cs : List Str) (n : Str) (w : Wt) (S : Store) : Res Wt := match w with
  | .d (.exo C ns l) => if C ∈ Cs then optD S (zipL n ns l) else .bad
  | _ => .bad
def eXf (Cs : List Str) (n : Str) (f : EM) : EM := fun σd S => (f σd S).bind fun w S1 => xfD Cs n w S1
theorem d_xv {X : Cx} {hx : Hx} {e : Expr} {f : EM} {pos : Pos} {n : Str} (Cs : List Str) (hC : ∀ C ∈ Cs, XfC X.K (He.ga X.K C) ∧ PySem.W.findIn X.K (.ref (He.ga X.K C)) n = some none) (he : DE X hx e f) (hb : attributeBase e n X.env (eval e X.env) = eval e X.env := by rfl) :
    DE X hx (.Attribute e n pos) (eXf Cs n f) :=
  ⟨fun W tk => PEimp (pe_xv (he.run W tk) hb) fun σ H Q ⟨A, S, σd, R, E, p⟩ => ⟨A, S, σd, R, E, (Post.bind (R1 := rV _) p).mono fun v H1 ⟨A1, S1, d, R1, T1, r1, p1⟩ => by
    unfold xfD at p1
    split at p1
    · rename_i C ns l
      obtain ⟨hm, p1⟩ := Post.iteP p1
      obtain ⟨c1, c2⟩ := hC C hm
      cases q : zipL n ns l with
      | none => rw [q] at p1; exact p1.elim
      | some y =>
        rw [q] at p1
        have r1 : RP X.K (Live A1 S1) H1 (.exo C ns l) v := r1
        cases r1 with
        | exo h0 h1 h2 h3 h4 h5 =>
          obtain ⟨v, l1, l2⟩ := zipL_ok h5 q
          exact ⟨_, _, _, _, v, rfl, h1, c1, c2, h3, l1, p1.hereV R1 l2⟩
        | exo0 h0 h1 => cases q
    · exact p1.elim⟩⟩
end Y
end
section
/-! Y23: isinstance of an exception held as a value. -/
namespace Y
open PySem PySem.Spec PySem.Calls PyProof.Rows L2 PySem.W
section
variable {prog : Program} {w : World} {A : Around} {E : Value → Shared → Prop} {s : Shared} {K : Frag} {x D : Addr} {ox : Obj} {od : Option Obj}
theorem xv_find {a g : Value} {C : Addr} {name : Str} (hc : (clsIn K C).isSome = true) (ha : findIn K (.ref C) name = some (some a)) (hg : specialIn K a "__get__" = some (some g)) (ht : takesIn K a = some true) : findObj K C od name = some (.bind g a) := by
  obtain ⟨cd, hc⟩ := Option.isSome_iff_exists.mp hc
  unfold findObj
  rw [hc, Option.bind_some, ha, Option.bind_some]
  simp [hg, ht]
theorem xv_class {Q : Option Value → Shared → Prop} (c : ExcC K D) (X : K.In s.heap) (I : InstAt s.heap x ox D od) (h : Q (some (.ref D)) { s with toks := s.toks + 1 }) : wpAny (model prog w) A (getAttr? (.ref x) "__class__") Q E s := by
  obtain ⟨cd, hcd, _⟩ := any_some c.hd
  have hf : findObj K D od "__class__" = some (.bind (.builtin "getset_descriptor.__get__") (.builtin "object.__class__")) := xv_find (by rw [hcd]; rfl) c.ha c.hn c.ht
  obtain ⟨hp, g, d, t, os⟩ := s
  have T0 := I.type (M := model prog w)
  have T1 := looks_findIn (M := model prog w) X c.hg
  have T2 := looks_findIn (M := model prog w) X c.hk
  have T3 := looks_find (M := model prog w) X I hf
  have sb : Looks (model prog w) hp (isInstance (.ref x) (.type "BaseException")) true := T0.andThen (looks_subIn X c.hs)
  have n0 : (false && onTheHeap (Value.builtin "BaseException.__getattribute__")) = false := rfl
  have n2 : (Value.builtin "BaseException.__getattribute__" == Value.builtin "object.__getattribute__") = false := by decide +kernel
  have n1 : (onTheHeap (Value.ref D) && Value.builtin "BaseException.__getattribute__" == Value.builtin "object.__getattribute__") = false := by rw [n2]; rfl
  unfold getAttr? getAttrBy? getAttrBy
  refine wpAny_bind (wpAny_mkText (wpAny_bind (wpAny_attempt (wpAny_holding (wpAny_bind (T0.at (wpAny_bind (T1.at ?_))))))))
  show wpAny _ _ (if (onTheHeap (Value.ref D) && Value.builtin "BaseException.__getattribute__" == Value.builtin "object.__getattribute__") = true then _ else _) _ _ _
  rw [n1, if_neg Bool.false_ne_true]
  unfold getAttrByItsOwn hookBefore
  refine wpAny_bind ?_
  rw [if_pos (show onTheHeap (Value.ref D) = true from rfl)]
  refine T2.at (wpAny_bind (wpAny_attempt (wpAny_holding ?_)))
  unfold callGetattribute
  rw [n0, if_neg Bool.false_ne_true]
  unfold boundAndCalled
  rw [PySem.F.excAttr_ValueError.ga.bind (.ref x)]
  refine wpAny_bind (wpAny_pure (wpAny_call (codeAny_call_builtin PySem.F.excAttr_ValueError.ga.plain PySem.F.entry_bexc_ga (@check_slot (model prog w) _ _ ⟨hp, g, d, t + 1, os⟩ "BaseException.__getattribute__" "BaseException" "__getattribute__" (.ref x) [.str "__class__" t] [] _ (by decide +kernel) (by decide +kernel) sb (PySem.F.args_bexc_ga (.ref x) (.str "__class__" t)) ?_))))
  unfold Builtin.«object.__getattribute__»
  refine wpAny_bind (wpAny_of_eq (a := ((Value.ref x : Value), [Value.str "__class__" t])) (by first | rfl | (simp only [slotArgs]; rfl)) (wpAny_bind (wpAny_pure (wpAny_bind (T0.at (wpAny_bind (T3.at ?_)))))))
  show wpAny _ _ (holding [Value.builtin "object.__class__"] (call (.builtin "getset_descriptor.__get__") [.builtin "object.__class__", .ref x, .ref D]) >>= ret) _ _ _
  refine wpAny_bind (wpAny_holding (wpAny_call (class_get (s := ⟨hp, g, d, t + 1, os⟩) (ox := ox) (od := od) X I c.hm (wpAny_pure ?_))))
  show wpAny _ _ (handedOut (.ref D)) _ _ _
  rw [handedOut_of (v := .ref D) rfl]
  first
    | exact wpAny_pure (wpAny_pure h)
    | exact wpAny_pure h
    | exact wpAny_pure (wpAny_bind (wpAny_pure (wpAny_pure h)))
theorem xv_cls (c : ExcC K D) : ∃ o cd, K.lookup D = some o ∧ o.data = .cls cd := by
  obtain ⟨cd, hcd, _⟩ := any_some c.hd
  unfold clsIn at hcd
  split at hcd
  · rename_i c' d' cd' sl' ho
    exact ⟨_, cd', ho, rfl⟩
  · cases hcd
theorem kitx_xv (c : ExcC K D) : KitX K (.ref x) (.ref D) (fun h => ∃ ox od, InstAt h x ox D od) where
  ty := fun _ _ _ ⟨_, _, I⟩ => I.type
  it := fun _ _ X _ => by
    obtain ⟨cd, hcd, _⟩ := any_some c.hd
    unfold clsIn at hcd
    split at hcd
    · rename_i o1 o2 o3 o4 ho
      intro A1 Q1 E1 s1 k q
      unfold isType loadHead
      refine wpAny_bind (wpAny_loadPart (k _ _ (X _ _ ho)) ?_)
      exact wpAny_pure q
    · cases hcd
  ne := fun h tp dd its n sl X htp => by
    refine Bool.eq_false_iff.mpr fun q => ?_
    obtain rfl : D = tp := Value.ref.inj (beq_iff_eq.mp q)
    obtain ⟨o, cd, ho, hd⟩ := xv_cls c
    have z := (X _ _ ho).symm.trans htp
    cases z
    cases hd
  ca := fun X ⟨_, _, I⟩ k => xv_class c X I k
end
end Y
namespace Y
open PySem PySem.Spec PyProof.Rows L2
/-- isinstance(e, c), e an exception held as a value -/
def rIsV (K : PySem.W.Frag) : List V → Hp → VK → Prop := fun xs H Q => ∃ (a D : Addr) (d : Option Addr) (c : V) (cv : Value) (b : Bool), xs = [.ref a, c] ∧ H a = some (exv a D d) ∧ (∀ dd, d = some dd → ∃ fs, H dd = some (.xd fs)) ∧ ExcC K D ∧ (∀ u, RelV c u → u = cv) ∧ PySem.W.kitOne K (.ref D) cv = some b ∧ Q (.bl b) H
theorem call_isV {X : Cx} : CallR X (.builtin "isinstance") (rIsV X.K) := by
  intro pins s σ H xs us Q I r h
  obtain ⟨a, D, d, c, cv, b, rfl, ea, hd, C, hcv, e, q⟩ := h
  cases r with
  | cons rx rr =>
    cases rr with
    | cons rt rr =>
      cases rr
      cases rx
      obtain rfl := hcv _ rt
      obtain ⟨oe, vs, ha, hz, hv⟩ := exv_at I.hok ea
      have nc : PySem.W.notCls oe := by
        unfold PySem.W.notCls
        rw [hv] <;> rfl
      have J : ∃ ox od, PySem.W.InstAt s.heap a ox D od := by
        cases d with
        | none => exact ⟨oe, none, ha, hz.1, nc, by rw [hz.2]; trivial⟩
        | some dd =>
          obtain ⟨fs, hf⟩ := hd dd rfl
          have hx : ObjOk X.prog X.w H s.heap dd (.xd fs) := I.hok dd _ hf
          obtain ⟨mA, hns, _⟩ := hx
          obtain ⟨od, ho, _⟩ := lookIn_ns hns
          exact ⟨oe, some od, ha, hz.1, nc, by rw [hz.2]; exact ho⟩
      exact PySem.W.kia_one (kitx_xv C) I.kIn J e (fun z => nomatch z) fun tk => ⟨.bl b, H, I.kept (t' := tk) fun _ _ z => z, rfl, q⟩
end Y
end
section
/-! Y24: isinstance with exceptions held as values, over D. -/
namespace Y
open PySem PySem.Spec PyProof.Rows L2
def ansB (S : Store) : Option Bool → Res Wt
  | some b => .ok (.d (.bl b)) S
  | none => .bad
/-- tb: the answers, by the class's name and the name (or the built-in type) that is asked -/
def bIsX (tb : Str → D → Option Bool) : List Wt → Store → Res Wt := fun ds S => match ds with
  | [.d (.exo C ns l), .d c] => ansB S (tb C c)
  | _ => .bad
def IsTb (K : PySem.W.Frag) (tb : Str → D → Option Bool) : Prop := ∀ C c b, tb C c = some b → ExcC K (He.ga K C) ∧ ∃ v cv, (∀ lv H v', RP K lv H c v' → v' = v) ∧ (∀ u, RelV v u → u = cv) ∧ PySem.W.kitOne K (.ref (He.ga K C)) cv = some b
theorem cal_isX {X : Cx} {hx : Hx} {tb : Str → D → Option Bool} (ht : IsTb X.K tb) : CalD X hx (.builtin "isinstance") (bIsX tb) := by
  intro W pins s σ H xs us Q I r h
  obtain ⟨A, S, σ', ds, R, rd, p⟩ := h
  unfold bIsX at p
  split at p
  · rename_i C ns l c
    obtain ⟨v, u, rfl, r1, r2⟩ := rvs2 rd
    cases q : tb C c with
    | none => rw [q] at p; exact p.elim
    | some b =>
      rw [q] at p
      obtain ⟨hE, v0, cv, h1, h2, h3⟩ := ht C c b q
      have r1 : RP X.K (Live A S) H (.exo C ns l) v := r1
      have r2 : RP X.K (Live A S) H c u := r2
      obtain rfl := h1 _ _ _ r2
      cases r1 with
      | exo e0 e1 e2 e3 e4 e5 => exact call_isV pins s σ H _ us Q I r ⟨_, _, _, _, cv, b, rfl, e1, fun dd hd => by cases hd; exact ⟨_, e3⟩, hE, h2, h3, p.hereV R (.bl _)⟩
      | exo0 e0 e1 => exact call_isV pins s σ H _ us Q I r ⟨_, _, _, _, cv, b, rfl, e1, (fun dd hd => nomatch hd), hE, h2, h3, p.hereV R (.bl _)⟩
  · exact p.elim
end Y
end
section
/-! Y25: an exception class's own __init__ that keeps what it is given. -/
namespace Y
open PySem PySem.Spec PyProof.Rows L2
/-- self.f = what is given -/
def spI1 (K : PySem.W.Frag) (f : Str) : Sp := fun vs H Q E => ∃ (a C : Addr) (y : V), vs = [.ref a, y] ∧ OexC K C ∧ PySem.W.findIn K (.ref C) f = some none ∧ H a = some (L2.exo a C none) ∧
  ∀ dx, H dx = none → dx ≠ a → Q .non (upd (upd H dx (exd dx [(f, y)])) a (L2.exo a C (some dx)))
def spI2 (K : PySem.W.Frag) (f g : Str) : Sp := fun vs H Q E => ∃ (a C : Addr) (y z : V), vs = [.ref a, y, z] ∧ OexC K C ∧ PySem.W.findIn K (.ref C) f = some none ∧ PySem.W.findIn K (.ref C) g = some none ∧ H a = some (L2.exo a C none) ∧
  ∀ dx, H dx = none → dx ≠ a → Q .non (upd (upd (upd H dx (exd dx [(f, y)])) a (L2.exo a C (some dx))) dx (exd dx [(g, z), (f, y)]))
section
variable {P : Program} {w : World} {K : PySem.W.Frag} {mg : Str → Option Value} {base : Heap} {CX : CXT} {x qual f g s0 y0 z0 : Str} {params : Arguments} {scope : Scope} {fI : Addr} {fd : FuncData} {k : Nat} {p1 p2 p3 p4 p5 p6 p7 p8 : Pos}
theorem ini1_ok (F : FunD K x qual params [.Assign [.Attribute (.Name s0 p1) f p2] (.Name y0 p3) p4] scope [] [] fI fd) (Sc : FnScope [s0, y0] [s0, y0] scope)
    (v0 : Vis scope s0) (v1 : Vis scope y0) (d0 : (s0 == ("__debug__" : Str)) = false := by decide) (c0 : (s0 == ("__classdict__" : Str)) = false := by decide) (d1 : (y0 == ("__debug__" : Str)) = false := by decide) (c1 : (y0 == ("__classdict__" : Str)) = false := by decide) :
    FnOk P w K mg base CX (k + 1) fI fd [s0, y0] (spI1 K f) := by
  refine F.ok Sc (fun vs H Q E h => ?_) fun cdv A outer s H vs Q E hr h => ?_
  · obtain ⟨a, C, y, rfl, _⟩ := h
    rfl
  · obtain ⟨a, C, y, rfl, T, hno, ea, q⟩ := h
    refine ⟨_, pss_one (ps_ost (pv 0 rfl v0 d0 c0) (pv 1 rfl v1 d1 c1)), ?_⟩
    exact ⟨y, rfl, .ref a, rfl, a, C, rfl, T, hno, .inl ⟨ea, q⟩⟩
theorem ini2_ok (F : FunD K x qual params [.Assign [.Attribute (.Name s0 p1) f p2] (.Name y0 p3) p4, .Assign [.Attribute (.Name s0 p5) g p6] (.Name z0 p7) p8] scope [] [] fI fd) (Sc : FnScope [s0, y0, z0] [s0, y0, z0] scope)
    (v0 : Vis scope s0) (v1 : Vis scope y0) (v2 : Vis scope z0) (d0 : (s0 == ("__debug__" : Str)) = false := by decide) (c0 : (s0 == ("__classdict__" : Str)) = false := by decide) (d1 : (y0 == ("__debug__" : Str)) = false := by decide) (c1 : (y0 == ("__classdict__" : Str)) = false := by decide)
    (d2 : (z0 == ("__debug__" : Str)) = false := by decide) (c2 : (z0 == ("__classdict__" : Str)) = false := by decide) : FnOk P w K mg base CX (k + 1) fI fd [s0, y0, z0] (spI2 K f g) := by
  refine F.ok Sc (fun vs H Q E h => ?_) fun cdv A outer s H vs Q E hr h => ?_
  · obtain ⟨a, C, y, z, rfl, _⟩ := h
    rfl
  · obtain ⟨a, C, y, z, rfl, T, hno, hno2, ea, q⟩ := h
    refine ⟨_, pss_cons (ps_ost (pv 0 rfl v0 d0 c0) (pv 1 rfl v1 d1 c1)) (pss_one (ps_ost (pv 0 rfl v0 d0 c0) (pv 2 rfl v2 d2 c2))), ?_⟩
    refine ⟨y, rfl, .ref a, rfl, a, C, rfl, T, hno, .inl ⟨ea, fun dx hn hne => ?_⟩⟩
    exact ⟨z, rfl, .ref a, rfl, a, C, rfl, T, hno2, .inr ⟨dx, [(f, y)], upd_same, by rw [upd_ne hne, upd_same], (show 1 ≤ 900 by omega), q dx hn hne⟩⟩
end
end Y
end
section
/-! Y26: C(e), C an own exception class that keeps what it is given, as a value. -/
namespace Y
open PySem PySem.Spec PyProof.Rows L2
theorem Post.exo {c : Cn} {σ : L2.St} {A : Ads} {S : Store} {H : Hp} {Q : V → Hp → Prop} {C : Str} {ns : List Str} {l : List D} {vs : List V} {p a : Addr} (q : Post c (rV c) σ A S H Q (.ok (.d (.exo C ns l)) S)) (R : Rel c.K A S H) (r : RPs c.K (Live A S) H l vs) (hl : ns.length = l.length) (h : H p = none)
    (ha : upd H p (.xd (ns.zip vs)) a = none) : Q (.ref a) (upd (upd H p (.xd (ns.zip vs))) a (exv a (He.ga c.K C) (some p))) := by
  have R1 := R.new (o := .xd (ns.zip vs)) h
  have R2 := R1.new (o := exv a (He.ga c.K C) (some p)) ha
  have ne : p ≠ a := fun e => by
    subst e
    rw [upd_same] at ha
    cases ha
  exact q A _ _ R2 ((Stp.new h).trans (Stp.new ha)) (RV.of (.exo (notLive_new R1 ha) upd_same (notLive_new R h) (by rw [upd_ne ne, upd_same]) hl (fr_new R1 ha (fr_new R h r))))
theorem heap_mk {H : Hp} {a d : Addr} {o1 o2 o3 o4 : HO} (ha : H a = none) (ne : d ≠ a) : upd (del (upd (upd (upd H a o1) d o2) a o3) a) d o4 = upd H d o4 := by
  funext b
  by_cases hd : b = d
  · rw [hd, upd_same, upd_same]
  · rw [upd_ne hd, upd_ne hd]
    by_cases hb : b = a
    · rw [hb, del_same, ha]
    · rw [del_ne hb, upd_ne hb, upd_ne hd, upd_ne hb]
theorem fzC_nexc {S S' : Store} {n : Nat} {C : Str} {ns : List Str} {l : List D} : ∀ {o : Option Cell}, fzC S n o = .exc C ns l S' → False
  | none, h => by cases h
  | some .dead, h => by cases h
  | some (.lst _), h => by cases h
  | some (.dK _), h => by cases h
  | some (.frz _), h => by cases h
  | some (.ins _ _), h => by cases h
theorem fz1_nexc {S S' : Store} {C : Str} {ns : List Str} {l : List D} : ∀ {w : Wt}, fz1 S w = .exc C ns l S' → False
  | .d _, h => by cases h
  | .loc _, h => fzC_nexc h
  | .hex _ _ _, h => by cases h
/-- what is known of the class at the name C whose __init__ keeps one thing -/
structure Ini1 (P : Program) (w : World) (K : PySem.W.Frag) (mg : Str → Option Value) (base : Heap) (C f : Str) (k : Nat) : Prop where
  is : ∃ (fI : Addr) (fd : FuncData) (ps : List Str), OexC K (He.ga K C) ∧ PySem.W.findIn K (.ref (He.ga K C)) "__init__" = some (some (.ref fI)) ∧ PySem.W.typeIn K (.ref fI) = some (.type "function") ∧
    FnOk P w K mg base (L2.CX P w) k fI fd ps (spI1 K f) ∧ Binds K fd ps [] ∧ PySem.W.findIn K (.ref (He.ga K C)) f = some none ∧ mg C = some (.ref (He.ga K C))
def mk1D (C f : Str) (ws : List Wt) (S : Store) : Res Wt := match ws with
  | [w] => (fz1 S w).bind fun x S2 => .ok (.d (.exo C [f] [x])) S2
  | _ => .bad
def eMk1 (C f : Str) (g : AM) : EM := fun σd S => (g σd S).bind fun ws S1 => mk1D C f ws S1
theorem d_mk1 {X : Cx} {hx : Hx} {C f : Str} {k : Nat} {e : Expr} {es : List Expr} {g : AM} {p pos : Pos} (G : Ini1 X.prog X.w X.K X.mg X.base C f k) (hr : Room (k + 1) X.A) (ha : DA X hx (e :: es) g) (hg : Gl X C := by rfl)
    (hdb : (C == ("__debug__" : Str)) = false := by decide) (he : starEach (e :: es) X.env = (false, eval e X.env) :: starEach es X.env := by rfl) (hpl : (backTo pos (starEach es X.env)).any (·.1) = false := by rfl) :
    DE X hx (.Call (.Name C p) (e :: es) [] pos) (eMk1 C f g) := by
  obtain ⟨fI, fd, ps, T, iC, tI, F1, hb, hno, hm⟩ := G.is
  refine ⟨fun W tk => PEimp (pe_mkv (pmk_oex T iC tI F1 hr hb .nil (fun pins σ H s e s' I c => tk e s' (XE.of_call (σ := σ) I (fun _ _ _ h => h.elim) c)) hg hm (ha.run W tk) hdb he hpl)) fun σ H Q h => ?_⟩
  obtain ⟨A, S, σd, R, E, p⟩ := h
  refine ⟨A, S, σd, R, E, (Post.bind (R1 := rVs _) p).mono fun us H1 ⟨A1, S1, ds, R1, T1, r1, p1⟩ => ?_⟩
  unfold mk1D at p1
  split at p1
  · rename_i w0
    obtain ⟨y, rfl, ry⟩ := rvs1 r1
    cases q : fz1 S1 w0 with
    | bad => rw [q] at p1; exact p1.elim
    | exc _ _ _ _ => exact (fz1_nexc q).elim
    | ok x S2 =>
      rw [q] at p1
      obtain ⟨R2, T2, r2⟩ := fz1_ok R1 ry q
      refine ⟨by show 1 ≤ 1000; omega, fun a hn => ?_⟩
      refine ⟨a, He.ga X.K C, y, rfl, T, hno, upd_same, fun d hd ne => ?_⟩
      have hd1 : H1 d = none := by rw [upd_ne ne] at hd; exact hd
      refine ⟨rfl, d, [(f, y)], upd_same, by rw [upd_ne ne, upd_same], hd1, He.ga X.K C, rfl, fun a' ha' => ?_⟩
      rw [heap_mk hn ne] at ha' ⊢
      exact Post.exo (c := ⟨X.K, hx, W⟩) (σ := σ) (ns := [f]) (vs := [y]) (fun A3 H3 v R3 T3 r3 => p1 A3 H3 v R3 (T2.trans T3) r3) R2 (.one r2) rfl hd1 ha'
  · exact p1.elim
end Y
end
section
/-! Y27: C(e, e2), C an own exception class that keeps two things, as a value. -/
namespace Y
open PySem PySem.Spec PyProof.Rows L2
theorem heap_mk2 {H : Hp} {a d : Addr} {o1 o2 o3 o4 o5 : HO} (ha : H a = none) (ne : d ≠ a) : upd (del (upd (upd (upd (upd H a o1) d o2) a o3) d o5) a) d o4 = upd H d o4 := by
  funext b
  by_cases hd : b = d
  · rw [hd, upd_same, upd_same]
  · rw [upd_ne hd, upd_ne hd]
    by_cases hb : b = a
    · rw [hb, del_same, ha]
    · rw [del_ne hb, upd_ne hd, upd_ne hb, upd_ne hd, upd_ne hb]
structure Ini2 (P : Program) (w : World) (K : PySem.W.Frag) (mg : Str → Option Value) (base : Heap) (C f g : Str) (k : Nat) : Prop where
  is : ∃ (fI : Addr) (fd : FuncData) (ps : List Str), OexC K (He.ga K C) ∧ PySem.W.findIn K (.ref (He.ga K C)) "__init__" = some (some (.ref fI)) ∧ PySem.W.typeIn K (.ref fI) = some (.type "function") ∧
    FnOk P w K mg base (L2.CX P w) k fI fd ps (spI2 K f g) ∧ Binds K fd ps [] ∧ PySem.W.findIn K (.ref (He.ga K C)) f = some none ∧ PySem.W.findIn K (.ref (He.ga K C)) g = some none ∧ mg C = some (.ref (He.ga K C))
def mk2D (C f g : Str) (ws : List Wt) (S : Store) : Res Wt := match ws with
  | [.d x, .d y] => .ok (.d (.exo C [g, f] [y, x])) S
  | _ => .bad
def eMk2 (C f g : Str) (h : AM) : EM := fun σd S => (h σd S).bind fun ws S1 => mk2D C f g ws S1
theorem d_mk2 {X : Cx} {hx : Hx} {C f g : Str} {k : Nat} {e : Expr} {es : List Expr} {h : AM} {p pos : Pos} (G : Ini2 X.prog X.w X.K X.mg X.base C f g k) (hr : Room (k + 1) X.A) (ha : DA X hx (e :: es) h) (hg : Gl X C := by rfl)
    (hdb : (C == ("__debug__" : Str)) = false := by decide) (he : starEach (e :: es) X.env = (false, eval e X.env) :: starEach es X.env := by rfl) (hpl : (backTo pos (starEach es X.env)).any (·.1) = false := by rfl) :
    DE X hx (.Call (.Name C p) (e :: es) [] pos) (eMk2 C f g h) := by
  obtain ⟨fI, fd, ps, T, iC, tI, F1, hb, hno, hno2, hm⟩ := G.is
  refine ⟨fun W tk => PEimp (pe_mkv (pmk_oex T iC tI F1 hr hb .nil (fun pins σ H s e s' I c => tk e s' (XE.of_call (σ := σ) I (fun _ _ _ h => h.elim) c)) hg hm (ha.run W tk) hdb he hpl)) fun σ H Q q => ?_⟩
  obtain ⟨A, S, σd, R, E, p⟩ := q
  refine ⟨A, S, σd, R, E, (Post.bind (R1 := rVs _) p).mono fun us H1 ⟨A1, S1, ds, R1, T1, r1, p1⟩ => ?_⟩
  unfold mk2D at p1
  split at p1
  · rename_i x0 y0
    obtain ⟨x, y, rfl, rx, ry⟩ := rvs2 r1
    have rx : RP X.K (Live A1 S1) H1 x0 x := rx
    have ry : RP X.K (Live A1 S1) H1 y0 y := ry
    refine ⟨by show 2 ≤ 1000; omega, fun a hn => ?_⟩
    refine ⟨a, He.ga X.K C, x, y, rfl, T, hno, hno2, upd_same, fun d hd ne => ?_⟩
    have hd1 : H1 d = none := by rw [upd_ne ne] at hd; exact hd
    refine ⟨rfl, d, [(g, y), (f, x)], by rw [upd_ne (Ne.symm ne), upd_same], upd_same, hd1, He.ga X.K C, rfl, fun a' ha' => ?_⟩
    rw [heap_mk2 hn ne] at ha' ⊢
    exact Post.exo (c := ⟨X.K, hx, W⟩) (σ := σ) (ns := [g, f]) (vs := [y, x]) p1 R1 (.cons ry (.one rx)) rfl hd1 ha'
  · exact p1.elim
end Y
end
section
/-! Y28: C(), C an own exception class without an own __init__, as a value. -/
namespace Y
open PySem PySem.Spec PyProof.Rows L2
theorem pmk_own0 {X : Cx} {C : Addr} {bmB : List Value} {B newId initId : String} {x : Str} {p pos : Pos} (F : ExcBaseFacts B newId initId bmB) (q : PySem.W.excIn X.K C bmB newId = true) (gC : X.mg x = some (.ref C)) (kC : PySem.W.keepIn X.K (.ref C) = true)
    (r : Raises X (.ref C)) (hg : Gl X x) (hdb : (x == ("__debug__" : Str)) = false := by decide) : L2.PMk X (.Call (.Name x p) [] [] pos) (fun _ H Q => Q (.ref C) none H) := by
  intro pins s σ H Q I h
  refine wpAny_Call_Name_kw (ld_glob I hg gC ?_ hdb)
  refine PySem.W.callWith_KW0 (kws := []) (env := X.env) (h₀ := X.base) I.ok.mod.kin kC rfl (wpAny_evalAll_nil ⟨I.kIn, ?_⟩) rfl
  show wpAny _ _ (call (.ref C) []) _ _ _
  obtain ⟨bm, N, nm, qn, bs, hdct, sn, sub, ab, col, dd, k0, k1, k2, k3, k5, mN, hC, hN, hni, T⟩ := exc_obj I.kIn q
  refine wpAny_call_exc_subT F T hC hN hni (fun h' e hm => mk_of I hm r h (I.hok.gone hm.new)) ?_
  exact Nat.zero_le _
/-- what is known of such a class -/
structure Ini0 (P : Program) (w : World) (K : PySem.W.Frag) (mg : Str → Option Value) (C : Str) : Prop where
  is : ∃ (bmB : List Value) (B newId initId : String), ExcBaseFacts B newId initId bmB ∧ PySem.W.excIn K (He.ga K C) bmB newId = true ∧ PySem.W.subIn K (.ref (He.ga K C)) (.type "BaseException") = some true ∧
    PySem.W.typeIn K (.ref (He.ga K C)) = some (.type "type") ∧ PySem.W.keepIn K (.ref (He.ga K C)) = true ∧ mg C = some (.ref (He.ga K C))
def eMk0 (C : Str) : EM := fun σd S => .ok (.d (.exo C [] [])) S
theorem d_mk0 {X : Cx} {hx : Hx} {C : Str} {p pos : Pos} (G : Ini0 X.prog X.w X.K X.mg C) (hg : Gl X C := by rfl) (hdb : (C == ("__debug__" : Str)) = false := by decide) : DE X hx (.Call (.Name C p) [] [] pos) (eMk0 C) := by
  obtain ⟨bmB, B, newId, initId, F, q, s1, s2, kC, hm⟩ := G.is
  refine ⟨fun W tk => PEimp (pe_mkv (pmk_own0 F q hm kC (raises_own s1 s2) hg hdb)) fun σ H Q ⟨A, S, σd, R, E, p⟩ => ⟨_, rfl, fun a ha => ?_⟩⟩
  exact p A _ _ (R.new ha) (Stp.new ha) (RV.of (.exo0 (notLive_new R ha) upd_same))
end Y
end
section
set_option maxHeartbeats 2000000
/-! Y29: an own exception class called with keywords. -/
namespace PySem
namespace YK
open PySem.W PySem.Calls PyProof.Rows PySem.HandSPX
section
variable {M : Model} {A : Around} {E : Value → Shared → Prop} {h : Heap} {g : Array GenState} {d : Drawn} {t : Nat} {os : OsState}
variable {nm q : Str} {C N : Addr} {bs bm bmB : List Value} {hdct : Bool} {sn : List Str} {sub : List Value} {ab : Bool} {col : Option Bool} {dd : Option Addr} {k0 k1 k2 k3 k5 : Option Value} {B newId initId : String} {kw : List (Str × Value)}
theorem newK_check (F : ExcBaseFacts B newId initId bmB) (hT : ∀ X : String, bm.contains (.type X) = bmB.contains (.type X)) {rest : List Value} {Q : Unit → Shared → Prop}
    (hC : h.get? C = some (excClassObj nm q C N bs bm hdct sn sub ab col dd k0 k1 k2 k3 k5 newId)) (hq : Q () ⟨h, g, d, t, os⟩) : wpAny M A (checkBuiltinCall newId ⟨.ref C :: rest, kw⟩) Q E ⟨h, g, d, t, os⟩ := by
  have hcont : (Value.ref C :: bm).contains (.type B) = true := by rw [List.contains_cons, hT, F.hasB, Bool.or_true]
  have hstar := F.noStar
  simp only [checkBuiltinCall, F.newKind, F.newSplit, F.newRow]
  repeat (first | refine wpAny_loadPart_at hC ?_ | (refine wpAny_isSubtype_exc hC ?_; rw [hcont]) | refine wpAny_staticBase_exc hC ?_ | refine wpAny_madeBy_exc hC ?_ | simp only [bne_self_eq_false, Bool.false_eq_true, if_false] | wp_step)
  exact hq
theorem tcK_check {M : Model} {rest : List Value} {Q : Unit → Shared → Prop} (hC : h.get? C = some (excClassObj nm q C N bs bm hdct sn sub ab col dd k0 k1 k2 k3 k5 newId))
    (hq : Q () ⟨h, g, d, t, os⟩) : wpAny M A (checkBuiltinCall "type.__call__" ⟨.ref C :: rest, kw⟩) Q E ⟨h, g, d, t, os⟩ := by
  have f3 := tc_sub
  have hT : (⟨h, g, d, t, os⟩ : Shared).TypeIs (.ref C) "type" := ⟨_, hC, rfl⟩
  simp only [checkBuiltinCall, tc_kind, tc_split]
  repeat (any_goals (first | assumption | with_reducible refine wpAny_loadPart_at hC ?_ | with_reducible refine wpAny_onRaise ?_ | with_reducible refine wpAny_map ?_ | wp_step))
end
section
variable {prog : Program} {w : World} {A : Around} {E : Value → Shared → Prop} {R : Result → Shared → Prop} {h : Heap} {g : Array GenState} {d : Drawn} {t : Nat} {os : OsState}
variable {nm q : Str} {C N : Addr} {bs bm bmB : List Value} {hdct : Bool} {sn : List Str} {sub : List Value} {ab : Bool} {col : Option Bool} {dd : Option Addr} {k0 k1 k2 k3 k5 : Option Value} {B newId initId : String} {kw : List (Str × Value)}
theorem newK (F : ExcBaseFacts B newId initId bmB) (hT : ∀ X : String, bm.contains (.type X) = bmB.contains (.type X)) {rest : List Value}
    (hC : h.get? C = some (excClassObj nm q C N bs bm hdct sn sub ab col dd k0 k1 k2 k3 k5 newId))
    (hq : R (.ok (.ret (.ref (h.objs.size + 1)))) ⟨(h.push { cls := .type "tuple", data := .seq rest.toArray }).push
      { cls := .ref C, data := .fields #[.ref h.objs.size, .none, .none, .none, .bool false, .none] }, g, d, t, os⟩) (hrest : rest.length ≤ sizeLine) :
    codeAny (model prog w) A (.builtin newId ⟨.ref C :: rest, kw⟩) R ⟨h, g, d, t, os⟩ := by
  have hends := F.ends
  have hcB : (Value.ref C :: bm).contains (.type B) = true := by rw [List.contains_cons, hT, F.hasB, Bool.or_true]
  have hcA : (Value.ref C :: bm).contains (.type "AttributeError") = false := by rw [List.contains_cons, hT, F.noAttr]; rfl
  have hcN : (Value.ref C :: bm).contains (.type "NameError") = false := by rw [List.contains_cons, hT, F.noName]; rfl
  refine codeAny_builtinAt F.entry ?_
  unfold Builtin.«BaseException.__new__»
  refine wpAt_bind ?_
  show wpAt _ _ _ (stack >>= _) _ _ _
  refine wpAt_bind (wpAt_stack fun p below => wpAt_of_wpAny ?_)
  wp_walk
  refine wpAt_of_wpAny ?_
  rw [F.owner]
  repeat (first | with_reducible refine wpAny_madeHere_exc F.canon hC ?_ | with_reducible refine wpAny_loadPart_at hC ?_ | (with_reducible refine wpAny_isSubtype_exc hC ?_; first | rw [hcB] | rw [hcA] | rw [hcN]) | wp_step)
  show R _ _
  rw [Heap.size_push]
  exact hq
theorem typeK (F : ExcBaseFacts B newId initId bmB) (hT : ∀ X : String, bm.contains (.type X) = bmB.contains (.type X)) {rest : List Value} {fI : Addr} {Q : Fin → Shared → Prop}
    (hC : h.get? C = some (excClassObj nm q C N bs bm hdct sn sub ab col dd k0 k1 k2 k3 k5 newId))
    (hi : PySem.W.Looks (model prog w) h (typeLookup (.ref C) "__init__") (some (.ref fI))) (hb : ∀ self, PySem.W.Looks (model prog w) h (bindSpecial (.ref fI) self) (.ref fI, [self])) (hrest : rest.length ≤ sizeLine)
    (hq : codeAny (model prog w) A (.call (.ref fI) ⟨.ref (h.objs.size + 1) :: rest, kw⟩)
      (fun r s' => match r with | .ok (.ret v) => v = .none ∧ Q (.done (.ret (.ref (h.objs.size + 1)))) s' | .ok _ => False | .error e => E e s')
      ⟨(h.push (PySem.W.kdv_tup rest)).push (excO C h.objs.size), g, d, t, os⟩) :
    wpAny (model prog w) A (Builtin.«type.__call__» ⟨.ref C :: rest, kw⟩) Q E ⟨h, g, d, t, os⟩ := by
  repeat (first | with_reducible refine wpAny_loadPart_at hC ?_ | with_reducible refine wpAny_madeBy_exc hC ?_ | wp_step)
  refine codeAny_call_builtin_code (Code.quiet_builtin _ F.quiet) (newK_check F hT hC ?_)
  refine newK F hT hC ?_ hrest
  show wpAny _ _ _ _ _ _
  have k : ∀ b o, h.get? b = some o → ((h.push (PySem.W.kdv_tup rest)).push (excO C h.objs.size)).get? b = some o := fun b o e => Heap.get?_push_of_some _ (Heap.get?_push_of_some _ e)
  have hC₁ := k _ _ hC
  have hget : ((h.push (PySem.W.kdv_tup rest)).push (excO C h.objs.size)).get? (h.objs.size + 1) = some (excO C h.objs.size) := by heap_get
  have hcC : (Value.ref C :: bm).contains (.ref C) = true := by simp
  have i1 := hi.keeps k
  have b1 := (hb (.ref (h.objs.size + 1))).keeps k
  unfold isInstance
  repeat (first | with_reducible refine wpAny_loadPart_at hget ?_ | (with_reducible refine wpAny_isSubtype_exc hC₁ ?_; rw [hcC]) | wp_step)
  show wpAny _ _ (typeLookup (.ref C) _) _ _ _
  refine i1.at ?_
  refine wpAny_holding (wpAny_bind (b1.at ?_))
  refine wpAny_bind (wpAny_call (codeAny_mono hq fun r s' z => ?_))
  rcases r with e | (v | _ | _ | _) <;> first | exact z | exact z.elim | skip
  obtain ⟨rfl, z⟩ := z
  first
    | exact wpAny_pure (wpAny_pure z)
    | (wp_walk; exact z)
theorem ownK (F : ExcBaseFacts B newId initId bmB) (hT : ∀ X : String, bm.contains (.type X) = bmB.contains (.type X)) {rest : List Value} {fI : Addr}
    (hC : h.get? C = some (excClassObj nm q C N bs bm hdct sn sub ab col dd k0 k1 k2 k3 k5 newId))
    (hi : PySem.W.Looks (model prog w) h (typeLookup (.ref C) "__init__") (some (.ref fI))) (hb : ∀ self, PySem.W.Looks (model prog w) h (bindSpecial (.ref fI) self) (.ref fI, [self])) (hrest : rest.length ≤ sizeLine)
    (hq : codeAny (model prog w) (A.under (.builtin "type.__call__" ⟨.ref C :: rest, kw⟩)) (.call (.ref fI) ⟨.ref (h.objs.size + 1) :: rest, kw⟩) (PySem.W.InitBack (h.objs.size + 1) R)
      ⟨(h.push (PySem.W.kdv_tup rest)).push (excO C h.objs.size), g, d, t, os⟩) :
    codeAny (model prog w) A (.call (.ref C) ⟨rest, kw⟩) R ⟨h, g, d, t, os⟩ := by
  have f1 := tc_lookup
  have f2 := tc_bind (.ref C)
  have hTy : (⟨h, g, d, t, os⟩ : Shared).TypeIs (.ref C) "type" := ⟨_, hC, rfl⟩
  refine codeAny_of_tree ?_
  show wpAny _ _ (callAny (.ref C) _) _ _ _
  repeat (any_goals (first | assumption | with_reducible refine wpAny_loadPart_at hC ?_ | wp_step))
  refine ⟨rfl, ?_⟩
  refine codeAny_call_builtin_at (Code.quiet_builtin _ (by decide +kernel)) entry_typeCall (tcK_check hC (typeK F hT hC hi hb hrest ?_))
  refine codeAny_mono hq fun r s' z => ?_
  rcases r with e | (v | _ | _ | _) <;> exact z
end
end YK
end PySem
namespace Y
open PySem PySem.Spec PyProof.Rows L2
section
variable {X : Cx} {kws : List Keyword} {tk : TA} {p pos : Pos}
theorem pmk_kw {CX : CXT} {x : Str} {C fI : Addr} {k : Nat} {fd : FuncData} {ps ks : List Str} {sp : Sp} {gg : List Value → List Value → List Value} {gV : List V → List V → List V} (T : OexC X.K C) (iC : PySem.W.findIn X.K (.ref C) "__init__" = some (some (.ref fI))) (tI : PySem.W.typeIn X.K (.ref fI) = some (.type "function"))
    (F1 : FnOk X.prog X.w X.K X.mg X.base CX k fI fd ps sp) (hr : Room (k + 1) X.A) (hb : KBn X.K fd ps 1 ks gg gV) (hx : Passes CX X (fun _ _ _ => False)) (hg : Gl X x) (hm : X.mg x = some (.ref C)) (ha : PK X kws tk)
    (hdb : (x == ("__debug__" : Str)) = false := by decide) (hall : (backToKw pos (keywordEach kws X.env)).all (·.1.isSome) = true := by rfl) (hks : (backToKw pos (keywordEach kws X.env)).filterMap (·.1) = ks := by rfl)
    (hpl : ((backTo pos (starEach [] X.env)).any (·.1) || (backToKw pos (keywordEach kws X.env)).any (·.1.isNone)) = false := by rfl) :
    L2.PMk X (.Call (.Name x p) [] kws pos) (fun σ H Q => tk σ H fun vs H1 => vs.length = ks.length ∧ ∀ a, H1 a = none → sp (gV [.ref a] vs) (upd H1 a (L2.exo a C none))
      (fun v H2 => v = .non ∧ ∃ (d : Addr) (fs : List (Str × V)), H2 a = some (L2.exo a C (some d)) ∧ H2 d = some (exd d fs) ∧ H1 d = none ∧ Q (.ref C) (some d) (upd (del H2 a) d (.xd fs))) (fun _ _ _ => False)) := by
  intro pins s σ H Q I h
  obtain ⟨nm, q, N, bs, bm, sn, sub, ab, col, dd, k0, k1, k2, k3, k5, hC, hbm⟩ := T.cls
  refine wpAny_Call_Name_kw (ld_glob I hg hm ?_ hdb)
  refine PySem.W.callWith_KW0 (h₀ := X.base) I.ok.mod.kin T.kC hall ?_ hpl
  refine thn (ha.run pos pins s σ H _ I h) fun us s1 ⟨vs, H1, I1, r1, hz, q1⟩ => ⟨I1.kIn, ?_⟩
  rw [hks]
  show wpAny _ _ (call (.ref C) [] _) _ _ _
  obtain ⟨hp, g, dr, tk, os⟩ := s1
  have hsz : hp.objs.size ≤ hp.objs.size + 1 := Nat.le_succ _
  have hn : H1 (hp.objs.size + 1) = none := I1.hok.fresh hsz
  have hq := q1 (hp.objs.size + 1) hn
  have kk : ∀ b o, hp.get? b = some o → ((hp.push (PySem.W.kdv_tup [])).push (PySem.HandSPX.excO C hp.objs.size)).get? b = some o := fun b o e => Heap.get?_push_of_some _ (Heap.get?_push_of_some _ e)
  have hget : ((hp.push (PySem.W.kdv_tup [])).push (PySem.HandSPX.excO C hp.objs.size)).get? (hp.objs.size + 1) = some (PySem.HandSPX.excO C hp.objs.size) := by heap_get
  have I2 : Inv X pins σ (upd H1 (hp.objs.size + 1) (L2.exo (hp.objs.size + 1) C none)) ⟨(hp.push (PySem.W.kdv_tup [])).push (PySem.HandSPX.excO C hp.objs.size), g, dr, tk, os⟩ :=
    I1.laid (t' := tk) (a := hp.objs.size + 1) (o := L2.exo (hp.objs.size + 1) C none) (h' := (hp.push (PySem.W.kdv_tup [])).push (PySem.HandSPX.excO C hp.objs.size)) kk hsz (exo_ok hget)
  have r0 : Vals [V.ref (hp.objs.size + 1)] [Value.ref (hp.objs.size + 1)] := .cons rfl .nil
  have r2 := hb.rel r0 r1
  have hl : us.length = ks.length := by rw [← hz]; exact (Paired.length r1).symm
  refine wpAny_call (PySem.YK.ownK F.excBase_ValueError (fun Y => PySem.HandSPX.refsVE_contains Y bm hbm) (I1.kIn _ _ hC) (PySem.W.looks_findIn I1.kIn iC) (fun self => PySem.W.bind_fn I1.kIn self tI) (by simp)
    (codeAny_mono (F1.run _ X.stack _ _ ⟨[Value.ref (hp.objs.size + 1)], ks.zip us⟩ (gg [Value.ref (hp.objs.size + 1)] us) _ _ (fun _ _ _ => False) (hr.make C [] _) (I2.env0.make C [] _) (hb.to _ [Value.ref (hp.objs.size + 1)] us I2.kIn rfl hl) r2 hq) fun r s' hq' => ?_))
  cases r with
  | error er => exact hx pins σ _ _ er s' I2 hq'
  | ok fl =>
    cases fl with
    | ret u =>
      obtain ⟨v, H2, os2, bare2, un2, hok2, rv, ev, d, fs, ea, ed, hd1, q2⟩ := hq'
      subst ev
      obtain ⟨h2, g2, d2, t2, os'⟩ := s'
      exact ⟨rv, mk_end (raises_own T.exC T.tyC) I1 hsz kk un2 hok2 os2 bare2 ea ed hd1 q2⟩
    | next => exact False.elim hq'
    | brk => exact False.elim hq'
    | cont => exact False.elim hq'
end
end Y
end
section
/-! Y30: own exceptions made with keywords, as values; {}; what the heap tells of the classes. -/
namespace Y
open PySem PySem.Spec PyProof.Rows L2
structure IniK1 (P : Program) (w : World) (K : PySem.W.Frag) (mg : Str → Option Value) (base : Heap) (C f q : Str) (k : Nat) : Prop where
  is : ∃ (fI : Addr) (fd : FuncData) (ps : List Str), OexC K (He.ga K C) ∧ PySem.W.findIn K (.ref (He.ga K C)) "__init__" = some (some (.ref fI)) ∧ PySem.W.typeIn K (.ref fI) = some (.type "function") ∧
    FnOk P w K mg base (L2.CX P w) k fI fd ps (spI1 K f) ∧ KBn K fd ps 1 [q] (fun us ws => pick [0, 1] (us ++ ws)) (fun us ws => pick [0, 1] (us ++ ws)) ∧ PySem.W.findIn K (.ref (He.ga K C)) f = some none ∧ mg C = some (.ref (He.ga K C))
/-- both given by name, the second one first -/
structure IniK2 (P : Program) (w : World) (K : PySem.W.Frag) (mg : Str → Option Value) (base : Heap) (C f g q r : Str) (k : Nat) : Prop where
  is : ∃ (fI : Addr) (fd : FuncData) (ps : List Str), OexC K (He.ga K C) ∧ PySem.W.findIn K (.ref (He.ga K C)) "__init__" = some (some (.ref fI)) ∧ PySem.W.typeIn K (.ref fI) = some (.type "function") ∧
    FnOk P w K mg base (L2.CX P w) k fI fd ps (spI2 K f g) ∧ KBn K fd ps 1 [r, q] (fun us ws => pick [0, 2, 1] (us ++ ws)) (fun us ws => pick [0, 2, 1] (us ++ ws)) ∧ PySem.W.findIn K (.ref (He.ga K C)) f = some none ∧ PySem.W.findIn K (.ref (He.ga K C)) g = some none ∧ mg C = some (.ref (He.ga K C))
def mk2R (C f g : Str) (ws : List Wt) (S : Store) : Res Wt := match ws with
  | [.d y, .d x] => .ok (.d (.exo C [g, f] [y, x])) S
  | _ => .bad
def eMk2R (C f g : Str) (h : AM) : EM := fun σd S => (h σd S).bind fun ws S1 => mk2R C f g ws S1
section
variable {X : Cx} {hx : Hx} {kws : List Keyword} {p pos : Pos}
theorem d_mk1K {C f q : Str} {k : Nat} {g : AM} (G : IniK1 X.prog X.w X.K X.mg X.base C f q k) (hr : Room (k + 1) X.A) (ha : DK X hx kws g) (hg : Gl X C := by rfl)
    (hdb : (C == ("__debug__" : Str)) = false := by decide) (hall : (backToKw pos (keywordEach kws X.env)).all (·.1.isSome) = true := by rfl) (hks : (backToKw pos (keywordEach kws X.env)).filterMap (·.1) = [q] := by rfl)
    (hpl : ((backTo pos (starEach [] X.env)).any (·.1) || (backToKw pos (keywordEach kws X.env)).any (·.1.isNone)) = false := by rfl) :
    DE X hx (.Call (.Name C p) [] kws pos) (eMk1 C f g) := by
  obtain ⟨fI, fd, ps, T, iC, tI, F1, hb, hno, hm⟩ := G.is
  refine ⟨fun W tk => PEimp (pe_mkv (pmk_kw T iC tI F1 hr hb (fun pins σ H s e s' I c => tk e s' (XE.of_call (σ := σ) I (fun _ _ _ h => h.elim) c)) hg hm (ha.run W tk) hdb hall hks hpl)) fun σ H Q h => ?_⟩
  obtain ⟨A, S, σd, R, E, p⟩ := h
  refine ⟨A, S, σd, R, E, (Post.bind (R1 := rVs _) p).mono fun us H1 ⟨A1, S1, ds, R1, T1, r1, p1⟩ => ?_⟩
  unfold mk1D at p1
  split at p1
  · rename_i w0
    obtain ⟨y, rfl, ry⟩ := rvs1 r1
    cases q : fz1 S1 w0 with
    | bad => rw [q] at p1; exact p1.elim
    | exc _ _ _ _ => exact (fz1_nexc q).elim
    | ok x S2 =>
      rw [q] at p1
      obtain ⟨R2, T2, r2⟩ := fz1_ok R1 ry q
      refine ⟨rfl, fun a hn => ?_⟩
      refine ⟨a, He.ga X.K C, y, rfl, T, hno, upd_same, fun d hd ne => ?_⟩
      have hd1 : H1 d = none := by rw [upd_ne ne] at hd; exact hd
      refine ⟨rfl, d, [(f, y)], upd_same, by rw [upd_ne ne, upd_same], hd1, He.ga X.K C, rfl, fun a' ha' => ?_⟩
      rw [heap_mk hn ne] at ha' ⊢
      exact Post.exo (c := ⟨X.K, hx, W⟩) (σ := σ) (ns := [f]) (vs := [y]) (fun A3 H3 v R3 T3 r3 => p1 A3 H3 v R3 (T2.trans T3) r3) R2 (.one r2) rfl hd1 ha'
  · exact p1.elim
theorem d_mk2K {C f g q r : Str} {k : Nat} {h : AM} (G : IniK2 X.prog X.w X.K X.mg X.base C f g q r k) (hr : Room (k + 1) X.A) (ha : DK X hx kws h) (hg : Gl X C := by rfl)
    (hdb : (C == ("__debug__" : Str)) = false := by decide) (hall : (backToKw pos (keywordEach kws X.env)).all (·.1.isSome) = true := by rfl) (hks : (backToKw pos (keywordEach kws X.env)).filterMap (·.1) = [r, q] := by rfl)
    (hpl : ((backTo pos (starEach [] X.env)).any (·.1) || (backToKw pos (keywordEach kws X.env)).any (·.1.isNone)) = false := by rfl) :
    DE X hx (.Call (.Name C p) [] kws pos) (eMk2R C f g h) := by
  obtain ⟨fI, fd, ps, T, iC, tI, F1, hb, hno, hno2, hm⟩ := G.is
  refine ⟨fun W tk => PEimp (pe_mkv (pmk_kw T iC tI F1 hr hb (fun pins σ H s e s' I c => tk e s' (XE.of_call (σ := σ) I (fun _ _ _ h => h.elim) c)) hg hm (ha.run W tk) hdb hall hks hpl)) fun σ H Q q => ?_⟩
  obtain ⟨A, S, σd, R, E, p⟩ := q
  refine ⟨A, S, σd, R, E, (Post.bind (R1 := rVs _) p).mono fun us H1 ⟨A1, S1, ds, R1, T1, r1, p1⟩ => ?_⟩
  unfold mk2R at p1
  split at p1
  · rename_i y0 x0
    obtain ⟨y, x, rfl, ry, rx⟩ := rvs2 r1
    have rx : RP X.K (Live A1 S1) H1 x0 x := rx
    have ry : RP X.K (Live A1 S1) H1 y0 y := ry
    refine ⟨rfl, fun a hn => ?_⟩
    refine ⟨a, He.ga X.K C, x, y, rfl, T, hno, hno2, upd_same, fun d hd ne => ?_⟩
    have hd1 : H1 d = none := by rw [upd_ne ne] at hd; exact hd
    refine ⟨rfl, d, [(g, y), (f, x)], by rw [upd_ne (Ne.symm ne), upd_same], upd_same, hd1, He.ga X.K C, rfl, fun a' ha' => ?_⟩
    rw [heap_mk2 hn ne] at ha' ⊢
    exact Post.exo (c := ⟨X.K, hx, W⟩) (σ := σ) (ns := [g, f]) (vs := [y, x]) p1 R1 (.cons ry (.one rx)) rfl hd1 ha'
  · exact p1.elim
/-- {} -/
theorem d_dict0 : DE X hx (.Dict [] [] pos) (eC (.dct [] [])) := ⟨fun W tk => PEimp pe_dnewK fun σ H Q ⟨A, S, σd, R, E, p⟩ => fun a h =>
  p A _ _ (R.new h) (Stp.new h) (RV.of (.dct (kvs := []) (notLive_new R h) (.inl upd_same) .nil))⟩
end

/-! ### told by the heap -/
def eqOV (a b : Option Value) : Bool := decide (a = b)
def ini1B (K : PySem.W.Frag) (p : Str × Str) : Bool := oexB K (He.ga K p.1) && (He.eqO (PySem.W.findIn K (.ref (He.ga K p.1)) "__init__") (some (some (.ref (He.ma K (He.ga K p.1) "__init__")))) && (eqOV (PySem.W.typeIn K (.ref (He.ma K (He.ga K p.1) "__init__"))) (some (.type "function")) &&
  (He.eqO (PySem.W.findIn K (.ref (He.ga K p.1)) p.2) (some none) && He.eqO (PySem.W.nsIn K mainGlobals p.1) (some (some (.ref (He.ga K p.1)))))))
structure IniF (K : PySem.W.Frag) (mg : Str → Option Value) (C f : Str) : Prop where
  o : OexC K (He.ga K C)
  i : PySem.W.findIn K (.ref (He.ga K C)) "__init__" = some (some (.ref (He.ma K (He.ga K C) "__init__")))
  t : PySem.W.typeIn K (.ref (He.ma K (He.ga K C) "__init__")) = some (.type "function")
  n : PySem.W.findIn K (.ref (He.ga K C)) f = some none
  m : mg C = some (.ref (He.ga K C))
theorem ini1B_ok {K : PySem.W.Frag} {h : Heap} {mg : Str → Option Value} (X : K.In h) (G : h.Ns mainGlobals mg) {p : Str × Str} (c : ini1B K p = true) : IniF K mg p.1 p.2 := by
  unfold ini1B at c
  obtain ⟨c1, c⟩ := He.ba c
  obtain ⟨c2, c⟩ := He.ba c
  obtain ⟨c3, c⟩ := He.ba c
  obtain ⟨c4, c5⟩ := He.ba c
  exact ⟨oexB_ok c1, He.eqO_ok c2, of_decide_eq_true c3, He.eqO_ok c4, PySem.W.mg_of X G (He.eqO_ok c5)⟩
section
variable {P : Program} {w : World} {K : PySem.W.Frag} {mg : Str → Option Value} {base : Heap} {C f g q r : Str} {k : Nat} {fd : FuncData} {ps : List Str}
theorem ini1_of (c : IniF K mg C f) (F : FnOk P w K mg base (L2.CX P w) k (He.ma K (He.ga K C) "__init__") fd ps (spI1 K f)) (hb : Binds K fd ps []) : Ini1 P w K mg base C f k := ⟨_, fd, ps, c.o, c.i, c.t, F, hb, c.n, c.m⟩
theorem iniK1_of (c : IniF K mg C f) (F : FnOk P w K mg base (L2.CX P w) k (He.ma K (He.ga K C) "__init__") fd ps (spI1 K f)) (hb : KBn K fd ps 1 [q] (fun us ws => pick [0, 1] (us ++ ws)) (fun us ws => pick [0, 1] (us ++ ws))) : IniK1 P w K mg base C f q k := ⟨_, fd, ps, c.o, c.i, c.t, F, hb, c.n, c.m⟩
theorem ini2_of (c : IniF K mg C f) (c2 : IniF K mg C g) (F : FnOk P w K mg base (L2.CX P w) k (He.ma K (He.ga K C) "__init__") fd ps (spI2 K f g)) (hb : Binds K fd ps []) : Ini2 P w K mg base C f g k := ⟨_, fd, ps, c.o, c.i, c.t, F, hb, c.n, c2.n, c.m⟩
theorem iniK2_of (c : IniF K mg C f) (c2 : IniF K mg C g) (F : FnOk P w K mg base (L2.CX P w) k (He.ma K (He.ga K C) "__init__") fd ps (spI2 K f g)) (hb : KBn K fd ps 1 [r, q] (fun us ws => pick [0, 2, 1] (us ++ ws)) (fun us ws => pick [0, 2, 1] (us ++ ws))) : IniK2 P w K mg base C f g q r k := ⟨_, fd, ps, c.o, c.i, c.t, F, hb, c.n, c2.n, c.m⟩
end
def ini0B (K : PySem.W.Frag) (C : Str) : Bool := (He.Fa.exc C).ok K && (He.Fa.glo C).ok K
theorem ini0B_ok {K : PySem.W.Frag} {h : Heap} {mg : Str → Option Value} (X : K.In h) (G : h.Ns mainGlobals mg) {P : Program} {w : World} {C : Str} (c : ini0B K C = true) : Ini0 P w K mg C := by
  obtain ⟨c1, c2⟩ := He.ba c
  obtain ⟨h1, h2, h3, h4⟩ := He.exc_ok c1
  exact ⟨He.veBase, "ValueError", "ValueError.__new__", "ValueError.__init__", F.excBase_ValueError, h1, h3, h4, h2, He.glo_ok X G c2⟩
def xcB (K : PySem.W.Frag) (D : Addr) : Bool := He.eqO (PySem.W.findIn K (.ref D) "__getattribute__") (some (some (.builtin "BaseException.__getattribute__"))) && (He.eqO (PySem.W.findIn K (.ref D) "__getattr__") (some none) && (decide (PySem.W.subIn K (.ref D) (.type "BaseException") = some true) &&
  (PySem.W.hasDictIn K D && (He.eqO (PySem.W.findIn K (.ref D) "__class__") (some (some (.builtin "object.__class__"))) && (He.eqO (PySem.W.specialIn K (.builtin "object.__class__") "__get__") (some (some (.builtin "getset_descriptor.__get__"))) &&
  (decide (PySem.W.takesIn K (.builtin "object.__class__") = some true) && decide (PySem.W.mroIn K D (.type "object") = some true)))))))
theorem xcB_ok {K : PySem.W.Frag} {D : Addr} (c : xcB K D = true) : ExcC K D ∧ XfC K D := by
  obtain ⟨c1, c⟩ := He.ba c
  obtain ⟨c2, c⟩ := He.ba c
  obtain ⟨c3, c⟩ := He.ba c
  obtain ⟨c4, c⟩ := He.ba c
  obtain ⟨c5, c⟩ := He.ba c
  obtain ⟨c6, c⟩ := He.ba c
  obtain ⟨c7, c8⟩ := He.ba c
  exact ⟨⟨He.eqO_ok c1, He.eqO_ok c2, of_decide_eq_true c3, c4, He.eqO_ok c5, He.eqO_ok c6, of_decide_eq_true c7, of_decide_eq_true c8⟩, ⟨He.eqO_ok c1, He.eqO_ok c2, of_decide_eq_true c3, c4⟩⟩
/-- the answers of isinstance: xt each class with all names, all built-in types that it stands under; xn the names, xy the types that are asked -/
abbrev XT : Type := List (Str × List Str × List String)
def tbOf (xt : XT) (xn : List Str) (xy : List String) : Str → D → Option Bool := fun C c => match c with
  | .gl x => if xn.contains x then (xt.lookup C).map fun p => p.1.contains x else none
  | .ty n => if xy.contains n then (xt.lookup C).map fun p => p.2.contains n else none
  | _ => none
def tbB (K : PySem.W.Frag) (xt : XT) (xn : List Str) (xy : List String) : Bool := xt.all fun p => xcB K (He.ga K p.1) &&
  ((xn.all fun x => decide (PySem.W.kitOne K (.ref (He.ga K p.1)) (.ref (He.ga K x)) = some (p.2.1.contains x))) && xy.all fun n => decide (PySem.W.kitOne K (.ref (He.ga K p.1)) (.type n) = some (p.2.2.contains n)))
theorem mem_of_lookup {α β : Type} [BEq α] [LawfulBEq α] {a : α} {b : β} : ∀ {l : List (α × β)}, l.lookup a = some b → (a, b) ∈ l
  | [], h => by cases h
  | (x, y) :: r, h => by
    rw [List.lookup_cons] at h
    cases q : a == x with
    | true =>
      rw [q] at h
      cases h
      obtain rfl := eq_of_beq q
      exact List.mem_cons_self
    | false =>
      rw [q] at h
      exact List.mem_cons_of_mem _ (mem_of_lookup h)
theorem tbB_ok {K : PySem.W.Frag} {xt : XT} {xn : List Str} {xy : List String} (h : tbB K xt xn xy = true) : IsTb K (tbOf xt xn xy) := by
  intro C c b e
  unfold tbOf at e
  have key : ∀ {p : List Str × List String}, xt.lookup C = some p → ExcC K (He.ga K C) ∧ (∀ x ∈ xn, PySem.W.kitOne K (.ref (He.ga K C)) (.ref (He.ga K x)) = some (p.1.contains x)) ∧ ∀ n ∈ xy, PySem.W.kitOne K (.ref (He.ga K C)) (.type n) = some (p.2.contains n) := fun {p} q => by
    have := List.all_eq_true.mp h _ (mem_of_lookup q)
    obtain ⟨h1, h2⟩ := He.ba this
    obtain ⟨h2, h3⟩ := He.ba h2
    exact ⟨(xcB_ok h1).1, fun x hx => of_decide_eq_true (List.all_eq_true.mp h2 x hx), fun x hx => of_decide_eq_true (List.all_eq_true.mp h3 x hx)⟩
  split at e
  · rename_i x
    split at e
    · rename_i hx
      cases q : xt.lookup C with
      | none => rw [q] at e; cases e
      | some p =>
        rw [q] at e
        cases e
        obtain ⟨k1, k2, _⟩ := key q
        refine ⟨k1, .ref (He.ga K x), .ref (He.ga K x), fun lv H v' r => ?_, fun u r => r, k2 x (by simpa using hx)⟩
        cases r; rfl
    · cases e
  · rename_i x
    split at e
    · rename_i hx
      cases q : xt.lookup C with
      | none => rw [q] at e; cases e
      | some p =>
        rw [q] at e
        cases e
        obtain ⟨k1, _, k2⟩ := key q
        refine ⟨k1, .ty x, .type x, fun lv H v' r => ?_, fun u r => r, k2 x (by simpa using hx)⟩
        cases r; rfl
    · cases e
  · cases e
/-- e.f: the classes, no class field of this name -/
def xfsB (K : PySem.W.Frag) (Cs : List Str) (n : Str) : Bool := Cs.all fun C => xcB K (He.ga K C) && He.eqO (PySem.W.findIn K (.ref (He.ga K C)) n) (some none)
theorem xfsB_ok {K : PySem.W.Frag} {Cs : List Str} {n : Str} (h : xfsB K Cs n = true) : ∀ C ∈ Cs, XfC K (He.ga K C) ∧ PySem.W.findIn K (.ref (He.ga K C)) n = some none := fun C hC => by
  obtain ⟨h1, h2⟩ := He.ba (List.all_eq_true.mp h C hC)
  exact ⟨(xcB_ok h1).2, He.eqO_ok h2⟩
/-- the methods of a class -/
def clsBody : Stmt → List Stmt
  | .ClassDef _ _ _ b _ _ _ _ _ _ _ => b
  | _ => []
theorem kon_gl {K : PySem.W.Frag} {h : Heap} {mg : Str → Option Value} (X : K.In h) (G : h.Ns mainGlobals mg) {x : Str} (c : (He.Fa.glo x).ok K = true) : ∃ u v, mg x = some u ∧ RelV v u ∧ ∀ lv H, RP K lv H (.gl x) v :=
  ⟨_, .ref (He.ga K x), He.glo_ok X G c, rfl, fun _ _ => .gl x⟩
end Y
end
section
/-! Y31: x, y = e, e2 where a name is a cell of comprehensions: the tuple is made, its items stay cells of the store. -/
namespace Y
open PySem PySem.Spec PyProof.Rows L2
def sAsgT (n : Nat) (h : GMs) (f : AM) : SM := fun _ σd S => (f σd S).toS σd fun ds S1 => if ds.length = n ∧ n ≤ lim then (h ds σd S1).toS σd fun σ2 S2 => .nx σ2 S2 else .bad
section
variable {X : Cx} {hx : Hx} {pos : Pos}
theorem ds_asgT {n k k2 : Nat} {x1 x2 : Pos} {tes es : List Expr} {is : List Nat} {h : GMs} {f : AM} (hc : X.calm = true) (ha : DA X hx es f) (hg : DGs X hx tes is h) (hn : (assignEach tes X.env).length = n := by rfl) (hst : (assignEach tes X.env).findIdx? (·.1) = none := by rfl)
    (hs : swapsWithSole [.Tuple tes k x1] (.Tuple es k2 x2) pos.line X.env = pure false := by rfl) (hw : swappedStores [.Tuple tes k x1] (.Tuple es k2 x2) X.env = pure none := by rfl)
    (h1 : (assignEach [.Tuple tes k x1] X.env).map (·.2) = [assign (.Tuple tes k x1) X.env] := by rfl) : DS X hx (.Assign [.Tuple tes k x1] (.Tuple es k2 x2) pos) (sAsgT n h f) :=
  ⟨fun W tk => PSimp (ps_asg (pe_tup (ha.run W tk)) (pg_tup hc (hg.run W tk) hn hst) hs hw h1) fun σ H D ⟨b0, A0, S0, H0, A, S, σd, R0, T, R, E, p⟩ =>
  ⟨A, S, σd, R, E, (Post.ofS (R1 := rVs _) R T E p).mono fun vs H1 ⟨A1, S1, ds, R1, T1, E1, r1, p1⟩ => by
    have hl : ds.length = vs.length := Paired.length r1
    by_cases hz : ds.length = n ∧ n ≤ lim
    · rw [if_pos hz] at p1
      refine ⟨by rw [← hl, hz.1]; exact lim_line hz.2, fun q hq => ?_⟩
      refine ⟨q, vs, rfl, SqT.of upd_same, by rw [← hl]; exact hz.1, A1, S1, σd, ds, R1.new hq, E1.step R1 (Stp.new hq), Paired.mapP r1 fun d v z => RV.step R1 (Stp.new hq) z, ?_⟩
      exact (Post.ofS (R1 := rEv _ is σ) (R1.new hq) (T1.trans (Stp.new hq)) (E1.step R1 (Stp.new hq)) p1).mono fun σ2 H2 ⟨A2, S2, σd2, R2, T2, _, ⟨E2, _⟩, p2⟩ => p2 A2 H2 σ2 R2 T2 E2
    · rw [if_neg hz] at p1
      exact p1.elim⟩⟩
end
section
variable {σ : Ev} {S : Store} {b n : Nat} {h : GMs} {ga : AM}
@[simp] theorem sAsgT_ap : sAsgT n h ga b σ S = (ga σ S).toS σ fun ds S1 => if ds.length = n ∧ n ≤ lim then (h ds σ S1).toS σ fun σ2 S2 => .nx σ2 S2 else .bad := id rfl
end
end Y
end
section
set_option maxHeartbeats 1000000
/-! Y32: try with clauses of both kinds, 'except x as n' and 'except x'. -/
namespace Y
open PySem PySem.Spec PyProof.Rows L2
abbrev Cl : Type := Value × Option Nat × (Addr → Value → Option Addr → TS)
/-- the ends of a clause's suite: the name of slot i is let go -/
def gone (i : Nat) (D : Ends) : Ends := { nx := fun σ' H' => D.nx (σ'.set i none) H', rt := D.rt, bk := fun σ' H' => D.bk (σ'.set i none) H', ct := fun σ' H' => D.ct (σ'.set i none) H' }
def clT (o : Option Nat) (t : TS) (a : Addr) : TS := fun D σ H => match o with
  | none => t D σ H
  | some i => t (gone i D) (σ.set i (some (.ref a))) H
/-- what the clauses wish of an exception of the body -/
def wMix (K : PySem.W.Frag) (Wout : WX) (D : Ends) : List Cl → WX
  | [] => Wout
  | (c, o, ts) :: r => fun cls d σ H => ∃ b, PySem.W.exmOne K cls c = some b ∧ (b = true → ∀ a, H a = none → clT o (ts a cls d) a D σ H) ∧ (b = false → wMix K Wout D r cls d σ H)
/-- the slot of the name that a clause binds -/
def Slot (X : Cx) : Option Str → Option Nat → Prop
  | none, none => True
  | some n, some i => X.N[i]? = some n ∧ X.env.kindOf n = some .local
  | _, _ => False
inductive ClsOk (X : Cx) : List ExceptHandler → List Cl → Prop
  | nil : ClsOk X [] []
  | cons {x : Str} {c : Value} {nm : Option Str} {o : Option Nat} {ts : Addr → Value → Option Addr → TS} {b₀ : Stmt} {suite : List Stmt} {np pos' : Pos} {hds : List ExceptHandler} {l : List Cl} (hc : Names X x c) (hs : Slot X nm o)
      (hsu : ∀ (a : Addr) (oe : Obj) (cls : Value) (d : Option Addr) (pn : List (Addr × Obj)), Zc cls d oe → (∃ vs, oe.data = .fields vs) → PSs (X.suite a ((a, oe) :: pn)) (b₀ :: suite) (ts a cls d)) (r : ClsOk X hds l) :
      ClsOk X (.ExceptHandler (some (.Name x np)) nm (b₀ :: suite) pos' :: hds) ((c, o, ts) :: l)
section
variable {X : Cx} {body : List Stmt} {h₀ : ExceptHandler} {hds : List ExceptHandler} {l : List Cl} {pos : Pos} {tb : WX → TS} {Wout : WX} {pins : List (Addr × Obj)} {s' : Shared} {h3 : Heap} {a B : Addr}
theorem ps_try_mix (hs : X.stack = X.env :: X.outer) (hf : X.env.frame = some X.env.locals) (hN : X.N.Nodup) (tk : Takes X Wout)
    (hb : ∀ (W : WX) (pn : List (Addr × Obj)) (xe : Value → Shared → Prop), Takes (X.tr pn xe) W → PassesOwn (model X.prog X.w) X.A X.env xe → PSs (X.tr pn xe) body (tb W))
    (hh : ClsOk X (h₀ :: hds) l) : PS X (.Try body (h₀ :: hds) [] [] pos) (fun D σ H => tb (wMix X.K Wout D l) D σ H) := by
  refine ⟨fun pins s σ H D I h => ?_⟩
  have ok := I.ok
  have hfr : X.A.frames = some (X.env :: X.outer) := by rw [ok.frames, hs]
  refine wpAny_Try_except ?_
  refine wpAny_mono ((hb (wMix X.K Wout D l) (X.pn ++ pins) (fun e s₁ => wpAny (model X.prog X.w) X.A (noteFrame e X.env) (fun _ s₂ => wpAny (model X.prog X.w) X.A (setFlight e none) (fun _ s₃ =>
    wpAny (model X.prog X.w) X.A (handleBy e X.env (h₀ :: hds)) (SP X pins D) X.xe s₃) X.xe s₂) X.xe s₁) (fun u s' xx => ?_) PassesOwn.looking).run [] s σ H D (I.toTry _) h) (fun f s1 hsp => ?_) (fun e s1 he => he)
  · obtain ⟨a, B, sI, pins', σ', H', cls, d, rfl, J', nb, up, sky, na, os, ag, w⟩ := xx
    have J : Inv X pins σ' H' sI := J'.ofTry ok
    show wpAny (model X.prog X.w) X.A (noteFrame (.ref a) X.env) _ _ _
    refine Sky.land Zc.steady hfr hf (by rw [← hs]; exact sky) fun h3 fl3 up3 => ?_
    have J3 : Inv X pins σ' H' { s' with heap := h3 } := J.landed nb fl3.1 (up.trans up3) os ag
    obtain ⟨oe3, vs3, he3, hz3, hd3⟩ := fl3.there
    have nfr : a ∉ frs (X.env :: X.outer) := fun hm => by
      obtain ⟨_, o', e', hnf⟩ := fl3.2.2.1.mem hm
      rw [he3] at e'
      cases e'
      exact hnf _ hd3
    have nL : a ≠ X.env.locals := fun z => nfr (List.mem_filterMap.mpr ⟨X.env, List.mem_cons_self, by rw [hf, z]⟩)
    have nF : a ∉ X.fs := fun hm => by
      obtain ⟨e, he, q⟩ := List.mem_filterMap.mp hm
      exact nfr (List.mem_filterMap.mpr ⟨e, List.mem_cons_of_mem _ he, q⟩)
    have S3 := J3.suite he3 hd3 na nL nF
    have LT : PySem.W.Looks (model X.prog X.w) h3 (typeOf (.ref a)) cls := fun A Q E s k q => wpAny_typeOf_ref (k _ _ he3) (by rw [hz3.1]; exact q)
    have go : ∀ {hds' : List ExceptHandler} {l' : List Cl}, ClsOk X hds' l' → wMix X.K Wout D l' cls d σ' H' → wpAny (model X.prog X.w) X.A (handleBy (.ref a) X.env hds') (SP X pins D) X.xe { s' with heap := h3 } := by
      intro hds' l' hk
      induction hk with
      | nil =>
        intro w
        refine wpAny_handleBy_nil ?_
        obtain ⟨k1, k2, k3, oe, vs, T, oT, ts', he, hz, hd, h1, hr⟩ := id fl3
        unfold PySem.passOn
        refine wpAny_bind (wpAny_field he hd h1 ?_)
        rw [if_neg (show ¬ ((Value.ref T == Value.none) = true) from by simp)]
        have fin : wpAny (model X.prog X.w) X.A (setFlight (.ref a) X.env.frame) (fun _ s4 => wpAny (model X.prog X.w) X.A (throw (.ref a) : Sem Flow) (SP X pins D) X.xe s4) X.xe { s' with heap := h3 } := by
          rw [hf]
          exact HandSPX.setFlight_upZ fl3 fun h4 hh4 up4 => wpAny_throw (tk _ _ ⟨a, B, sI, pins, σ', H', cls, d, rfl, J, nb, (up.trans up3).trans up4, .inr (.inr (by rw [hs]; exact hh4)), na, os, ag, w⟩)
        first
          | exact wpAny_bind (wpAny_pure (wpAny_bind fin))
          | exact wpAny_bind fin
      | @cons x c nm o ts b₀ suite np pos' hds2 l2 hc hsl hsu r ih =>
        intro w
        obtain ⟨b, hb1, hyes, hno⟩ := w
        refine wpAny_handleBy_cons (codeAny_handlers_test ?_) (by intro q; cases q)
        have LM := PySem.W.exm_one (M := model X.prog X.w) (J3.kIn) LT hb1
        have test : ∀ {Q : Value → Shared → Prop} {E : Value → Shared → Prop}, Q c { s' with heap := h3 } → wpAny (model X.prog X.w) (X.A.mark (some (.ref a))) (eval (.Name x np) X.env) Q E { s' with heap := h3 } := fun {Q E} q => by
          obtain ⟨hg, hdbg, hm | ⟨hm, hv, hnn⟩⟩ := hc
          · exact ld_glob (X := X.suite a ((a, oe3) :: (X.pn ++ pins))) S3 hg hm q hdbg
          · exact ld_blt (X := X.suite a ((a, oe3) :: (X.pn ++ pins))) S3 hg hm hv q hnn hdbg
        refine test (LM.here ?_)
        cases b with
        | false =>
          show wpAny _ X.A (handleBy (.ref a) X.env hds2) _ _ _
          exact ih (hno rfl)
        | true =>
          have q := hyes rfl a na
          cases o with
          | none =>
            cases nm with
            | some _ => exact hsl.elim
            | none =>
              refine codeAny_handlers_suite ?_
              refine HandSPX.lands_againZ fl3 fun h4 fl4 up4 => ?_
              obtain ⟨oe4, vs4, he4, hz4, hd4⟩ := fl4.there
              have J4 : Inv X pins σ' H' { s' with heap := h4 } := J.landed nb fl4.1 ((up.trans up3).trans up4) os ag
              have S4 := J4.suite he4 hd4 na nL nF
              refine wpAny_mono ((hsu a oe4 cls d (X.pn ++ pins) hz4 ⟨_, hd4⟩).run [] _ _ H' _ S4 q) (fun f s6 hsp => ?_) (fun _ _ z => False.elim z)
              cases f with
              | ret u =>
                obtain ⟨v6, σ6, H6, S6, r6, q6⟩ := hsp
                exact ⟨_, _, _, S6.unsuite ok, r6, q6⟩
              | _ =>
                obtain ⟨σ6, H6, S6, q6⟩ := hsp
                exact ⟨_, _, S6.unsuite ok, q6⟩
          | some i =>
            cases nm with
            | none => exact hsl.elim
            | some n =>
              obtain ⟨hi, hln⟩ := hsl
              refine codeAny_handlers_suite_as ?_
              refine HandSPX.lands_againZ fl3 fun h4 fl4 up4 => ?_
              obtain ⟨oe4, vs4, he4, hz4, hd4⟩ := fl4.there
              have J4 : Inv X pins σ' H' { s' with heap := h4 } := J.landed nb fl4.1 ((up.trans up3).trans up4) os ag
              have S4 := J4.suite he4 hd4 na nL nF
              refine store_ok (X := X.suite a ((a, oe4) :: (X.pn ++ pins))) (v := .ref a) S4 hN hi (.inl hln) rfl (fun s5 S5 => ?_) (.inr hln)
              refine wpAny_mono ((hsu a oe4 cls d (X.pn ++ pins) hz4 ⟨_, hd4⟩).run [] s5 _ H' _ S5 q) (fun f s6 hsp => ?_) (fun _ _ z => False.elim z)
              have fin : ∀ {σ6 : L2.St} {H6 : Hp} {Q : Shared → Prop}, Inv (X.suite a ((a, oe4) :: (X.pn ++ pins))) [] σ6 H6 s6 → (∀ s7, Inv X pins (σ6.set i none) H6 s7 → Q s7) →
                  wpAny (model X.prog X.w) X.A (do bindName X.env n .none; unbindBehindTheSuite X.env n pos') (fun _ s7 => Q s7) X.xe s6 := fun {σ6 H6 Q} S6 hq => gone_ok (S6.unsuite ok) hN hi hln hq
              cases f with
              | ret u =>
                obtain ⟨v6, σ6, H6, S6, r6, q6⟩ := hsp
                exact fin S6 fun s7 J7 => ⟨_, _, _, J7, r6, q6⟩
              | _ =>
                obtain ⟨σ6, H6, S6, q6⟩ := hsp
                exact fin S6 fun s7 J7 => ⟨_, _, J7, q6⟩
    exact go hh w
  · cases f with
    | next =>
      obtain ⟨σ', H', J', q⟩ := hsp
      exact wpAny_execs_nil ⟨σ', H', J'.ofTry ok, q⟩
    | ret u =>
      obtain ⟨v, σ', H', J', r, q⟩ := hsp
      exact ⟨v, σ', H', J'.ofTry ok, r, q⟩
    | _ =>
      obtain ⟨σ', H', J', q⟩ := hsp
      exact ⟨σ', H', J'.ofTry ok, q⟩
end
end Y
end
section
/-! Y33: try and raise over D; e.f of the exception that a suite holds. -/
namespace Y
open PySem PySem.Spec PyProof.Rows L2
/-- held exceptions are let go -/
def drH (σd : Ev) : Ev := σd.map fun o => match o with
  | some (.hex _ _ _) => none
  | o => o
theorem drH_re {K : PySem.W.Frag} {hx hx' : Hx} {A : Ads} {lv : Addr → Prop} {H : Hp} {σd : Ev} {σ : L2.St} (h : RE K hx A lv H σd σ) : RE K hx' A lv H (drH σd) σ := by
  refine ⟨by simp [drH, h.len], fun i d e => ?_⟩
  unfold drH at e
  rw [List.getElem?_map] at e
  cases q : σd[i]? with
  | none => rw [q] at e; cases e
  | some o =>
    rw [q] at e
    cases o with
    | none => cases e
    | some d' =>
      cases d' with
      | hex C ns l => cases e
      | d x =>
        cases e
        exact h.at_ i _ q
      | loc n =>
        cases e
        exact h.at_ i _ q
def wipe1 (o : Option Nat) (σd : Ev) : Ev := match o with
  | none => σd
  | some i => σd.set i none
theorem re_none {K : PySem.W.Frag} {hx : Hx} {A : Ads} {lv : Addr → Prop} {H : Hp} {σd : Ev} {σ : L2.St} {i : Nat} (h : RE K hx A lv H σd σ) : RE K hx A lv H (σd.set i none) (σ.set i none) := by
  refine ⟨by simp [h.len], fun j d e => ?_⟩
  by_cases hj : i = j
  · subst hj
    by_cases hl : i < σd.length
    · rw [List.getElem?_set_self hl] at e
      cases e
    · rw [List.getElem?_eq_none (by simpa using hl)] at e; cases e
  · rw [List.getElem?_set_ne hj] at e
    rw [List.getElem?_set_ne hj]
    exact h.at_ j d e
def inH (o : Option Nat) (C : Str) (ns : List Str) (l : List D) (σd : Ev) : Ev := match o with
  | none => drH σd
  | some i => (drH σd).set i (some (.hex C ns l))
def outH (o : Option Nat) : SR → SR
  | .nx σd S => .nx (drH (wipe1 o σd)) S
  | .bk σd S => .bk (drH (wipe1 o σd)) S
  | .ct σd S => .ct (drH (wipe1 o σd)) S
  | .rt (.d x) S => .rt (.d x) S
  | .rt (.loc n) S => .rt (.loc n) S
  | _ => .bad
abbrev HdD : Type := Str × Option Nat × SM
/-- the clauses, one after the other; et tells which class falls under which name -/
def clsR (et : Str → Str → Option Bool) (C : Str) (ns : List Str) (l : List D) (b : Nat) (σd : Ev) (S : Store) : List HdD → SR
  | [] => .exc C ns l σd S
  | (x, o, f) :: r => match et C x with
    | some true => outH o (f b (inH o C ns l σd) S)
    | some false => clsR et C ns l b σd S r
    | none => .bad
def sTry (et : Str → Str → Option Bool) (fb : SM) (hs : List HdD) : SM := fun b σd S => match fb b σd S with
  | .exc C ns l σd' S' => clsR et C ns l b σd' S' hs
  | r => r
def IsEt (K : PySem.W.Frag) (et : Str → Str → Option Bool) : Prop := ∀ C x b, et C x = some b → PySem.W.exmOne K (.ref (He.ga K C)) (.ref (He.ga K x)) = some b
/-- in a suite: the exception that it holds -/
abbrev hxA (a : Addr) (cls : Value) (d : Option Addr) : Hx := fun a' C dd => a' = a ∧ cls = .ref C ∧ d = some dd
inductive DHs (X : Cx) : List ExceptHandler → List HdD → Prop
  | nil : DHs X [] []
  | cons {x : Str} {nm : Option Str} {o : Option Nat} {f : SM} {b₀ : Stmt} {suite : List Stmt} {np pos' : Pos} {hds : List ExceptHandler} {l : List HdD} (hc : Names X x (.ref (He.ga X.K x))) (hs : Slot X nm o)
      (hsu : ∀ (a : Addr) (oe : Obj) (cls : Value) (d : Option Addr) (pn : List (Addr × Obj)), Zc cls d oe → (∃ vs, oe.data = .fields vs) → DB (X.suite a ((a, oe) :: pn)) (hxA a cls d) (b₀ :: suite) f) (r : DHs X hds l) :
      DHs X (.ExceptHandler (some (.Name x np)) nm (b₀ :: suite) pos' :: hds) ((x, o, f) :: l)
abbrev clOf (K : PySem.W.Frag) (h : HdD) : Cl := (.ref (He.ga K h.1), h.2.1, fun a cls d => tS ⟨K, hxA a cls d, fun _ _ _ _ => False⟩ h.2.2)
theorem DHs.ok {X : Cx} {hds : List ExceptHandler} {l : List HdD} (h : DHs X hds l) : ClsOk X hds (l.map (clOf X.K)) := by
  induction h with
  | nil => exact .nil
  | cons hc hs hsu r ih => exact .cons hc hs (fun a oe cls d pn hz hf => (hsu a oe cls d pn hz hf).run _ takes_none5) ih
theorem SPost.outH {K : PySem.W.Frag} {hx hx' : Hx} {W : WX} {A0 : Ads} {S0 : Store} {H0 : Hp} {D : Ends} {o : Option Nat} {r : SR} (p : SPost ⟨K, hx, W⟩ A0 S0 H0 D (Y.outH o r)) :
    SPost ⟨K, hx', fun _ _ _ _ => False⟩ A0 S0 H0 (match o with | none => D | some i => gone i D) r := by
  cases r with
  | nx σd S =>
    intro A H σ R T E
    cases o with
    | none => exact p A H σ R T (drH_re E)
    | some i => exact p A H _ R T (drH_re (re_none E))
  | bk σd S =>
    intro A H σ R T E
    cases o with
    | none => exact p A H σ R T (drH_re E)
    | some i => exact p A H _ R T (drH_re (re_none E))
  | ct σd S =>
    intro A H σ R T E
    cases o with
    | none => exact p A H σ R T (drH_re E)
    | some i => exact p A H _ R T (drH_re (re_none E))
  | rt w S =>
    intro A H v R T r
    cases w with
    | hex C ns l => exact p.elim
    | d x =>
      cases o with
      | none => exact p A H v R T r
      | some i => exact p A H v R T r
    | loc n =>
      cases o with
      | none => exact p A H v R T r
      | some i => exact p A H v R T r
  | exc C ns l σd S => exact p.elim
  | bad => exact p.elim
theorem cls_ok {K : PySem.W.Frag} {et : Str → Str → Option Bool} (he : IsEt K et) {hx : Hx} {W : WX} {A0 A : Ads} {S0 S : Store} {H0 H : Hp} {C : Str} {ns : List Str} {l : List D} {Dn : Ends} {b : Nat} {σd : Ev} {σ : L2.St} {dx : Addr} {vs : List V} (R0 : Rel K A0 S0 H0) (R : Rel K A S H) (T : Stp A0 S0 H0 A S H)
    (E : RE K hx A (Live A S) H σd σ) (hd : H dx = some (.xd (ns.zip vs))) (hl : RPs K (Live A S) H l vs) (hn : ns.length = l.length) : ∀ {hs : List HdD}, SPost ⟨K, hx, W⟩ A0 S0 H0 Dn (clsR et C ns l b σd S hs) → wMix K W Dn (hs.map (clOf K)) (.ref (He.ga K C)) (some dx) σ H
  | [], p => p A H σ dx vs R T E hd hl hn
  | (x, o, f) :: r, p => by
    unfold clsR at p
    cases q : et C x with
    | none => rw [q] at p; exact p.elim
    | some k =>
      rw [q] at p
      refine ⟨k, he C x k q, fun e a ha => ?_, fun e => ?_⟩
      · subst e
        have p2 := SPost.outH (hx' := hxA a (.ref (He.ga K C)) (some dx)) p
        have E1 : RE K (hxA a (.ref (He.ga K C)) (some dx)) A (Live A S) H (drH σd) σ := drH_re E
        cases o with
        | none => exact ⟨b, A0, S0, H0, A, S, _, R0, T, R, E1, p2⟩
        | some i => exact ⟨b, A0, S0, H0, A, S, _, R0, T, R, E1.set (d := .hex C ns l) ⟨a, dx, vs, rfl, ⟨rfl, rfl, rfl⟩, hd, hl, hn⟩, p2⟩
      · subst e
        exact cls_ok he R0 R T E hd hl hn p
section
variable {X : Cx} {hx : Hx} {body : List Stmt} {h₀ : ExceptHandler} {hds : List ExceptHandler} {fb : SM} {hs : List HdD} {pos : Pos} {et : Str → Str → Option Bool}
theorem ds_try (he : IsEt X.K et) (hN : X.N.Nodup) (hb : ∀ (pn : List (Addr × Obj)) (xe : Value → Shared → Prop), DB (X.tr pn xe) hx body fb) (hh : DHs X (h₀ :: hds) hs) (hst : X.stack = X.env :: X.outer := by rfl) (hf : X.env.frame = some X.env.locals := by rfl) :
    DS X hx (.Try body (h₀ :: hds) [] [] pos) (sTry et fb hs) := ⟨fun W tk => PSimp (ps_try_mix (tb := fun W' => tS ⟨X.K, hx, W'⟩ fb) hst hf hN tk (fun W' pn xe tk' _ => (hb pn xe).run W' tk') hh.ok) fun σ H D ⟨b0, A0, S0, H0, A, S, σd, R0, T, R, E, p⟩ => by
    refine ⟨b0, A0, S0, H0, A, S, σd, R0, T, R, E, ?_⟩
    unfold sTry at p
    cases q : fb b0 σd S with
    | exc C ns l σd' S' =>
      rw [q] at p
      exact fun A' H' σ' dx vs R' T' E' hd hl hn => cls_ok he R0 R' T' E' hd hl hn p
    | nx _ _ => rw [q] at p; exact p
    | bk _ _ => rw [q] at p; exact p
    | ct _ _ => rw [q] at p; exact p
    | rt _ _ => rw [q] at p; exact p
    | bad => rw [q] at p; exact p.elim⟩
/-- raise C(e), C keeping one thing -/
def sRs1 (C f : Str) (g : AM) : SM := fun _ σd S => (g σd S).toS σd fun ws S1 => match ws with
  | [w] => (match fz1 S1 w with
    | .ok x S2 => .exc C [f] [x] σd S2
    | _ => .bad)
  | _ => .bad
theorem ds_raise1 {C f : Str} {k : Nat} {e : Expr} {es : List Expr} {g : AM} {p cpos : Pos} (hcalm : X.calm = true) (G : Ini1 X.prog X.w X.K X.mg X.base C f k) (hr : Room (k + 1) X.A) (ha : DA X hx (e :: es) g) (hg : Gl X C := by rfl)
    (hdb : (C == ("__debug__" : Str)) = false := by decide) (he : starEach (e :: es) X.env = (false, eval e X.env) :: starEach es X.env := by rfl) (hpl : (backTo cpos (starEach es X.env)).any (·.1) = false := by rfl) :
    DS X hx (.Raise (some (.Call (.Name C p) (e :: es) [] cpos)) none pos) (sRs1 C f g) := by
  obtain ⟨fI, fd, ps, T, iC, tI, F1, hb, hno, hm⟩ := G.is
  refine ⟨fun W tk => PSimp (ps_raise hcalm tk (pmk_oex T iC tI F1 hr hb .nil (fun pins σ H s e s' I c => tk e s' (XE.of_call (σ := σ) I (fun _ _ _ h => h.elim) c)) hg hm (ha.run W tk) hdb he hpl)) fun σ H D ⟨b0, A0, S0, H0, A, S, σd, R0, T0, R, E, p⟩ => ?_⟩
  refine ⟨A, S, σd, R, E, (Post.ofS (R1 := rVs _) R T0 E p).mono fun us H1 ⟨A1, S1, ds, R1, T1, E1, r1, p1⟩ => ?_⟩
  split at p1
  · rename_i w0
    obtain ⟨y, rfl, ry⟩ := rvs1 r1
    cases q : fz1 S1 w0 with
    | bad => rw [q] at p1; exact p1.elim
    | exc _ _ _ _ => exact (fz1_nexc q).elim
    | ok x S2 =>
      rw [q] at p1
      obtain ⟨R2, T2, r2⟩ := fz1_ok R1 ry q
      refine ⟨by show 1 ≤ 1000; omega, fun a hn => ?_⟩
      refine ⟨a, He.ga X.K C, y, rfl, T, hno, upd_same, fun d hd ne => ?_⟩
      have hd1 : H1 d = none := by rw [upd_ne ne] at hd; exact hd
      refine ⟨rfl, d, [(f, y)], upd_same, by rw [upd_ne ne, upd_same], hd1, ?_⟩
      rw [heap_mk hn ne]
      exact p1 A1 _ σ d [y] (R2.new hd1) ((T1.trans T2).trans (Stp.new hd1)) ((E1.step R1 T2).step R2 (Stp.new hd1)) upd_same (fr_new R2 hd1 (.one r2)) rfl
  · exact p1.elim
end
/-- e.f, e what the suite holds -/
def eHf (Cs : List Str) (n : Str) (f : EM) : EM := fun σd S => (f σd S).bind fun w S1 => match w with
  | .hex C ns l => if C ∈ Cs then optD S1 (zipL n ns l) else .bad
  | _ => .bad
section
variable {X : Cx} {a : Addr} {oe : Obj} {cls : Value} {d : Option Addr} {pn : List (Addr × Obj)} {e : Expr} {fe : EM} {pos : Pos} {n : Str}
theorem d_hexf (Cs : List Str) (hC : ∀ C ∈ Cs, XfC X.K (He.ga X.K C) ∧ PySem.W.findIn X.K (.ref (He.ga X.K C)) n = some none) (hz : Zc cls d oe) (hf : ∃ vs, oe.data = .fields vs) (he : DE (X.suite a ((a, oe) :: pn)) (hxA a cls d) e fe)
    (hb : attributeBase e n X.env (eval e X.env) = eval e X.env := by rfl) : DE (X.suite a ((a, oe) :: pn)) (hxA a cls d) (.Attribute e n pos) (eHf Cs n fe) := by
  refine ⟨fun W tk => ⟨fun pins s σ H Q I h => ?_⟩⟩
  obtain ⟨A, S, σd, R, E, p⟩ := h
  refine attr_of hb (thn ((he.run W tk).run pins s σ H _ I ⟨A, S, σd, R, E, Post.bind (R1 := rV _) p⟩) fun u s1 hh => ?_)
  obtain ⟨x, H1, I1, rx, A1, S1, w, R1, T1, r1, p1⟩ := hh
  split at p1
  · rename_i C ns l
    obtain ⟨hm, p1⟩ := Post.iteP p1
    obtain ⟨T, hno⟩ := hC C hm
    obtain ⟨a', dd, vs, ex, ⟨ea, ec, ed⟩, hdd, hl, hn⟩ := r1
    subst ea ex
    have hz1 : oe.cls = .ref (He.ga X.K C) := hz.1.trans ec
    have hz2 : oe.dict = some dd := hz.2.trans ed
    obtain rfl : u = Value.ref a' := rx
    cases q : zipL n ns l with
    | none => rw [q] at p1; exact p1.elim
    | some y =>
      rw [q] at p1
      obtain ⟨v, l1, l2⟩ := zipL_ok hl q
      obtain ⟨ha, _⟩ := I1.pin (a', oe) (List.mem_append_left _ List.mem_cons_self)
      obtain ⟨fvs, hd⟩ := hf
      have hx : ObjOk X.prog X.w H1 s1.heap dd (.xd (ns.zip vs)) := I1.hok dd _ hdd
      obtain ⟨mA, hns, hr⟩ := hx
      obtain ⟨od, ho, hlk⟩ := lookIn_ns hns
      obtain ⟨u, hu, ru⟩ := RelO.some_of (v := v) (o := mA n) (by rw [← l1]; exact hr n)
      have J : PySem.W.InstAt s1.heap a' oe (He.ga X.K C) (some od) := ⟨ha, hz1, by unfold PySem.W.notCls; rw [hd] <;> rfl, by rw [hz2]; exact ho⟩
      exact HandSPX.exc_get I1.kIn J T.ga T.gg T.exC (PySem.W.findObj_own T.hdC hno rfl (by rw [hlk, hu])) (handed_of ru) ⟨v, H1, I1.tok _, ru, p1.hereV R1 l2⟩
  · exact p1.elim
end
/-- told by the heap -/
def etOf (xt : XT) (xn : List Str) : Str → Str → Option Bool := fun C x => if xn.contains x then (xt.lookup C).map fun p => p.1.contains x else none
def etB (K : PySem.W.Frag) (xt : XT) (xn : List Str) : Bool := xt.all fun p => xn.all fun x => decide (PySem.W.exmOne K (.ref (He.ga K p.1)) (.ref (He.ga K x)) = some (p.2.1.contains x))
theorem etB_ok {K : PySem.W.Frag} {xt : XT} {xn : List Str} (h : etB K xt xn = true) : IsEt K (etOf xt xn) := by
  intro C x b e
  unfold etOf at e
  split at e
  · rename_i hx
    cases q : xt.lookup C with
    | none => rw [q] at e; cases e
    | some p =>
      rw [q] at e
      cases e
      exact of_decide_eq_true (List.all_eq_true.mp (List.all_eq_true.mp h _ (mem_of_lookup q)) x (by simpa using hx))
  · cases e
theorem names_gl {X : Cx} {x : Str} (h : ∃ u v, X.mg x = some u ∧ RelV v u ∧ ∀ lv H, RP X.K lv H (.gl x) v) (hg : Gl X x := by rfl) (hdb : (x == ("__debug__" : Str)) = false := by decide) : Names X x (.ref (He.ga X.K x)) := by
  obtain ⟨u, v, h1, h2, h3⟩ := h
  have h4 := h3 (fun _ => False) (fun _ => none)
  cases h4
  obtain rfl : u = Value.ref _ := h2
  exact ⟨hg, hdb, .inl h1⟩
end Y
end
section
set_option maxHeartbeats 1000000
/-! Y34: tuple * int for every int; methods of texts; list.count; int(text). -/
namespace Y
open PySem PySem.Spec PyProof.Rows L2
/-! ### tuple * k, k below 2 or the tuple empty -/
theorem tmul_same (l : Addr) (items : Array Value) (n : Nat) (sl : Array (Option Value)) (x : Int) (u : Tok) (c0 : (decide (x < -(2 ^ 63)) || decide (x ≥ 2 ^ 63)) = false) (c1 : (items.isEmpty || x == 1) = true) :
    Meets (Builtin.«tuple.__mul__» ⟨[.ref l, .int x u], []⟩) (fun _ R s => (∃ dd, s.heap.get? l = some { cls := .type "tuple", dict := dd, data := .seq items n, slots := sl }) ∧ R (.ok (.ret (Value.ref l))) s) :=
  .of_wp fun prog w A R s h => by
    obtain ⟨hp, g, d, tk, os⟩ := s
    obtain ⟨⟨dd, hl⟩, h⟩ := h
    have f1 := AutoSeq1.idx_int
    wp_walk using wpAny_loadPart' hl
    repeat (first
      | (refine wpAny_ite_false (decide_eq_false (by rw [c0]; exact Bool.false_ne_true)) ?_; wp_walk using wpAny_loadPart' hl)
      | (refine wpAny_ite_true (decide_eq_true c1) ?_; wp_walk using wpAny_loadPart' hl))
    exact ⟨_, rfl, h⟩
theorem tmul_none (l : Addr) (items : Array Value) (n : Nat) (sl : Array (Option Value)) (x : Int) (u : Tok) (c0 : (decide (x < -(2 ^ 63)) || decide (x ≥ 2 ^ 63)) = false) (c1 : (items.isEmpty || x == 1) = false) (c2 : (decide (x ≤ 0) || items.isEmpty) = true) :
    Meets (Builtin.«tuple.__mul__» ⟨[.ref l, .int x u], []⟩) (fun _ R s => (∃ dd, s.heap.get? l = some { cls := .type "tuple", dict := dd, data := .seq items n, slots := sl }) ∧
      R (.ok (.ret (Value.ref s.heap.objs.size))) { s with heap := s.heap.push { cls := Value.type "tuple", data := Data.seq #[] }, toks := s.toks }) :=
  .of_wp fun prog w A R s h => by
    obtain ⟨hp, g, d, tk, os⟩ := s
    obtain ⟨⟨dd, hl⟩, h⟩ := h
    have f1 := AutoSeq1.idx_int
    wp_walk using wpAny_loadPart' hl
    repeat (first
      | (refine wpAny_ite_false (decide_eq_false (by rw [c0]; exact Bool.false_ne_true)) ?_; wp_walk using wpAny_loadPart' hl)
      | (refine wpAny_ite_false (decide_eq_false (by rw [c1]; exact Bool.false_ne_true)) ?_; wp_walk using wpAny_loadPart' hl)
      | (refine wpAny_ite_true (decide_eq_true c2) ?_; wp_walk using wpAny_loadPart' hl))
    exact ⟨_, rfl, h⟩
def rMulT (K : PySem.W.Frag) : R2 := fun x y H Q => ∃ l k xs, x = .ref l ∧ y = .int k ∧ SqT K H l xs ∧ xs ≠ [] ∧ -1000 ≤ k ∧ k ≤ 1 ∧ (k = 1 → Q (.ref l) H) ∧ (k ≤ 0 → ∀ p, H p = none → Q (.ref p) (upd H p (.tup [])))
section
variable {X : Cx}
theorem op_mulT : OpR X (binaryOp .Mult) (rMulT X.K) := by
  intro pins s σ H x y v u Q I rx ry h
  obtain ⟨l, k, xs, rfl, rfl, hT, hne, h1, h2, q1, q0⟩ := h
  cases rx
  obtain ⟨t, rfl⟩ := ry
  obtain ⟨its, r, ⟨⟨cls, dd, data, sl⟩, ho, hc, n, hd⟩, hs⟩ := I.tuple hT
  simp only at hc hd
  subst hc hd
  have hn : its ≠ [] := fun e => hne (by
    have hle : its.length = xs.length := r.length.symm
    rw [e] at hle
    exact List.eq_nil_of_length_eq_zero hle.symm)
  have hi : its.toArray.isEmpty = false := by
    cases its with
    | nil => exact absurd rfl hn
    | cons a b => rfl
  have c0 : (decide (k < -(2 ^ 63)) || decide (k ≥ 2 ^ 63)) = false := by
    rw [decide_eq_false (by omega), decide_eq_false (by omega)] <;> rfl
  by_cases hk : k = 1
  · subst hk
    have c1 : (its.toArray.isEmpty || (1 : Int) == 1) = true := by rw [hi]; rfl
    refine wpAny_binaryOp_repeat_ref (T := "tuple") (U := "int") (by decide) ⟨_, ho, rfl⟩ (fun s' => typeIs_int s' _ t) noFill_tuple_mul F.fills_int_mul F.slot_int_rmul repeat_tuple F.slot_int_index.lookup
      (call_meets F.slot_int_rmul (typeIs_int s _ t) F.entry_int_rmul (F.args_int_rmul_2 _ _) (int_rmul_tuple _ t l its.toArray n dd sl)
        ⟨ho, rfl, ⟨_, ho, rfl⟩, call_meets F.slot_tuple_mul ⟨_, ho, rfl⟩ F.entry_tuple_mul (F.args_tuple_mul_2 _ _) (tmul_same l its.toArray n sl 1 t c0 c1) ⟨⟨dd, ho⟩, ?_⟩⟩)
    exact ⟨.ref l, H, I, rfl, q1 rfl⟩
  · have c1 : (its.toArray.isEmpty || k == 1) = false := by
      rw [hi, Bool.false_or]
      exact beq_eq_false_iff_ne.mpr hk
    have c2 : (decide (k ≤ 0) || its.toArray.isEmpty) = true := by
      rw [decide_eq_true (show k ≤ 0 by omega)]; rfl
    refine wpAny_binaryOp_repeat_ref (T := "tuple") (U := "int") (by decide) ⟨_, ho, rfl⟩ (fun s' => typeIs_int s' k t) noFill_tuple_mul F.fills_int_mul F.slot_int_rmul repeat_tuple F.slot_int_index.lookup
      (call_meets F.slot_int_rmul (typeIs_int s k t) F.entry_int_rmul (F.args_int_rmul_2 _ _) (int_rmul_tuple k t l its.toArray n dd sl)
        ⟨ho, rfl, ⟨_, ho, rfl⟩, call_meets F.slot_tuple_mul ⟨_, ho, rfl⟩ F.entry_tuple_mul (F.args_tuple_mul_2 _ _) (tmul_none l its.toArray n sl k t c0 c1 c2) ⟨⟨dd, ho⟩, ?_⟩⟩)
    refine ⟨.ref s.heap.objs.size, _, I.laid (t' := s.toks) (o := .tup []) (fun b ob q => Heap.get?_push_of_some _ q) (Nat.le_refl _) ?_, rfl, q0 (by omega) _ (I.hok.fresh (Nat.le_refl _))⟩
    exact ⟨Nat.zero_le _, [], .nil, IsTup.new s.heap #[]⟩
end
section
variable {X : Cx} {hx : Hx}
/-- tuple * k, lists, texts and numbers as before -/
def opMulT (a b : Wt) (S : Store) : Res Wt := match deref S a, deref S b with
  | some (.tup l), some (.int k) => if l = [] then .bad else if k = 1 then .ok (.d (.tup l)) S else if k ≤ 0 then (if -1000 ≤ k then .ok (.d (.tup [])) S else .bad) else opMul a b S
  | _, _ => opMul a b S
theorem od_mulT : OpD X hx (binaryOp .Mult) opMulT := by
  intro W pins s σ H x y v u Q I rx ry h
  obtain ⟨A, S, σ', d1, d2, R, r1, r2, p⟩ := h
  unfold opMulT at p
  split at p
  · rename_i l k e1 e2
    by_cases hl : l = []
    · rw [if_pos hl] at p; exact p.elim
    · rw [if_neg hl] at p
      have h2 := (readAs R r2 e2).int
      by_cases hk : k = 1
      · rw [if_pos hk] at p
        obtain ⟨a, vs, rfl, h1, g1⟩ := (readAs R r1 e1).tup
        exact op_mulT pins s σ H _ _ v u Q I rx ry ⟨a, k, vs, rfl, h2, h1, fun e => hl (by subst e; exact rps_nil g1), by omega, by omega, fun _ => p.hereV R (.tup h1 g1), fun z => by omega⟩
      · rw [if_neg hk] at p
        by_cases h0 : k ≤ 0
        · rw [if_pos h0] at p
          obtain ⟨hz, p⟩ := Post.iteP p
          obtain ⟨a, vs, rfl, h1, g1⟩ := (readAs R r1 e1).tup
          exact op_mulT pins s σ H _ _ v u Q I rx ry ⟨a, k, vs, rfl, h2, h1, fun e => hl (by subst e; exact rps_nil g1), by omega, by omega, fun z => absurd z hk, fun _ q hq => p.tup R .nil hq⟩
        · rw [if_neg h0] at p
          exact od_mul W pins s σ H x y v u Q I rx ry ⟨A, S, σ', d1, d2, R, r1, r2, p⟩
  · exact od_mul W pins s σ H x y v u Q I rx ry ⟨A, S, σ', d1, d2, R, r1, r2, p⟩
end

/-! ### methods of texts with one argument -/
section
variable {X : Cx} {hx : Hx}
def mSt (f : Str → Str → D) (o : Wt) (ds : List Wt) (S : Store) : Res Wt := match ds with
  | [d] => match deref S o, deref S d with
    | some (.str a), some (.str b) => .ok (.d (f a b)) S
    | _, _ => .bad
  | _ => .bad
theorem met_st {id : String} {f : Str → Str → D} {g : Str → Str → V} (hm : MtR X id (fun x xs H Q => ∃ a b, x = .str a ∧ xs = [.str b] ∧ Q (g a b) H)) (hr : ∀ a b lv H, RP X.K lv H (f a b) (g a b)) : MetD X hx id (mSt f) := by
  intro W pins s σ H x xs v us Q I r rs h
  obtain ⟨A, S, σ', d, ds, R, rd, rds, p⟩ := h
  match ds, rds, p with
  | [], _, p => exact p.elim
  | _ :: _ :: _, _, p => exact p.elim
  | [y], rds, p =>
    obtain ⟨w, rfl, ry⟩ := rvs1 rds
    unfold mSt at p
    dsimp only at p
    split at p
    · rename_i a b e1 e2
      exact hm pins s σ H _ _ v us Q I r rs ⟨a, b, (readAs R rd e1).str, by rw [(readAs R ry e2).str], p.hereV R (hr a b _ _)⟩
    · exact p.elim
def mSplit (o : Wt) (ds : List Wt) (S : Store) : Res Wt := match ds with
  | [d] => match deref S o, deref S d with
    | some (.str a), some (.str b) => if b.length ≠ 0 ∧ a.length ≤ 10000000 then .ok (.d (.lst ((Txt.split a b).map D.str))) S else .bad
    | _, _ => .bad
  | _ => .bad
theorem met_split : MetD X hx "str.split" mSplit := by
  intro W pins s σ H x xs v us Q I r rs h
  obtain ⟨A, S, σ', d, ds, R, rd, rds, p⟩ := h
  match ds, rds, p with
  | [], _, p => exact p.elim
  | _ :: _ :: _, _, p => exact p.elim
  | [y], rds, p =>
    obtain ⟨w, rfl, ry⟩ := rvs1 rds
    unfold mSplit at p
    dsimp only at p
    split at p
    · rename_i a b e1 e2
      obtain ⟨⟨z1, z2⟩, p⟩ := Post.iteP p
      exact mt_split pins s σ H _ _ v us Q I r rs ⟨a, b, (readAs R rd e1).str, by rw [(readAs R ry e2).str], by simpa using z1, by rw [sizeLine_eq]; omega, fun q hq => p.lst R (of_strs _) hq⟩
    · exact p.elim
variable {o e : Expr} {fo fe : EM} {apos cpos : Pos}
theorem d_starts (ho : DE X hx o fo) (he : DE X hx e fe) (hbase : attributeBase o "startswith" X.env (eval o X.env) = eval o X.env := by rfl)
    (hfew : ((backTo cpos (starEach [e] X.env)).all (fun x => !x.1) && (backToKw cpos (keywordEach [] X.env)).all (fun x => x.1.isSome)
      && decide ([e].length + ([] : List Keyword).length + (if ([] : List Keyword).isEmpty then 0 else 1) < 30)) = true := by rfl)
    (hline : (apos.endLine == cpos.line) = true := by rfl) (hs : starEach [e] X.env = (false, eval e X.env) :: starEach [] X.env := by rfl) (hplain : (backTo cpos (starEach [] X.env)).any (·.1) = false := by rfl) :
    DE X hx (.Call (.Attribute o "startswith" apos) [e] [] cpos) (eM isStr (mSt fun a b => .bl (Txt.startswith a b)) fo (aCons fe aNil)) :=
  d_m ty_str F.plainAttrs_str F.slot_str_startswith F.type_str_startswith (met_st mt_startswith fun a b _ _ => .bl _) ho (da_cons he da_nil hs) hbase hfew hline hs hplain
theorem d_ends (ho : DE X hx o fo) (he : DE X hx e fe) (hbase : attributeBase o "endswith" X.env (eval o X.env) = eval o X.env := by rfl)
    (hfew : ((backTo cpos (starEach [e] X.env)).all (fun x => !x.1) && (backToKw cpos (keywordEach [] X.env)).all (fun x => x.1.isSome)
      && decide ([e].length + ([] : List Keyword).length + (if ([] : List Keyword).isEmpty then 0 else 1) < 30)) = true := by rfl)
    (hline : (apos.endLine == cpos.line) = true := by rfl) (hs : starEach [e] X.env = (false, eval e X.env) :: starEach [] X.env := by rfl) (hplain : (backTo cpos (starEach [] X.env)).any (·.1) = false := by rfl) :
    DE X hx (.Call (.Attribute o "endswith" apos) [e] [] cpos) (eM isStr (mSt fun a b => .bl (Txt.endswith a b)) fo (aCons fe aNil)) :=
  d_m ty_str F.plainAttrs_str F.slot_str_endswith F.type_str_endswith (met_st mt_endswith fun a b _ _ => .bl _) ho (da_cons he da_nil hs) hbase hfew hline hs hplain
theorem d_split (ho : DE X hx o fo) (he : DE X hx e fe) (hbase : attributeBase o "split" X.env (eval o X.env) = eval o X.env := by rfl)
    (hfew : ((backTo cpos (starEach [e] X.env)).all (fun x => !x.1) && (backToKw cpos (keywordEach [] X.env)).all (fun x => x.1.isSome)
      && decide ([e].length + ([] : List Keyword).length + (if ([] : List Keyword).isEmpty then 0 else 1) < 30)) = true := by rfl)
    (hline : (apos.endLine == cpos.line) = true := by rfl) (hs : starEach [e] X.env = (false, eval e X.env) :: starEach [] X.env := by rfl) (hplain : (backTo cpos (starEach [] X.env)).any (·.1) = false := by rfl) :
    DE X hx (.Call (.Attribute o "split" apos) [e] [] cpos) (eM isStr mSplit fo (aCons fe aNil)) :=
  d_m ty_str F.plainAttrs_str F.slot_str_split F.type_str_split met_split ho (da_cons he da_nil hs) hbase hfew hline hs hplain
/-! ### list.count -/
theorem eqU_countP {y : V} : ∀ {ys : List V} {us : List Value}, Vals ys us → ys.all flatV = true → us.countP (eqU y) = ys.countP (fun z => eqV z y)
  | _, _, .nil, _ => rfl
  | z :: ys, u :: us, .cons r t, f => by
    rw [List.all_cons, Bool.and_eq_true] at f
    rw [List.countP_cons, List.countP_cons, eqU_countP t f.2, eqU_of r f.1]
def rCntF (K : PySem.W.Frag) : V → List V → Hp → VK → Prop := fun x xs H Q => ∃ (a : Addr) (ys : List V) (y : V), x = .ref a ∧ xs = [y] ∧ SqL K H a ys ∧ flatV y = true ∧ ys.all flatV = true ∧ Q (.int (ys.countP (fun z => eqV z y) : Nat)) H
theorem mt_countF : MtR X "list.count" (rCntF X.K) := by
  intro pins s σ H x xs v us Q I rx rxs h
  obtain ⟨a, ys, y, rfl, rfl, hs, fy, fys, q⟩ := h
  cases rx
  obtain ⟨uy, rfl, ry⟩ := rxs.one
  obtain ⟨its, rv, ⟨⟨cls, dd, data, sl⟩, n, ho, hc, hdn, hd⟩, hlen⟩ := I.list hs
  simp only at hc hd
  subst hc hd
  refine call_meets PySem.F.slot_list_count ⟨_, ho, rfl⟩ PySem.F.entry_list_count (PySem.F.args_list_count_2 _ _)
    (SeqAt.list_countAt a its.toArray n dd sl uy (eqU y)) ⟨ho, fun u' hu' => mem_eqAt ry fy rv fys u' (by simpa using hu'), ?_⟩
  refine ⟨.int (ys.countP (fun z => eqV z y) : Nat), H, I.tok _, ⟨s.toks, ?_⟩, q⟩
  show Value.int ((its.toArray.toList.countP (eqU y) : Nat) : Int) s.toks = _
  rw [show its.toArray.toList = its from rfl, eqU_countP rv fys]
def mCount (o : Wt) (ds : List Wt) (S : Store) : Res Wt := match ds with
  | [d] => match deref S o, deref S d with
    | some (.lst l), some x => if (x.flat && l.all D.flat) = true then .ok (.d (.int (l.countP (fun y => deq y x) : Nat))) S else .bad
    | _, _ => .bad
  | _ => .bad
theorem flats_count {K : PySem.W.Frag} {lv : Addr → Prop} {H : Hp} {d : D} {v : V} (h : RX K lv H d v) (f : d.flat = true) : ∀ {l : List D} {vs : List V}, RPs K lv H l vs → l.all D.flat = true → vs.countP (fun z => eqV z v) = l.countP (fun y => deq y d)
  | _, _, .nil, _ => rfl
  | _, _, .cons r t, fs => by
    rw [List.all_cons, Bool.and_eq_true] at fs
    rw [List.countP_cons, List.countP_cons, flats_count h f t fs.2, (flat_ok h f).2 _ _ (.inl r) fs.1]
theorem met_count : MetD X hx "list.count" mCount := by
  intro W pins s σ H x xs v us Q I r rs h
  obtain ⟨A, S, σ', d, ds, R, rd, rds, p⟩ := h
  match ds, rds, p with
  | [], _, p => exact p.elim
  | _ :: _ :: _, _, p => exact p.elim
  | [y], rds, p =>
    obtain ⟨w, rfl, ry⟩ := rvs1 rds
    unfold mCount at p
    dsimp only at p
    split at p
    · rename_i l x' e1 e2
      obtain ⟨hz, p2⟩ := Post.iteP p
      rw [Bool.and_eq_true] at hz
      obtain ⟨b, vs, rfl, hq, g⟩ := (readAs R rd e1).lst
      have q1 := readAs R ry e2
      refine mt_countF pins s σ H _ _ v us Q I r rs ⟨b, vs, w, rfl, rfl, SqL.of hq, (flat_ok q1 hz.1).1, (flats_ok q1 hz.1 g hz.2).1, ?_⟩
      rw [flats_count q1 hz.1 g hz.2]
      exact p2.hereV R (.int _)
    · exact p.elim
theorem d_count (ho : DE X hx o fo) (he : DE X hx e fe) (hbase : attributeBase o "count" X.env (eval o X.env) = eval o X.env := by rfl)
    (hfew : ((backTo cpos (starEach [e] X.env)).all (fun x => !x.1) && (backToKw cpos (keywordEach [] X.env)).all (fun x => x.1.isSome)
      && decide ([e].length + ([] : List Keyword).length + (if ([] : List Keyword).isEmpty then 0 else 1) < 30)) = true := by rfl)
    (hline : (apos.endLine == cpos.line) = true := by rfl) (hs : starEach [e] X.env = (false, eval e X.env) :: starEach [] X.env := by rfl) (hplain : (backTo cpos (starEach [] X.env)).any (·.1) = false := by rfl) :
    DE X hx (.Call (.Attribute o "count" apos) [e] [] cpos) (eM isLst mCount fo (aCons fe aNil)) :=
  d_m ty_lst F.plainAttrs_list F.slot_list_count F.type_list_count met_count ho (da_cons he da_nil hs) hbase hfew hline hs hplain
/-! ### int(text) -/
def optI1 (S : Store) : Option Int → Res Wt
  | some n => .ok (.d (.int n)) S
  | none => .bad
def bIntS : List Wt → Store → Res Wt := f1 fun d S => match d with
  | .str x => if x.length ≤ 640 then optI1 S (PySem.intText? x) else .bad
  | _ => .bad
theorem cal_intS : CalD X hx (.type "int") bIntS := by
  intro W pins s σ H xs us Q I r h
  obtain ⟨A, S, σ', d, v, R, rfl, rv, p⟩ := rcd1 h
  split at p
  · rename_i x
    obtain ⟨hz, p⟩ := Post.iteP p
    cases e : PySem.intText? x with
    | none => rw [e] at p; exact p.elim
    | some n =>
      rw [e] at p
      exact call_int_str pins s σ H _ us Q I r ⟨x, n, by rw [rv.str], e, hz, p.hereV R (.int _)⟩
  · exact p.elim
end
end Y
end
section
/-! Y35: e.replace of written texts, behind a written text in a display. -/
namespace Y
open PySem PySem.Spec PyProof.Rows L2
structure DET (X : Cx) (hx : Hx) (e : Expr) (f : EM) : Prop where
  run : ∀ W, Takes X W → PET X e (tE ⟨X.K, hx, W⟩ f)
structure DAT (X : Cx) (hx : Hx) (es : List Expr) (f : AM) : Prop where
  run : ∀ W, Takes X W → PAT X es (tA ⟨X.K, hx, W⟩ f)
def eRep (y z : Str) (f : EM) : EM := fun σd S => (f σd S).bind fun w S1 => match deref S1 w with
  | some (.str x) => if x.length + (x.length + 1) * z.length ≤ 10000000 then .ok (.d (.str (Txt.replace x y z))) S1 else .bad
  | _ => .bad
section
variable {X : Cx} {hx : Hx} {e : Expr} {es : List Expr} {f : EM} {g : AM}
theorem DE.det (h : DE X hx e f) : DET X hx e f := ⟨fun W tk => CwR.PET.of (h.run W tk)⟩
theorem dat_nil : DAT X hx [] aNil := ⟨fun W tk => fun pos pins s σ H Q h0 I ⟨A, S, σd, R, E, p⟩ => pat_nil pos pins s σ H Q h0 I (p.here R .nil)⟩
theorem dat_cons (h1 : DET X hx e f) (h2 : DAT X hx es g) (hs : starEach (e :: es) X.env = (false, eval e X.env) :: starEach es X.env := by rfl) : DAT X hx (e :: es) (aCons f g) :=
  ⟨fun W tk => fun pos pins s σ H Q h0 I ⟨A, S, σd, R, E, p⟩ => pat_cons (h1.run W tk) (h2.run W tk) hs pos pins s σ H Q h0 I
    ⟨A, S, σd, R, E, (Post.bind (R1 := rV _) p).mono fun v H1 ⟨A1, S1, d, R1, T1, r1, p1⟩ => ⟨A1, S1, σd, R1, E.step R T1, (Post.bind (R1 := rVs _) p1).mono fun vs H2 ⟨A2, S2, ds, R2, T2, r2, p2⟩ =>
      p2.here R2 (.cons (r1.step R1 T2) r2)⟩⟩⟩
/-- a written text gives a token out -/
theorem da_strT {x : Str} {j : Nat} {cp : Pos} (h2 : DAT X hx es g) (hs : starEach (.Constant (.str x) j cp :: es) X.env = (false, eval (.Constant (.str x) j cp) X.env) :: starEach es X.env := by rfl) : DA X hx (.Constant (.str x) j cp :: es) (aCons (eC (.str x)) g) :=
  ⟨fun W tk => ⟨fun pos pins s σ H Q I ⟨A, S, σd, R, E, p⟩ => by
    rw [hs]
    show wpAny _ _ (spliced ((false, eval (.Constant (.str x) j cp) X.env) :: backTo pos (starEach es X.env))) _ _ s
    refine Calls.spliced_cons (Calls.Constant_str ?_)
    exact thn (h2.run W tk pos pins _ σ H _ (by show 1 ≤ s.toks + 1; omega) (I.tok _) ⟨A, S, σd, R, E, Post.bind (R1 := rVs _) (show Post ⟨X.K, hx, W⟩ (rVs ⟨X.K, hx, W⟩) σ A S H Q ((g σd S).bind fun ds S2 => .ok (.d (.str x) :: ds) S2) from p)⟩) fun us s2 ⟨vs, H2, I2, r2, A2, S2, ds, R2, T2, r3, p2⟩ =>
      ⟨.str x :: vs, H2, I2, .cons ⟨_, rfl⟩ r2, p2.here R2 (.cons (RV.of (.str x)) r3)⟩⟩⟩
theorem det_rep {o : Expr} {fo : EM} {y z : Str} {j k : Nat} {c0 c1 apos pos : Pos} (ho : DE X hx o fo) (hyz : (y == z) = false := by decide)
    (hst : starEach [.Constant (.str y) j c0, .Constant (.str z) k c1] X.env = [(false, eval (.Constant (.str y) j c0) X.env), (false, eval (.Constant (.str z) k c1) X.env)] := by rfl)
    (hbase : attributeBase o "replace" X.env (eval o X.env) = eval o X.env := by rfl) (hline : (apos.endLine == pos.line) = true := by rfl) :
    DET X hx (.Call (.Attribute o "replace" apos) [.Constant (.str y) j c0, .Constant (.str z) k c1] [] pos) (eRep y z fo) := ⟨fun W tk => fun pins s σ H Q h0 I ⟨A, S, σd, R, E, p⟩ =>
  CwR.pet_replC (ho.run W tk) hyz hst hbase hline pins s σ H Q h0 I ⟨A, S, σd, R, E, (Post.bind (R1 := rV _) p).mono fun v H1 ⟨A1, S1, w, R1, T1, r1, p1⟩ => by
    split at p1
    · rename_i x e1
      obtain ⟨hz, p1⟩ := Post.iteP p1
      exact ⟨x, (readAs R1 r1 e1).str, by omega, p1.hereV R1 (.str _)⟩
    · exact p1.elim⟩⟩
end
end Y
end
section
/-! Y36: reckoning with the later D functions. -/
namespace Y
open PySem PySem.Spec PyProof.Rows L2
section
variable {σ : Ev} {S : Store} {b n i j : Nat} {C f g q : Str} {k m : Int} {l l' : List D} {ns : List Str} {x y : Str} {d e : D} {G : AM} {fo : EM} {Cs : List Str}
@[simp] theorem eMk1_ap : eMk1 C f G σ S = (G σ S).bind fun ws S1 => mk1D C f ws S1 := id rfl
@[simp] theorem mk1_d : mk1D C f [.d d] S = .ok (.d (.exo C [f] [d])) S := id rfl
@[simp] theorem eMk2_ap : eMk2 C f g G σ S = (G σ S).bind fun ws S1 => mk2D C f g ws S1 := id rfl
@[simp] theorem mk2_d : mk2D C f g [.d d, .d e] S = .ok (.d (.exo C [g, f] [e, d])) S := id rfl
@[simp] theorem eMk2R_ap : eMk2R C f g G σ S = (G σ S).bind fun ws S1 => mk2R C f g ws S1 := id rfl
@[simp] theorem mk2R_d : mk2R C f g [.d e, .d d] S = .ok (.d (.exo C [g, f] [e, d])) S := id rfl
@[simp] theorem eMk0_ap : eMk0 C σ S = .ok (.d (.exo C [] [])) S := id rfl
@[simp] theorem eXf_ap : eXf Cs q fo σ S = (fo σ S).bind fun w S1 => xfD Cs q w S1 := id rfl
theorem xf_exo (h : C ∈ Cs) (e1 : zipL q ns l = some d) : xfD Cs q (.d (.exo C ns l)) S = .ok (.d d) S := by
  show (if C ∈ Cs then optD S (zipL q ns l) else .bad) = _
  rw [if_pos h, e1]; rfl
@[simp] theorem bIsX_ap {t : Str → D → Option Bool} : bIsX t [.d (.exo C ns l), .d d] S = ansB S (t C d) := id rfl
@[simp] theorem ansB_some {c : Bool} : ansB S (some c) = .ok (.d (.bl c)) S := id rfl
theorem eHf_ap : eHf Cs q fo σ S = (fo σ S).bind fun w S1 => match w with
  | .hex C ns l => if C ∈ Cs then optD S1 (zipL q ns l) else .bad
  | _ => .bad := rfl
theorem sTry_ap {et : Str → Str → Option Bool} {fb : SM} {hs : List HdD} : sTry et fb hs b σ S = (match fb b σ S with
  | .exc C ns l σd' S' => clsR et C ns l b σd' S' hs
  | r => r) := rfl
@[simp] theorem sRs1_ap : sRs1 C f G b σ S = (G σ S).toS σ fun ws S1 => match ws with
  | [w] => (match fz1 S1 w with
    | .ok x S2 => .exc C [f] [x] σ S2
    | _ => .bad)
  | _ => .bad := id rfl
@[simp] theorem mSt_ap {f : Str → Str → D} : mSt f (.d (.str x)) [.d (.str y)] S = .ok (.d (f x y)) S := id rfl
@[simp] theorem mSplit_ap : mSplit (.d (.str x)) [.d (.str y)] S = if y.length ≠ 0 ∧ x.length ≤ 10000000 then .ok (.d (.lst ((Txt.split x y).map D.str))) S else .bad := id rfl
@[simp] theorem mCount_ap : mCount (.d (.lst l)) [.d d] S = if (d.flat && l.all D.flat) = true then .ok (.d (.int (l.countP (fun y => deq y d) : Nat))) S else .bad := id rfl
@[simp] theorem mIndex_ap : mIndex (.d (.lst l)) [.d d] S = if (d.flat && l.all D.flat) = true then isIx (idxOf d l) S else .bad := id rfl
@[simp] theorem isIx_some : isIx (some n) S = .ok (.d (.int n)) S := id rfl
@[simp] theorem isLst_d : isLst (.d (.lst l)) S = true := id rfl
@[simp] theorem bIntS_str : bIntS [.d (.str x)] S = if x.length ≤ 640 then optI1 S (PySem.intText? x) else .bad := id rfl
@[simp] theorem optI1_some : optI1 S (some k) = .ok (.d (.int k)) S := id rfl
@[simp] theorem eRep_ap : eRep x y fo σ S = (fo σ S).bind fun w S1 => match deref S1 w with
  | some (.str z) => if z.length + (z.length + 1) * y.length ≤ 10000000 then .ok (.d (.str (Txt.replace z x y))) S1 else .bad
  | _ => .bad := id rfl
@[simp] theorem mulT_int : opMulT (.d (.int k)) (.d (.int m)) S = if mulOk k m then .ok (.d (.int (k * m))) S else .bad := id rfl
@[simp] theorem mulT_lst : opMulT (.d (.lst l)) (.d (.int k)) S = if 0 ≤ k ∧ k < 10000000 ∧ l.length * k.toNat ≤ lim then .ok (.d (.lst (List.replicate k.toNat l).flatten)) S else .bad := id rfl
theorem mulT_tup (hl : l ≠ []) (hl2 : l.length ≤ 1000) (h0 : -1000 ≤ k) (h1 : k ≤ 1000) : opMulT (.d (.tup l)) (.d (.int k)) S = .ok (.d (.tup (List.replicate k.toNat l).flatten)) S := by
  show (if l = [] then .bad else if k = 1 then .ok (.d (.tup l)) S else if k ≤ 0 then (if -1000 ≤ k then .ok (.d (.tup [])) S else .bad) else opMul (.d (.tup l)) (.d (.int k)) S) = _
  rw [if_neg hl]
  by_cases e1 : k = 1
  · subst e1
    rw [if_pos rfl]
    simp
  · rw [if_neg e1]
    by_cases e0 : k ≤ 0
    · rw [if_pos e0, if_pos h0, show k.toNat = 0 by omega]
      rfl
    · rw [if_neg e0]
      show (if l ≠ [] ∧ 2 ≤ k ∧ k ≤ 1000 ∧ l.length ≤ 1000 then _ else _) = _
      rw [if_pos ⟨hl, by omega, h1, hl2⟩]
@[simp] theorem len_dct {ks : List Key} : bLen [.d (.dct ks l)] S = .ok (.d (.int ks.length)) S := id rfl
@[simp] theorem gcd_int : bGcd [.d (.int k), .d (.int m)] S = .ok (.d (.int ((Nat.gcd k.natAbs m.natAbs : Nat) : Int))) S := id rfl
@[simp] theorem popAt_d : mPopAt (.d d) [.d e] S = .bad := by unfold mPopAt; rfl
end
end Y
end
section
/-! Y37: comprehensions of two clauses reckoned. -/
namespace Y
open PySem PySem.Spec PyProof.Rows L2
section
variable {g g1 : GM} {t t1 : TM} {e : EM} {w1 : IM} {σw : Ev} {n : Nat} {vs1 : List Nat}
theorem lc2_flat (h : D → List D) : ∀ (ds acc : List D) (S : Store), S.length = n → (∀ d ∈ ds, ∀ acc', ∃ σ2, g (.d d) σw (S ++ [.lst acc']) = .ok σ2 (S ++ [.lst acc']) ∧
    ((t σ2 (S ++ [.lst acc']) = .ok false (S ++ [.lst acc']) ∧ h d = []) ∨
      (t σ2 (S ++ [.lst acc']) = .ok true (S ++ [.lst acc']) ∧ ∃ (ds1 : List D) (h1 : D → D), w1 σ2 (S ++ [.lst acc']) = .ok ds1 (S ++ [.lst acc']) ∧ h d = ds1.map h1 ∧
        ∀ d1 ∈ ds1, ∀ acc2, ∃ σ3, g1 (.d d1) (wipeD σ2 vs1) (S ++ [.lst acc2]) = .ok σ3 (S ++ [.lst acc2]) ∧ t1 σ3 (S ++ [.lst acc2]) = .ok true (S ++ [.lst acc2]) ∧ e σ3 (S ++ [.lst acc2]) = .ok (.d (h1 d1)) (S ++ [.lst acc2])))) →
    acc.length + (ds.flatMap h).length ≤ lim → lc2N g t w1 g1 t1 e σw vs1 n ds (S ++ [.lst acc]) = some (S ++ [.lst (acc ++ ds.flatMap h)])
  | [], acc, S, hn, _, _ => by simp [lc2N]
  | d :: ds, acc, S, hn, hd, hl => by
    obtain ⟨σ2, q1, q2⟩ := hd d (List.mem_cons_self ..) acc
    rw [List.flatMap_cons, List.length_append] at hl
    have tk : ∀ acc : List D, (S ++ [Cell.lst acc]).take (n + 1) = S ++ [.lst acc] := fun acc => List.take_of_length_le (by simp [hn])
    rcases q2 with ⟨q2, q3⟩ | ⟨q2, ds1, h1, q3, q4, q5⟩
    · have ih := lc2_flat h ds acc S hn (fun x hx => hd x (List.mem_cons_of_mem _ hx)) (by omega)
      simp only [lc2N, q1, q2, tk, ih, List.flatMap_cons, q3, List.nil_append]
    · have l4 : (S ++ [Cell.lst acc]).length = n + 1 := by simp [hn]
      have m1 : lcM g1 t1 e (wipeD σ2 vs1) n (n + 1) ds1 (S ++ [.lst acc]) = some (S ++ [.lst (acc ++ ds1.map h1)]) := by
        rw [lcM_eq]
        exact lc_map h1 ds1 acc S hn q5 (by rw [q4, List.length_map] at hl; omega)
      have ih := lc2_flat h ds (acc ++ ds1.map h1) S hn (fun x hx => hd x (List.mem_cons_of_mem _ hx)) (by rw [q4] at hl; rw [List.length_append]; omega)
      simp only [lc2N, q1, q2, q3, l4, m1, tk, ih, List.flatMap_cons, q4, List.append_assoc]
theorem eLc2_flat {w : IM} {vs : List Nat} {σ : Ev} {S : Store} {ds : List D} (h : D → List D) (hw : w σ S = .ok ds S) (hl : (ds.flatMap h).length ≤ lim)
    (hd : ∀ d ∈ ds, ∀ acc', ∃ σ2, g (.d d) (wipeD σ vs) (S ++ [.lst acc']) = .ok σ2 (S ++ [.lst acc']) ∧
    ((t σ2 (S ++ [.lst acc']) = .ok false (S ++ [.lst acc']) ∧ h d = []) ∨
      (t σ2 (S ++ [.lst acc']) = .ok true (S ++ [.lst acc']) ∧ ∃ (ds1 : List D) (h1 : D → D), w1 σ2 (S ++ [.lst acc']) = .ok ds1 (S ++ [.lst acc']) ∧ h d = ds1.map h1 ∧
        ∀ d1 ∈ ds1, ∀ acc2, ∃ σ3, g1 (.d d1) (wipeD σ2 vs1) (S ++ [.lst acc2]) = .ok σ3 (S ++ [.lst acc2]) ∧ t1 σ3 (S ++ [.lst acc2]) = .ok true (S ++ [.lst acc2]) ∧ e σ3 (S ++ [.lst acc2]) = .ok (.d (h1 d1)) (S ++ [.lst acc2])))) :
    eLc2 w g t w1 g1 t1 e vs vs1 σ S = .ok (.d (.lst (ds.flatMap h))) S := by
  show (w σ S).bind _ = _
  rw [hw, ok_bind, lc2_flat h ds [] S rfl hd (by simpa using hl)]
  simp [optS, finV]
end
end Y
end
section
/-! Y38: zip of a list and a tuple, beside zip of two of one kind. -/
namespace Y
open PySem PySem.Spec PyProof.Rows L2
/-- the list at a and the tuple at b as they stand at each turn, the items in new pairs -/
def ItzX (K : PySem.W.Frag) (a b : Addr) : It :=
  ⟨fun i H => ∃ (xs ys : List V) (x y : V), SqL K H a xs ∧ SqT K H b ys ∧ xs[i]? = some x ∧ ys[i]? = some y,
    fun i H v H' => ∃ T x y, v = .ref T ∧ H T = none ∧ H' = upd H T (.tup [x, y]) ∧ (∀ xs, SqL K H a xs → xs[i]? = some x) ∧ ∀ ys, SqT K H b ys → ys[i]? = some y,
    fun i H => ∃ xs ys : List V, SqL K H a xs ∧ SqT K H b ys ∧ i ≤ xs.length ∧ i ≤ ys.length ∧ (i = xs.length ∨ i = ys.length)⟩
theorem sepX {z TI TO i1 i2 a b : Addr} (D : ZipApart z TI TO i1 i2 a b) : ZipSep2 z TI TO i1 i2 [i1, a] [i2, b] where
  TIz := D.TIz
  TOz := D.TOz
  TITO := D.TITO
  TIi1 := D.TIi1
  mem1 := by simp
  zf1 := by
    intro h
    simp only [List.mem_cons, List.not_mem_nil, or_false] at h
    rcases h with h | h
    · exact D.i1z h.symm
    · exact D.l1z h.symm
  Tf1 := by
    intro h
    simp only [List.mem_cons, List.not_mem_nil, or_false] at h
    rcases h with h | h
    · exact D.TOi1 h
    · exact D.l1TO h.symm
  TIi2 := D.TIi2
  mem2 := by simp
  zf2 := by
    intro h
    simp only [List.mem_cons, List.not_mem_nil, or_false] at h
    rcases h with h | h
    · exact D.i2z h.symm
    · exact D.l2z h.symm
  Tf2 := by
    intro h
    simp only [List.mem_cons, List.not_mem_nil, or_false] at h
    rcases h with h | h
    · exact D.TOi2 h
    · exact D.l2TO h.symm
  sep1_2 := by
    intro h
    simp only [List.mem_cons, List.not_mem_nil, or_false] at h
    rcases h with h | h
    · exact D.i12 h
    · exact D.l2i1 h.symm
  sep2_1 := by
    intro h
    simp only [List.mem_cons, List.not_mem_nil, or_false] at h
    rcases h with h | h
    · exact D.i12 h.symm
    · exact D.l1i2 h.symm
theorem turn_zipX {P : Program} {w : World} {K : PySem.W.Frag} {elts : List Expr} {kk : Nat} {tpos : Pos} {a b z TI TO i1 i2 : Addr} (D : ZipApart z TI TO i1 i2 a b) :
    Turn P w K (.Tuple elts kk tpos) (ItzX K a b) [z, TI, TO, i1, i2] z (fun i h => IsZip h z TI TO .none ∧ IsPair h TI (.ref i1) (.ref i2) ∧ (∃ x y, IsPair h TO x y) ∧ h.IsListIter i1 a i ∧ h.IsTupleIter i2 b i) where
  mem := by simp
  obj := fun i h st c hc => by
    obtain ⟨hz, hTI, ⟨x, y, hTO⟩, ⟨o1, e1, _, d1⟩, ⟨o2, e2, _, d2⟩⟩ := st
    have e' : c = z ∨ c = TI ∨ c = TO ∨ c = i1 ∨ c = i2 := by simpa using hc
    rcases e' with q | q | q | q | q
    · rw [q]; exact ⟨_, hz, fun v q => nomatch q⟩
    · rw [q]; exact ⟨_, hTI, fun v q => nomatch q⟩
    · rw [q]; exact ⟨_, hTO, fun v q => nomatch q⟩
    · rw [q]; exact ⟨o1, e1, fun v q => by rw [d1] at q; cases q⟩
    · rw [q]; exact ⟨o2, e2, fun v q => by rw [d2] at q; cases q⟩
  keep := fun i h h' st k => by
    obtain ⟨hz, hTI, ⟨x, y, hTO⟩, h1, h2⟩ := st
    exact ⟨k z (by simp) _ hz, k TI (by simp) _ hTI, ⟨x, y, k TO (by simp) _ hTO⟩, h1.at fun o q => k i1 (by simp) o q, h2.at fun o q => k i2 (by simp) o q⟩
  item := by
    intro X hP hw hK hc i pins s σ H E I hf st hg
    subst hP hw hK
    obtain ⟨hz, hTI, ⟨x0, y0, hTO⟩, h1, h2⟩ := st
    obtain ⟨xs, ys, x, y, hqx, hqy, hx, hy⟩ := hg
    obtain ⟨its, rv, p, _⟩ := I.list hqx
    obtain ⟨its2, rv2, p2, _⟩ := I.tuple hqy
    obtain ⟨u, hu, ru⟩ := rv.get hx
    obtain ⟨u2, hu2, ru2⟩ := rv2.get hy
    have hzl : z < s.heap.objs.size := Heap.lt_size hz
    have hl1 : i < its.toArray.size := by
      have := (List.getElem?_eq_some_iff.mp hu).1
      simpa using this
    have hl2 : i < its2.toArray.size := by
      have := (List.getElem?_eq_some_iff.mp hu2).1
      simpa using this
    have hh : X.A.in1.handled = none := I.ok.hd hc
    refine wpAny_pyNext_zipD2_item (i := i) (sepX D) (Draws.list (A := X.A.in1) hh i1 a D.l1i1 its.toArray) (Draws.tuple (A := X.A.in1) hh i2 b D.l2i2 its2.toArray) hz hTI hTO ⟨h1, p.isList⟩ ⟨h2, p2⟩ hl1 hl2 fun w1 w2 h' tk q1 q2 z' TO' h1' h2' hT hsz hk => ?_
    obtain rfl : w1 = u := by
      have q1 : its.toArray[i]? = some w1 := q1
      rw [List.getElem?_toArray, hu] at q1
      exact (Option.some.inj q1).symm
    obtain rfl : w2 = u2 := by
      have q2 : its2.toArray[i]? = some w2 := q2
      rw [List.getElem?_toArray, hu2] at q2
      exact (Option.some.inj q2).symm
    refine ⟨_, rfl, wpAny_letOwnedTupleGo_zip (s := { s with heap := h', toks := tk }) z' fun h'' z'' sb => ?_⟩
    have hT2 : h''.get? s.heap.objs.size = some { cls := .type "tuple", data := .seq #[w1, w2] } := (sb.2 _ (Nat.ne_of_gt hzl)).trans hT
    have new : ObjOk X.prog X.w (upd H s.heap.objs.size (.tup [x, y])) h'' s.heap.objs.size (.tup [x, y]) :=
      ⟨by show 2 ≤ sizeLine; decide, [w1, w2], .cons ru (.cons ru2 .nil), ⟨_, hT2, rfl, _, rfl⟩⟩
    have I1 : Inv X pins σ (upd H s.heap.objs.size (.tup [x, y])) { s with heap := h'', toks := tk } :=
      I.turnedNew (t' := tk) (ch := [z, TI, TO, i1, i2]) (fun c o hb q => (sb.2 c (fun q' => hb (by simp [q']))).trans (hk c o (fun q' => hb (by simp [q'])) (fun q' => hb (by simp [q'])) (fun q' => hb (by simp [q'])) (fun q' => hb (by simp [q'])) q)) hf (Nat.le_refl _) new
    refine ⟨.ref s.heap.objs.size, _, I1, rfl, ⟨_, x, y, rfl, I.hok.fresh (Nat.le_refl _), rfl, fun l hl => by rw [I.list_inj hl hqx]; exact hx, fun l hl => by rw [I.tuple_inj hl hqy]; exact hy⟩, ⟨z'', ?_, ⟨w1, w2, ?_⟩, ?_, ?_⟩, fun c hcm => ?_⟩
    · exact (sb.2 _ D.TIz).trans (hk _ _ D.TIz D.TITO D.TIi1 D.TIi2 hTI)
    · exact (sb.2 _ D.TOz).trans TO'
    · exact h1'.1.at fun o q => (sb.2 _ D.i1z).trans q
    · exact h2'.1.at fun o q => (sb.2 _ D.i2z).trans q
    · have hlt : c < s.heap.objs.size := by
        have e' : c = z ∨ c = TI ∨ c = TO ∨ c = i1 ∨ c = i2 := by simpa using hcm
        rcases e' with q | q | q | q | q
        · rw [q]; exact hzl
        · rw [q]; exact Heap.lt_size hTI
        · rw [q]; exact Heap.lt_size hTO
        · rw [q]; obtain ⟨_, e1, _⟩ := h1; exact Heap.lt_size e1
        · rw [q]; obtain ⟨_, e2, _⟩ := h2; exact Heap.lt_size e2
      rw [upd_ne (Nat.ne_of_lt hlt)]
      exact (hf c hcm).1
  done := by
    intro X hP hw hK hc i pins s σ H E I hf st hg
    subst hP hw hK
    obtain ⟨hz, hTI, ⟨x0, y0, hTO⟩, h1, h2⟩ := st
    obtain ⟨xs, ys, hqx, hqy, hi1, hi2, hend⟩ := hg
    obtain ⟨its, rv, p, _⟩ := I.list hqx
    obtain ⟨its2, rv2, p2, _⟩ := I.tuple hqy
    have l1 := rv.length
    have l2 := rv2.length
    have hh : X.A.in1.handled = none := I.ok.hd hc
    exact wpAny_pyNext_zipD2_end (i := i) (sepX D) (Draws.list (A := X.A.in1) hh i1 a D.l1i1 its.toArray) (Draws.tuple (A := X.A.in1) hh i2 b D.l2i2 its2.toArray) hz hTI hTO ⟨h1, p.isList⟩ ⟨h2, p2⟩ (by simp; omega) (by simp; omega) (by simp; omega) fun h' tk hk => ⟨rfl, I.turnedL (t' := tk) (ch := [z, TI, TO, i1, i2]) (fun c o hb q =>
      hk c o (fun q' => hb (by simp [q'])) (fun q' => hb (by simp [q'])) (fun q' => hb (by simp [q'])) (fun q' => hb (by simp [q'])) q) hf⟩
  self := fun A i s Q E st h => wpAny_pyIter_zip st.1 h
def iZip3 (K : PySem.W.Frag) (ta : TA) : TI := fun σ H R => ta σ H fun vs H1 => ∃ a b xs ys, vs = [.ref a, .ref b] ∧ ((SqL K H1 a xs ∧ SqL K H1 b ys ∧ R (Itz K a b) H1) ∨ (SqT K H1 a xs ∧ SqT K H1 b ys ∧ R (RZ.ItzT K a b) H1) ∨ (SqL K H1 a xs ∧ SqT K H1 b ys ∧ R (ItzX K a b) H1))
theorem pi_zip3 {X : Cx} {e e2 : Expr} {ta : TA} {p pos tpos : Pos} {elts : List Expr} {kk : Nat} (hg : Gl X "zip") (hm : X.mg "zip" = none) (ha : PA X [e, e2] ta)
    (hs : starEach [e, e2] X.env = (false, eval e X.env) :: starEach [e2] X.env := by rfl) (hpl : (backTo pos (starEach [e2] X.env)).any (·.1) = false := by rfl) :
    PI X (.Tuple elts kk tpos) (.Call (.Name "zip" p) [e, e2] [] pos) (iZip3 X.K ta) := by
  refine ⟨fun pins s σ H R I h => ?_⟩
  refine Call_ (ld_blt I hg hm PyProof.Rows.boot_zip (PyProof.Rows.callWith_type1 (thn (ha.run pos pins s σ H _ I h) fun us s1 ⟨vs, H1, I1, r1, q1⟩ => ?_) hs hpl))
  obtain ⟨a, b, xs, ys, ex, q1⟩ := q1
  subst ex
  cases r1 with
  | cons r rr =>
    cases rr with
    | cons r' rr =>
      cases rr
      cases r
      cases r'
      have fresh5 : ∀ c, c ∈ [s1.heap.objs.size + 4, s1.heap.objs.size + 2, s1.heap.objs.size + 3, s1.heap.objs.size, s1.heap.objs.size + 1] → FpOk X pins H1 c := fun c hcm => by
        have e' : c = s1.heap.objs.size + 4 ∨ c = s1.heap.objs.size + 2 ∨ c = s1.heap.objs.size + 3 ∨ c = s1.heap.objs.size ∨ c = s1.heap.objs.size + 1 := by simpa using hcm
        have hle : s1.heap.objs.size ≤ c := by
          rcases e' with z | z | z | z | z
          · rw [z]; exact Nat.le_add_right _ _
          · rw [z]; exact Nat.le_add_right _ _
          · rw [z]; exact Nat.le_add_right _ _
          · rw [z]; exact Nat.le_refl _
          · rw [z]; exact Nat.le_add_right _ _
        exact I1.fpOk hle (I1.hok.fresh hle)
      rcases q1 with ⟨hqx, hqy, q⟩ | ⟨hqx, hqy, q⟩ | ⟨hqx, hqy, q⟩
      · obtain ⟨its, rv, p1, _⟩ := I1.list hqx
        obtain ⟨its2, rv2, p2, _⟩ := I1.list hqy
        refine call_zip_2 p1.isList p2.isList fun h' hz hTI hTO h1 h2 hsz hk => wpAny_pyIter_zip hz ?_
        have I2 : Inv X pins σ H1 { s1 with heap := h' } := I1.kept (t' := s1.toks) hk
        exact ⟨s1.heap.objs.size + 4, [s1.heap.objs.size + 4, s1.heap.objs.size + 2, s1.heap.objs.size + 3, s1.heap.objs.size, s1.heap.objs.size + 1], _, _, H1, rfl, I2, turn_zip (PySem.W.ktu_apart s1.heap.objs.size a b p1.lt p2.lt), ⟨hz, hTI, ⟨_, _, hTO⟩, h1, h2⟩, fresh5, q⟩
      · obtain ⟨its, rv, p1, _⟩ := I1.tuple hqx
        obtain ⟨its2, rv2, p2, _⟩ := I1.tuple hqy
        obtain ⟨o1, ho1, _⟩ := id p1
        obtain ⟨o2, ho2, _⟩ := id p2
        refine RZ.call_zipT (show s1.heap.IsTuple a its.toArray from p1) (show s1.heap.IsTuple b its2.toArray from p2) fun h' hz hTI hTO h1 h2 hsz hk => wpAny_pyIter_zip hz ?_
        have I2 : Inv X pins σ H1 { s1 with heap := h' } := I1.kept (t' := s1.toks) hk
        exact ⟨s1.heap.objs.size + 4, [s1.heap.objs.size + 4, s1.heap.objs.size + 2, s1.heap.objs.size + 3, s1.heap.objs.size, s1.heap.objs.size + 1], _, _, H1, rfl, I2, RZ.turn_zipT (PySem.W.ktu_apart s1.heap.objs.size a b (Heap.lt_size ho1) (Heap.lt_size ho2)), ⟨hz, hTI, ⟨_, _, hTO⟩, h1, h2⟩, fresh5, q⟩
      · obtain ⟨its, rv, p1, _⟩ := I1.list hqx
        obtain ⟨its2, rv2, p2, _⟩ := I1.tuple hqy
        obtain ⟨o2, ho2, _⟩ := id p2
        refine zip_begins2 (begins_list a its.toArray) (begins_tuple b its2.toArray) p1.isList p2 fun h' hz hTI hTO h1 h2 hsz hk => wpAny_pyIter_zip hz ?_
        have I2 : Inv X pins σ H1 { s1 with heap := h' } := I1.kept (t' := s1.toks) hk
        exact ⟨s1.heap.objs.size + 4, [s1.heap.objs.size + 4, s1.heap.objs.size + 2, s1.heap.objs.size + 3, s1.heap.objs.size, s1.heap.objs.size + 1], _, _, H1, rfl, I2, turn_zipX (PySem.W.ktu_apart s1.heap.objs.size a b p1.lt (Heap.lt_size ho2)), ⟨hz, hTI, ⟨_, _, hTO⟩, ⟨_, h1, rfl, rfl⟩, ⟨_, h2, rfl, rfl⟩⟩, fresh5, q⟩
section
variable {c : Cn} {A : Ads} {S : Store} {H : Hp} {ds es : List D} {vs us : List V} {a b : Addr}
theorem it_zipX (R0 : Rel c.K A S H) (hl : ∀ A' S' H', Rel c.K A' S' H' → Fr A S H A' S' H' → SqL c.K H' a vs) (hm : SqT c.K H b us)
    (r : RPs c.K (Live A S) H ds vs) (re : RPs c.K (Live A S) H es us) : rIt c A S H (zipD ds es) (ItzX c.K a b) := by
  intro A' S' H' R' T
  have q := hl A' S' H' R' T
  have q2 := T.sqT R0 hm
  have r' := r.fr R0 T
  have re' := re.fr R0 T
  have l1 := r.len
  have l2 := re.len
  rw [zipD_len]
  refine ⟨fun i hi => ?_, ⟨vs, us, q, q2, by omega, by omega, by omega⟩, fun i x H'' hi y => ?_⟩
  · obtain ⟨x, hx⟩ := it_at (l := vs) (i := i) (by omega)
    obtain ⟨y, hy⟩ := it_at (l := us) (i := i) (by omega)
    exact ⟨vs, us, x, y, q, q2, hx, hy⟩
  · obtain ⟨T, x, y, rfl, hT, rfl, e1, e2⟩ := y
    obtain ⟨d, hd⟩ := it_at (l := ds) (i := i) (by omega)
    obtain ⟨e, he⟩ := it_at (l := es) (i := i) (by omega)
    obtain ⟨v, hv, rd⟩ := r'.get hd
    obtain ⟨u, hu, ru⟩ := re'.get he
    have e1 := e1 vs q
    have e2 := e2 us q2
    rw [hv] at e1
    rw [hu] at e2
    cases e1
    cases e2
    exact ⟨_, zipD_get _ _ _ _ _ hd he, pair_new2 R' hT rd ru⟩
end
def optZ3 (S : Store) : D → D → Res (List D)
  | .lst l, .lst m => .ok (zipD l m) S
  | .tup l, .tup m => .ok (zipD l m) S
  | .lst l, .tup m => .ok (zipD l m) S
  | _, _ => .bad
def iZipX (g : AM) : IM := fun σd S => (g σd S).bind fun ds S1 => match ds with
  | [d, e] => (fz1 S1 d).bind fun x S2 => (fz1 S2 e).bind fun y S3 => optZ3 S3 x y
  | _ => .bad
section
variable {X : Cx} {hx : Hx} {p pos : Pos}
theorem di_zipX {a b : Expr} {g : AM} {elts : List Expr} {kk : Nat} {tpos : Pos} (hm : X.mg "zip" = none) (ha : DA X hx [a, b] g) (hg : Gl X "zip" := by rfl)
    (hs : starEach [a, b] X.env = (false, eval a X.env) :: starEach [b] X.env := by rfl) (hpl : (backTo pos (starEach [b] X.env)).any (·.1) = false := by rfl) :
    DI X hx (.Tuple elts kk tpos) (.Call (.Name "zip" p) [a, b] [] pos) (iZipX g) :=
  ⟨fun W tk => PIimp (pi_zip3 hg hm (ha.run W tk) hs hpl) fun σ H Q ⟨A, S, σd, R, E, p⟩ => ⟨A, S, σd, R, E, (Post.bind (R1 := rVs _) p).mono fun vs H1 ⟨A1, S1, ds, R1, T1, r1, p1⟩ => by
    split at p1
    · obtain ⟨v, u, rfl, r2, r3⟩ := rvs2 r1
      obtain ⟨x, S2, R2, T2, r2, p2⟩ := Post.fz1 R1 r2 p1
      obtain ⟨y, S3, R3, T3, r3, p3⟩ := Post.fz1 R2 (r3.step R1 T2) p2
      have r2 := r2.fr R2 T3.fr
      unfold optZ3 at p3
      split at p3
      · cases r2 with
        | lst h0 h1 h2 =>
          cases r3 with
          | lst g0 g1 g2 => exact ⟨_, _, _, _, rfl, .inl ⟨SqL.of h1, SqL.of g1, p3 A1 H1 _ R3 .refl (it_zipL (c := ⟨X.K, hx, W⟩) R3 (lst_stays (lv := Live A1 S3) R3 (.lst h0 h1 h2) h1) (lst_stays (lv := Live A1 S3) R3 (.lst g0 g1 g2) g1) h2 g2)⟩⟩
      · cases r2 with
        | tup h1 h2 =>
          cases r3 with
          | tup g1 g2 => exact ⟨_, _, _, _, rfl, .inr (.inl ⟨h1, g1, p3 A1 H1 _ R3 .refl (it_zipT (c := ⟨X.K, hx, W⟩) R3 h1 g1 h2 g2)⟩)⟩
      · cases r2 with
        | lst h0 h1 h2 =>
          cases r3 with
          | tup g1 g2 => exact ⟨_, _, _, _, rfl, .inr (.inr ⟨SqL.of h1, g1, p3 A1 H1 _ R3 .refl (it_zipX (c := ⟨X.K, hx, W⟩) R3 (lst_stays (lv := Live A1 S3) R3 (.lst h0 h1 h2) h1) g1 h2 g2)⟩)⟩
      · exact p3.elim
    · exact p1.elim⟩⟩
end
end Y
end
section
/-! Y39: t[::-1], truths minus truths. -/
namespace Y
open PySem PySem.Spec PyProof.Rows L2
section
variable {prog : Program} {w : World} {A : Around} {E : Value → Shared → Prop} {s : Shared}
theorem rev_adjust (n : Nat) : Builtin.Slice.sliceAdjust none none (-1) (n : Int) = ((n : Int) - 1, -1) := by
  unfold Builtin.Slice.sliceAdjust
  rfl
theorem rev_places (n : Nat) : Builtin.Slice.slicePlaces ((n : Int) - 1) (-1) (-1) = n := by
  unfold Builtin.Slice.slicePlaces
  have h1 : ¬ ((-1 : Int) > 0) := by omega
  simp only [h1, if_false]
  by_cases h : (n : Int) - 1 > -1
  · rw [if_pos h, show (-(-1) : Int) = 1 by decide, Int.ediv_one]
    omega
  · rw [if_neg h]
    omega
theorem rev_applied {sl : Addr} {vl vu vs : Value} {n : Nat} {Q : Int × Int × Nat → Shared → Prop} (hs : s.heap.IsSliceOf sl vl vu vs) (pl : IsPart vl none) (pu : IsPart vu none) (ps : IsPart vs (some (-1)))
    (h : Q ((n : Int) - 1, -1, n) s) : wpAny (model prog w) A (Builtin.Slice.sliceApplied (.ref sl) (pure (n : Int))) Q E s := by
  obtain ⟨os, hos, hcs, hds⟩ := id hs
  unfold Builtin.Slice.sliceApplied Builtin.Slice.sliceFields
  refine wpAny_bind (wpAny_bind (wpAny_field hos hds (x := vl) rfl (wpAny_bind (wpAny_field hos hds (x := vu) rfl (wpAny_bind (wpAny_field hos hds (x := vs) rfl (wpAny_pure ?_)))))))
  refine wpAny_bind (HT.slicePart_ ps ?_)
  show wpAny _ _ (if ((-1 : Int) == 0) = true then _ else _) _ _ s
  rw [if_neg (by decide)]
  refine wpAny_bind (HT.slicePart_ pl (wpAny_bind (HT.slicePart_ pu (wpAny_bind (wpAny_pure ?_)))))
  show wpAny _ _ (match Builtin.Slice.sliceAdjust none none (-1) (n : Int) with | (lo, hi) => pure (lo, (-1 : Int), Builtin.Slice.slicePlaces lo hi (-1))) _ _ s
  rw [rev_adjust n]
  show wpAny _ _ (pure ((n : Int) - 1, (-1 : Int), Builtin.Slice.slicePlaces ((n : Int) - 1) (-1) (-1))) _ _ s
  rw [rev_places]
  exact wpAny_pure h
theorem rev_pick (xs : Array Value) : ((List.range xs.size).filterMap fun (m : Nat) => xs[(((xs.size : Int) - 1) + (m : Int) * (-1)).toNat]?).toArray = xs.toList.reverse.toArray := by
  congr 1
  have e : (List.range xs.size).map (fun (m : Nat) => xs[(((xs.size : Int) - 1) + (m : Int) * (-1)).toNat]?) = (List.range xs.size).map (some ∘ fun m => xs.toList.reverse.getD m .none) := by
    refine List.map_congr_left fun m hm => ?_
    have hm := List.mem_range.mp hm
    have q : (((xs.size : Int) - 1) + (m : Int) * (-1)).toNat = xs.size - 1 - m := by omega
    have h1 : m < xs.toList.reverse.length := by simp; omega
    rw [q]
    show _ = some (xs.toList.reverse.getD m .none)
    rw [List.getD_eq_getElem?_getD, List.getElem?_eq_getElem h1, Option.getD_some, List.getElem_reverse, Array.getElem?_eq_getElem (by omega)]
    simp
  have e2 : ∀ (f : Nat → Option Value) (l : List Nat), l.filterMap f = (l.map f).filterMap id := fun f l => by rw [List.filterMap_map]; rfl
  rw [e2, e, List.filterMap_map]
  show List.filterMap (some ∘ _) _ = _
  rw [List.filterMap_eq_map]
  apply List.ext_getElem
  · simp
  · intro i h1 h2
    rw [List.getElem_map, List.getElem_range, List.getD_eq_getElem?_getD, List.getElem?_eq_getElem h2]
    rfl
theorem getItem_tuple_rev {t sl : Addr} {items : Array Value} {vl vu vs : Value} {Q : Value → Shared → Prop} (ht : IsTup s.heap t items) (hs : s.heap.IsSliceOf sl vl vu vs) (pl : IsPart vl none) (pu : IsPart vu none) (ps : IsPart vs (some (-1)))
    (h : Q (.ref s.heap.objs.size) { s with heap := s.heap.push { cls := .type "tuple", data := .seq items.toList.reverse.toArray } })
    (hsz : items.size ≤ sizeLine) : wpAny (model prog w) A (getItem (.ref t) (.ref sl)) Q E s := by
  have htake : sizeOk (.seq items.toList.reverse.toArray) := by
    show items.toList.reverse.toArray.size ≤ sizeLine
    rw [List.size_toArray, List.length_reverse, Array.length_toList]
    omega
  obtain ⟨os, hos, hcs, hds⟩ := id hs
  have hTs : s.TypeIs (.ref sl) "slice" := ⟨os, hos, hcs⟩
  unfold getItem
  try with_reducible refine wpAny_holding ?_
  first | refine wpAny_bind (wpAny_pure ?_) | skip
  refine wpAny_bind (wpAny_sequenceKey ht.typeIs (by decide) ?_)
  refine wpAny_bind (wpAny_callSpecial?_slot (name := Str.ofString "__getitem__") ht.typeIs PyProof.Rows.slot_tuple_getitem
    (wpAny_call_entry PyProof.Rows.slot_tuple_getitem ht.typeIs entry_tuple_getitem ?_ (args_tuple_getitem _ _)))
  show wpAny _ _ (Builtin.Tuple.tupleItemsOf (.ref t) >>= _) _ _ s
  refine wpAny_bind (tupleItemsOf_ ht ?_)
  refine wpAny_bind (wpAny_typeOf hTs ?_)
  rw [if_pos (by decide)]
  refine wpAny_bind (rev_applied hs pl pu ps ?_)
  have hno : ¬ ((((items.size : Int) - 1) == 0 && (-1 : Int) == 1 && items.size == items.size) = true) := by
    intro q
    rw [Bool.and_eq_true, Bool.and_eq_true] at q
    exact absurd q.1.2 (by decide)
  show wpAny _ _ (if (((items.size : Int) - 1) == 0 && (-1 : Int) == 1 && items.size == items.size) = true then _ else _) _ _ s
  rw [if_neg hno, rev_pick]
  first
    | exact wpAny_bind (m := Builtin.Tuple.tupleExact _) (wpAny_newObj_type (wpAny_pure ⟨_, rfl, wpAny_pure h⟩) htake)
    | exact wpAny_bind (m := Builtin.Tuple.tupleExact _) (wpAny_newObj_type (wpAny_bind (wpAny_pure (wpAny_pure ⟨_, rfl, wpAny_pure h⟩))) htake)
    | exact wpAny_bind (wpAny_bind (m := Builtin.Tuple.tupleExact _) (wpAny_newObj_type (wpAny_pure (wpAny_pure ⟨_, rfl, wpAny_pure h⟩)) htake))
    | exact wpAny_bind (wpAny_bind (m := Builtin.Tuple.tupleExact _) (wpAny_newObj_type (wpAny_pure ⟨_, rfl, wpAny_pure h⟩) htake))
end
section
variable {X : Cx} {hx : Hx}
def tRevA (K : PySem.W.Frag) (te : TE) : TE := fun σ H Q => te σ H fun x H1 =>
  (∃ a xs, x = .ref a ∧ SqL K H1 a xs ∧ ∀ p, H1 p = none → Q (.ref p) (upd H1 p (.lst xs.reverse))) ∨ ∃ a xs, x = .ref a ∧ SqT K H1 a xs ∧ ∀ p, H1 p = none → Q (.ref p) (upd H1 p (.tup xs.reverse))
theorem pe_revA {e : Expr} {te : TE} {k : Nat} {p1 p2 p3 pos : Pos} (he : PE X e te) : PE X (.Subscript e (.Slice none none (some (.UnaryOp .USub (.Constant (.int 1) k p1) p2)) p3) pos) (tRevA X.K te) := by
  refine ⟨fun pins s σ H Q I h => ?_⟩
  refine Subscript_ (thn (he.run pins s σ H _ I h) fun v s1 ⟨x, H1, I1, r1, q1⟩ => ?_)
  have hst : PO X (some (.UnaryOp .USub (.Constant (.int 1) k p1) p2)) (tPart (tUn (L2.rU fun i => .int (-i)) (tC (.int 1)))) := po_some (pe_un un_neg pe_int)
  refine wpAny_Slice (thn (po_none.run pins s1 σ H1 (fun o H2 => o = none ∧ H2 = H1) I1 ⟨rfl, rfl⟩) fun vl s2 ⟨l, H2, I2, pl, el, e2⟩ => ?_)
  subst el e2
  refine thn (po_none.run pins s2 σ H2 (fun o H3 => o = none ∧ H3 = H2) I2 ⟨rfl, rfl⟩) fun vu s3 ⟨u, H3, I3, pu, eu, e3⟩ => ?_
  subst eu e3
  refine thn (hst.run pins s3 σ H3 (fun o H4 => o = some (-1) ∧ H4 = H3) I3 ⟨1, rfl, -1, rfl, rfl, rfl⟩) fun vs s4 ⟨o, H4, I4, ps, eo, e4⟩ => ?_
  subst eo e4
  have I5 : Inv X pins σ H4 { s4 with heap := s4.heap.push { cls := .type "slice", data := .fields #[vl, vu, vs] } } := I4.kept (t' := s4.toks) fun b ob q => Heap.get?_push_of_some _ q
  rcases q1 with ⟨a, xs, ex, hx, q⟩ | ⟨a, xs, ex, hx, q⟩
  · subst ex
    cases r1
    obtain ⟨its, r, ht, hz⟩ := I5.list hx
    have hlen := r.length
    show wpAny (model X.prog X.w) X.A (subscriptTail e (.Slice none none (some (.UnaryOp .USub (.Constant (.int 1) k p1) p2)) p3) (.ref a) (.ref s4.heap.objs.size)) (EP X pins σ Q) X.xe { s4 with heap := s4.heap.push { cls := .type "slice", data := .fields #[vl, vu, vs] } }
    refine tail_any (ops := [.ref a, .ref s4.heap.objs.size]) ht.isList.typeIs (PySem.slot_list_getitem.lookup) ?_ (by with_unfolding_all rfl)
    refine wpAny_getItem_list_slice ht.isList (Heap.IsSliceOf.new _ vl vu vs) pl pu ps (by decide) ?_ (by rw [List.size_toArray]; omega)
    rw [PySem.W.krv_pick]
    refine ⟨.ref _, _, I5.laid (t' := s4.toks) (o := .lst xs.reverse) (fun b ob q => Heap.get?_push_of_some _ q) (Nat.le_refl _) ?_, rfl, q _ (I5.hok.fresh (Nat.le_refl _))⟩
    exact ⟨by rw [List.length_reverse]; exact hz, _, 0, r.reverse, Heap.get?_push_size _ rfl⟩
  · subst ex
    cases r1
    obtain ⟨its, r, ht, hz⟩ := I5.tuple hx
    have hlen := r.length
    show wpAny (model X.prog X.w) X.A (subscriptTail e (.Slice none none (some (.UnaryOp .USub (.Constant (.int 1) k p1) p2)) p3) (.ref a) (.ref s4.heap.objs.size)) (EP X pins σ Q) X.xe { s4 with heap := s4.heap.push { cls := .type "slice", data := .fields #[vl, vu, vs] } }
    refine tail_any (ops := [.ref a, .ref s4.heap.objs.size]) ht.typeIs PyProof.Rows.slot_tuple_getitem.lookup ?_ (by with_unfolding_all rfl)
    refine getItem_tuple_rev ht (Heap.IsSliceOf.new _ vl vu vs) pl pu ps ?_ (by rw [List.size_toArray]; omega)
    refine ⟨.ref _, _, I5.laid (t' := s4.toks) (o := .tup xs.reverse) (fun b ob q => Heap.get?_push_of_some _ q) (Nat.le_refl _) ?_, rfl, q _ (I5.hok.fresh (Nat.le_refl _))⟩
    exact ⟨by rw [List.length_reverse]; exact hz, _, r.reverse, IsTup.new _ _⟩
/-- xs[::-1] -/
def opRev (d : Wt) (S : Store) : Res Wt := match deref S d with
  | some (.tup l) => .ok (.d (.tup l.reverse)) S
  | some (.lst l) => .ok (.d (.lst l.reverse)) S
  | some (.fls l) => .ok (.d (.lst l.reverse)) S
  | _ => .bad
def eRev (fa : EM) : EM := fun σd S => (fa σd S).bind fun d S1 => opRev d S1
theorem d_rev {a : Expr} {fa : EM} {k : Nat} {p1 p2 p3 pos : Pos} (ha : DE X hx a fa) : DE X hx (.Subscript a (.Slice none none (some (.UnaryOp .USub (.Constant (.int 1) k p1) p2)) p3) pos) (eRev fa) :=
  ⟨fun W tk => PEimp (pe_revA (ha.run W tk)) fun σ H Q ⟨A, S, σd, R, E, p⟩ => ⟨A, S, σd, R, E, (Post.bind (R1 := rV _) p).mono fun v H1 ⟨A1, S1, d, R1, T1, r1, p1⟩ => by
    unfold opRev at p1
    split at p1
    · rename_i l e
      obtain ⟨b, us, ex, hq, g⟩ := (readAs R1 r1 e).tup
      exact .inr ⟨b, us, ex, hq, fun q hq => p1.tup R1 g.rev hq⟩
    · rename_i l e
      obtain ⟨b, us, ex, hq, g⟩ := (readAs R1 r1 e).lst
      exact .inl ⟨b, us, ex, SqL.of hq, fun q hq => p1.lst R1 g.rev hq⟩
    · rename_i l e
      obtain ⟨b, us, ex, hq, g⟩ := (readAs R1 r1 e).fls
      exact .inl ⟨b, us, ex, hq, fun q hq => p1.lst R1 g.rev hq⟩
    · exact p1.elim⟩⟩
/-- a - b, of truths too -/
def opSubB (a b : Wt) (S : Store) : Res Wt := match deref S a, deref S b with
  | some (.int i), some (.int j) => .ok (.d (.int (i - j))) S
  | some (.bl p), some (.bl q) => .ok (.d (.int (b2i p - b2i q))) S
  | _, _ => .bad
theorem op_subB : OpR X (binaryOp .Sub) (fun x y H Q => ∃ p q : Bool, x = .bl p ∧ y = .bl q ∧ Q (.int (b2i p - b2i q)) H) := by
  intro pins s σ H x y v u Q I rx ry h
  obtain ⟨p, q, rfl, rfl, h⟩ := h
  cases rx
  cases ry
  exact sub_bool ⟨.int _, H, I.tok _, ⟨_, rfl⟩, h⟩
theorem od_subB : OpD X hx (binaryOp .Sub) opSubB := by
  intro W pins s σ H x y v u Q I rx ry h
  obtain ⟨A, S, σ', d1, d2, R, r1, r2, p⟩ := h
  unfold opSubB at p
  split at p
  · rename_i i j e1 e2
    exact op_sub pins s σ H x y v u Q I rx ry ⟨i, j, (readAs R r1 e1).int, (readAs R r2 e2).int, p.hereV R (.int _)⟩
  · rename_i i j e1 e2
    exact op_subB pins s σ H x y v u Q I rx ry ⟨i, j, (readAs R r1 e1).bl, (readAs R r2 e2).bl, p.hereV R (.int _)⟩
  · exact p.elim
end
/-! reckoning -/
section
variable {S : Store} {l : List D} {k m : Int} {p q : Bool}
@[simp] theorem rev_tup : opRev (.d (.tup l)) S = .ok (.d (.tup l.reverse)) S := id rfl
@[simp] theorem rev_lst : opRev (.d (.lst l)) S = .ok (.d (.lst l.reverse)) S := id rfl
@[simp] theorem subB_int : opSubB (.d (.int k)) (.d (.int m)) S = .ok (.d (.int (k - m))) S := id rfl
@[simp] theorem subB_bl : opSubB (.d (.bl p)) (.d (.bl q)) S = .ok (.d (.int (b2i p - b2i q))) S := id rfl
theorem eRev_ap {fa : EM} {σd : List (Option Wt)} {S : Store} : eRev fa σd S = (fa σd S).bind fun d S1 => opRev d S1 := id rfl
end
end Y
end
section
/-! Y40: comprehensions over a list that is a cell, which is not let alone. -/
namespace Y
open PySem PySem.Spec PyProof.Rows L2
/-- the turns over the c-th cell as it stands; the new list is the n-th cell -/
def lcK (g : GM) (t : TM) (e : EM) (σw : Ev) (n c : Nat) : Nat → Nat → Store → Option Store
  | 0, _, _ => none
  | k + 1, i, S => match S[c]? with
    | some (.lst l) => match l[i]? with
      | none => some S
      | some d => match g (.d d) σw S with
        | .ok σ2 S2 => match t σ2 S2 with
          | .ok true S3 => match e σ2 S3 with
            | .ok w S4 => match fz1 S4 w with
              | .ok y S5 => match addC n y S5 S5[n]? with
                | some S6 => lcK g t e σw n c k (i + 1) S6
                | none => none
              | _ => none
            | _ => none
          | .ok false S3 => lcK g t e σw n c k (i + 1) (S3.take (n + 1))
          | _ => none
        | _ => none
    | _ => none
def lenC : Option Cell → Nat
  | some (.lst l) => l.length
  | _ => 0
def eLcKG (fin : Nat → Store → Res Wt) (fe : EM) (g : GM) (t : TM) (e : EM) (vs : List Nat) : EM := fun σd S => (fe σd S).bind fun w S1 => match w with
  | .loc c => optS (lcK g t e (wipeD σd vs) S1.length c (lenC S1[c]? + 1) 0 (S1 ++ [.lst []])) (fin S1.length)
  | _ => .bad
abbrev eLcK := eLcKG finV
def tIv (K : PySem.W.Frag) (te : TE) : TI := fun σ H R => te σ H fun x H1 => (∃ a xs, x = .ref a ∧ SqL K H1 a xs ∧ R (Itl K a) H1) ∨ (∃ a xs, x = .ref a ∧ SqT K H1 a xs ∧ R (Itt K a) H1) ∨ ∃ y, x = .str y ∧ R (Its y) H1
section
variable {K : PySem.W.Frag} {hx : Hx} {W : WX} {fe : EM} {g : GM} {t : TM} {e : EM} {vs is : List Nat} {fin : Nat → Store → Res Wt}
theorem lcK_of (fo : FinOk fin) (hs : ∀ i ∈ is, i ∈ vs) {σ : L2.St} {H : Hp} {Q : VK} (h : tE ⟨K, hx, W⟩ (eLcKG fin fe g t e vs) σ H Q) :
    tLc (tIv K (tE ⟨K, hx, W⟩ fe)) (tG (cno K hx) is g) (tT (cno K hx) t) (tE (cno K hx) e) vs σ H Q := by
  obtain ⟨A, S, σd, R, E, p⟩ := h
  refine ⟨A, S, σd, R, E, (Post.bind (R1 := rV ⟨K, hx, W⟩) p).mono fun v H1 ⟨A1, S1, w1, R1, T1, r1, p1⟩ => ?_⟩
  cases w1 with
  | d x => exact p1.elim
  | hex _ _ _ => exact p1.elim
  | loc c =>
  dsimp only at p1
  obtain ⟨a, ha, rfl⟩ := r1
  obtain ⟨cl0, u0, hcl0, hu0, ok0⟩ := R1.known ha
  cases hq : lcK g t e (wipeD σd vs) S1.length c (lenC S1[c]? + 1) 0 (S1 ++ [.lst []]) with
  | none => rw [hq] at p1; exact p1.elim
  | some Sf =>
    rw [hq] at p1
    have p1 : Post ⟨K, hx, W⟩ (rV ⟨K, hx, W⟩) σ A1 S1 H1 Q (fin S1.length Sf) := p1
    have hcn : c < S1.length := (List.getElem?_eq_some_iff.mp hcl0).1
    have sq0 : ∃ us, SqL K H1 a us := by
      have hq := hq
      unfold lcK at hq
      rw [List.getElem?_append_left hcn, hcl0] at hq
      cases cl0 with
      | lst l0 =>
        obtain ⟨us, h1, h2⟩ := ok0
        exact ⟨us, SqL.of h1⟩
      | _ => cases hq
    obtain ⟨us0, sq0⟩ := sq0
    refine .inl ⟨a, us0, rfl, sq0, ?_⟩
    intro D hD
    obtain ⟨Rb, Tb⟩ := Rel.alloc (c := .lst []) (o := .lst []) R1 hD ⟨[], upd_same, .nil⟩
    have hAb : (A1 ++ [some D])[S1.length]? = some (some D) := by rw [← R1.len]; simp
    have hAc : (A1 ++ [some D])[c]? = some (some a) := Tb.ext _ _ ha
    have hlb : (S1 ++ [Cell.lst []]).length = S1.length + 1 := by simp
    have E1 := E.step R T1
    have Ew := (E1.step R1 Tb).wipe vs
    generalize hNk : lenC S1[c]? + 1 = Nk at hq
    generalize hAe : A1 ++ [some D] = Ab at Rb Tb hAb hAc Ew
    generalize hSe : S1 ++ [Cell.lst []] = Sb at Rb Tb hlb hq Ew
    generalize hHe : upd H1 D (.lst []) = Hb at Rb Tb Ew
    refine ⟨fun i m H => ∃ A S, Rel K A S H ∧ Stp Ab Sb Hb A S H ∧ lcK g t e (wipeD σd vs) S1.length c m i S = some Sf, ⟨Nk, Ab, Sb, Rb, .refl, hq⟩, ?_⟩
    rintro i m H ⟨A, S, R, T, q⟩
    cases m with
    | zero => cases q
    | succ m =>
    unfold lcK at q
    obtain ⟨cl, u, hcl, hu, ok⟩ := R.known (T.ext _ _ hAc)
    rw [hcl] at q
    cases cl with
    | lst l =>
      obtain ⟨us, h1, h2⟩ := ok
      dsimp only at q
      cases hd : l[i]? with
      | none =>
        rw [hd] at q
        cases q
        refine .inl ⟨⟨us, SqL.of h1, ?_⟩, fo ⟨K, hx, W⟩ σ A1 A S1 _ H1 H D Q R1 R (Tb.trans T) (T.ext _ _ hAb) p1⟩
        rw [← h2.len]
        exact List.getElem?_eq_none_iff.mp hd
      | some d =>
        rw [hd] at q
        dsimp only at q
        obtain ⟨x0, hx0, rx0⟩ := h2.get hd
        refine .inr ⟨⟨us, x0, SqL.of h1, hx0⟩, fun H => ∃ A S, Rel K A S H ∧ Stp Ab Sb Hb A S H ∧ lcK g t e (wipeD σd vs) S1.length c m (i + 1) S = some Sf, fun H' h => ⟨m, Nat.lt_succ_self m, h⟩, ?_⟩
        rintro x H' ⟨rfl, y⟩
        have hxx := y us (SqL.of h1)
        rw [hx0] at hxx
        cases hxx
        cases qg : g (.d d) (wipeD σd vs) S with
        | bad => rw [qg] at q; cases q
        | exc C ns l S' => rw [qg] at q; cases q
        | ok σ2d S2 =>
          rw [qg] at q
          dsimp only at q
          refine ⟨A, S, wipeD σd vs, .d d, R, Ew.step Rb T, RV.of rx0, ?_⟩
          rw [qg]
          intro A2 H2 σ2 R3 T3 ⟨E3, sm⟩
          refine ⟨by rw [sm.wipe hs, wipe_wipe], ?_⟩
          cases qt : t σ2d S2 with
          | bad => rw [qt] at q; cases q
          | exc C ns l S' => rw [qt] at q; cases q
          | ok b S3 =>
            rw [qt] at q
            refine ⟨A2, S2, σ2d, R3, E3, ?_⟩
            rw [qt]
            intro A3 H3 b' R4 T4 hb
            have hb : b = b' := hb
            subst hb
            have T' := (T.trans T3).trans T4
            cases b with
            | false =>
              rw [if_neg Bool.false_ne_true]
              dsimp only at q
              refine ⟨A3.take (S1.length + 1), S3.take (S1.length + 1), R4.take _, ?_, q⟩
              have := T'.take Rb
              rw [hlb] at this
              exact this
            | true =>
              rw [if_pos rfl]
              dsimp only at q
              cases qe : e σ2d S3 with
              | bad => rw [qe] at q; cases q
              | exc C ns l S' => rw [qe] at q; cases q
              | ok w4 S4 =>
                rw [qe] at q
                dsimp only at q
                refine ⟨A3, S3, σ2d, R4, E3.step R3 T4, ?_⟩
                rw [qe]
                intro A4 H4 y R5 T5 r5
                cases qf : fz1 S4 w4 with
                | bad => rw [qf] at q; cases q
                | exc C ns l S' => rw [qf] at q; cases q
                | ok yd S5 =>
                  rw [qf] at q
                  dsimp only at q
                  obtain ⟨R6, T6, r6⟩ := fz1_ok R5 r5 qf
                  have T'' := (T'.trans T5).trans T6
                  have hA4 := T''.ext _ _ hAb
                  obtain ⟨cl, u, hcl, hu, ok⟩ := R6.known hA4
                  rw [hcl] at q
                  cases cl with
                  | lst acc =>
                    obtain ⟨us, h1, h2⟩ := ok
                    unfold addC at q
                    dsimp only at q
                    by_cases hz : acc.length < lim
                    · rw [if_pos hz] at q
                      dsimp only at q
                      obtain ⟨R7, T7⟩ := R6.putL hA4 hcl (h2.append (.one r6))
                      refine ⟨us, h1, by rw [← h2.len]; exact lim_lt hz, A4.take (S1.length + 1), _, R7.take _, ?_, q⟩
                      have := (T''.trans T7).take Rb
                      rw [hlb] at this
                      exact this
                    · rw [if_neg hz] at q; cases q
                  | _ => cases q
    | _ => cases q
end
section
variable {X : Cx} {hx : Hx} {elt tg iter : Expr} {ifs : List Expr} {scope : Scope} {own : List (Str × Nat)} {pos : Pos} {fe : EM} {g : GM} {t : TM} {e : EM} {is : List Nat} {fin : Nat → Store → Res Wt}
theorem d_lcKG (fo : FinOk fin) (hc : X.calm = true) (hN : X.N.Nodup) (own : List (Str × Nat)) (hi : DE X hx iter fe) (ok : BlkOk X.N X.env.scope scope own) (hs' : ∀ i ∈ is, i ∈ own.map (·.2))
    (hg : ∀ (s : Shared) (H : Hp) (C : Addr) (cl : List (Str × Addr)) (fp : List Addr), DG (X.blk s H scope (compEnvC scope cl C X.env) fp) hx tg is g)
    (ht : ∀ (s : Shared) (H : Hp) (C : Addr) (cl : List (Str × Addr)) (fp : List Addr), DTs (X.blk s H scope (compEnvC scope cl C X.env) fp) hx ifs t)
    (he : ∀ (s : Shared) (H : Hp) (C : Addr) (cl : List (Str × Addr)) (fp : List Addr), DE (X.blk s H scope (compEnvC scope cl C X.env) fp) hx elt e) (hs : ∀ x, foldedSetIterable iter X.env x = pure x := by intro _; rfl) :
    DE X hx (.ListComp elt [⟨tg, iter, ifs, 0⟩] scope pos) (eLcKG fin fe g t e (own.map (·.2))) :=
  ⟨fun W tk => PEimp (pe_lc hc hN (pi_any (hi.run W tk)) ok (fun s H C cl fp => (hg s H C cl fp).run _ takes_no) (fun s H C cl fp => (ht s H C cl fp).run _ takes_no) (fun s H C cl fp => (he s H C cl fp).run _ takes_no) hs) fun σ H Q h => lcK_of fo hs' h⟩
end
/-! reckoning -/
section
variable {g : GM} {t : TM} {e : EM} {σw : Ev} {n c : Nat}
theorem lcK_map {α : Type} (c' h : α → D) (xs : List α) : ∀ (k i : Nat) (acc : List D) (S : Store), S.length = n → S[c]? = some (.lst (xs.map c')) → (∀ x ∈ xs, ∀ acc', ∃ σ2, g (.d (c' x)) σw (S ++ [.lst acc']) = .ok σ2 (S ++ [.lst acc']) ∧ t σ2 (S ++ [.lst acc']) = .ok true (S ++ [.lst acc']) ∧ e σ2 (S ++ [.lst acc']) = .ok (.d (h x)) (S ++ [.lst acc'])) →
    acc.length + (xs.length - i) ≤ lim → i ≤ xs.length → xs.length - i < k → lcK g t e σw n c k i (S ++ [.lst acc]) = some (S ++ [.lst (acc ++ (xs.drop i).map h)])
  | 0, i, acc, S, hn, hc, hd, hl, hi, hk => by omega
  | k + 1, i, acc, S, hn, hc, hd, hl, hi, hk => by
    have hc' : (S ++ [.lst acc])[c]? = some (.lst (xs.map c')) := by rw [List.getElem?_append_left (List.getElem?_eq_some_iff.mp hc).1, hc]
    unfold lcK
    rw [hc']
    dsimp only
    by_cases q : i < xs.length
    · obtain ⟨σ2, h1, h2, h3⟩ := hd xs[i] (List.getElem_mem q) acc
      have h4 : (S ++ [Cell.lst acc])[n]? = some (.lst acc) := by rw [List.getElem?_append_right (by omega), hn, Nat.sub_self]; rfl
      have h5 : ((S ++ [Cell.lst acc]).set n (.lst (acc ++ [h xs[i]]))).take (n + 1) = S ++ [.lst (acc ++ [h xs[i]])] := by
        rw [List.set_append_right _ _ (by omega), hn, Nat.sub_self, List.set_cons_zero, List.take_append, hn]
        simp [List.take_of_length_le (Nat.le_of_lt (show S.length < n + 1 by omega))]
      have h6 : (xs.map c')[i]? = some (c' xs[i]) := by rw [List.getElem?_map, List.getElem?_eq_getElem q]; rfl
      rw [h6]
      simp only [h1, h2, h3, fz1_d, h4, addC, if_pos (show acc.length < lim by omega), h5]
      rw [lcK_map c' h xs k (i + 1) _ S hn hc hd (by rw [List.length_append, List.length_singleton]; omega) (by omega) (by omega), List.drop_eq_getElem_cons q, List.map_cons, List.append_assoc]
      rfl
    · rw [List.getElem?_eq_none (by rw [List.length_map]; omega), List.drop_eq_nil_of_le (by omega)]
      simp
theorem eLcK_map {α : Type} {fe : EM} {vs : List Nat} {σ : Ev} {S0 S : Store} {xs : List α} (c' h : α → D) (hw : fe σ S0 = .ok (.loc c) S) (hc : S[c]? = some (.lst (xs.map c'))) (hl : xs.length ≤ lim)
    (hd : ∀ x ∈ xs, ∀ acc', ∃ σ2, g (.d (c' x)) (wipeD σ vs) (S ++ [.lst acc']) = .ok σ2 (S ++ [.lst acc']) ∧ t σ2 (S ++ [.lst acc']) = .ok true (S ++ [.lst acc']) ∧ e σ2 (S ++ [.lst acc']) = .ok (.d (h x)) (S ++ [.lst acc'])) :
    eLcK fe g t e vs σ S0 = .ok (.d (.lst (xs.map h))) S := by
  show (fe σ S0).bind _ = _
  rw [hw, ok_bind]
  dsimp only
  rw [hc]
  dsimp only [lenC]
  rw [lcK_map (g := g) (t := t) (e := e) (σw := wipeD σ vs) (n := S.length) (c := c) c' h xs ((xs.map c').length + 1) 0 [] S rfl hc hd (by simpa using hl) (by omega) (by rw [List.length_map]; omega)]
  simp [optS, finV]
end
end Y
end
section
/-! the D functions of the law. -/
namespace K42
open PySem PySem.Spec PyProof.Rows L2 Y
def K_MOST_NUMBERS : D := .int 5
def K_NOUGHT : D := .tup [.int 0, .int 1]
def K_BELOW : D := .str "<"
def K_AT_MOST : D := .str "<="
def K_EQUAL : D := .str "="
def K_SIGNS : D := .tup [.str "<", .str "<=", .str "="]
def K_MOST_ROWS : D := .int 200
def b_is_whole : SM := sRet (eAnd (eB bIsi (aCons (eVar 0) (aCons (eC (.ty "int")) (aNil)))) (eNot (eB bIsi (aCons (eVar 0) (aCons (eC (.ty "bool")) (aNil))))))
def F_is_whole : List Wt → Store → Res Wt := mkFn 1 1 b_is_whole
def b_is_between : SM := sRet (eAnd (eB F_is_whole (aCons (eVar 0) (aNil))) (eChain opLe opLe (eVar 1) (eVar 0) (eVar 2)))
def F_is_between : List Wt → Store → Res Wt := mkFn 3 3 b_is_between
def b_is_tuple_of : SM := sRet (eAnd (eB bIsi (aCons (eVar 0) (aCons (eC (.ty "tuple")) (aNil)))) (eOp (opEq false) (eB bLen (aCons (eVar 0) (aNil))) (eVar 1)))
def F_is_tuple_of : List Wt → Store → Res Wt := mkFn 2 2 b_is_tuple_of
def b_fraction : SM := sSeq (sSet 2 (eOp opMulT (eB bGcd (aCons (eVar 0) (aCons (eVar 1) (aNil)))) (eIf (tBl (eOp opGt (eVar 1) (eC (.int 0)))) (eC (.int 1)) (eUn opNeg (eC (.int 1))))))
  (sRet (eTup (aCons (eOp opFdiv (eVar 0) (eVar 2)) (aCons (eOp opFdiv (eVar 1) (eVar 2)) (aNil)))))
def F_fraction : List Wt → Store → Res Wt := mkFn 2 3 b_fraction
def b_is_fraction_by : SM := sSeq (sIf (tOr (tNot (tTru (eB F_is_tuple_of (aCons (eVar 0) (aCons (eC (.int 2)) (aNil)))))) (tOr (tNot (tTru (eB F_is_whole (aCons (eOp opIx (eVar 0) (eC (.int 0))) (aNil))))) (tOr (tNot (tTru (eB F_is_whole (aCons (eOp opIx (eVar 0) (eC (.int 1))) (aNil))))) (tBl (eOp opLe (eOp opIx (eVar 0) (eC (.int 1))) (eC (.int 0)))))))
  (sRet (eC (.bl false)))
  (sNext))
  (sRet (eOp (opEq false) (eB bGcd (aCons (eOp opIx (eVar 0) (eC (.int 0))) (aCons (eOp opIx (eVar 0) (eC (.int 1))) (aNil)))) (eC (.int 1))))
def F_is_fraction_by : List Wt → Store → Res Wt := mkFn 1 1 b_is_fraction_by
def b_whole : SM := sRet (eTup (aCons (eVar 0) (aCons (eC (.int 1)) (aNil))))
def F_whole : List Wt → Store → Res Wt := mkFn 1 1 b_whole
def b_sum_of : SM := sRet (eB F_fraction (aCons (eOp opAdd (eOp opMulT (eOp opIx (eVar 0) (eC (.int 0))) (eOp opIx (eVar 1) (eC (.int 1)))) (eOp opMulT (eOp opIx (eVar 1) (eC (.int 0))) (eOp opIx (eVar 0) (eC (.int 1))))) (aCons (eOp opMulT (eOp opIx (eVar 0) (eC (.int 1))) (eOp opIx (eVar 1) (eC (.int 1)))) (aNil))))
def F_sum_of : List Wt → Store → Res Wt := mkFn 2 2 b_sum_of
def b_times : SM := sRet (eB F_fraction (aCons (eOp opMulT (eOp opIx (eVar 0) (eC (.int 0))) (eOp opIx (eVar 1) (eC (.int 0)))) (aCons (eOp opMulT (eOp opIx (eVar 0) (eC (.int 1))) (eOp opIx (eVar 1) (eC (.int 1)))) (aNil))))
def F_times : List Wt → Store → Res Wt := mkFn 2 2 b_times
def b_check_many : SM := sIf (tNot (tTru (eB F_is_between (aCons (eVar 0) (aCons (eC (.int 0)) (aCons (eC K_MOST_NUMBERS) (aNil)))))))
  (sBad)
  (sNext)
def F_check_many : List Wt → Store → Res Wt := mkFn 1 1 b_check_many
def b_is_row : SM := sSeq (sIf (tOr (tNot (tTru (eB F_is_tuple_of (aCons (eVar 1) (aCons (eC (.int 2)) (aNil)))))) (tOr (tNot (tTru (eB F_is_tuple_of (aCons (eOp opIx (eVar 1) (eC (.int 0))) (aCons (eOp opAdd (eVar 0) (eC (.int 1))) (aNil)))))) (tNot (tTru (eB bIsi (aCons (eOp opIx (eVar 1) (eC (.int 1))) (aCons (eC (.ty "str")) (aNil))))))))
  (sRet (eC (.bl false)))
  (sNext))
  (sRet (eAnd (eB bAll (aCons (eLc (iVal (eOp opIx (eVar 1) (eC (.int 0)))) (gN 2) (tYs) (eB F_is_whole (aCons (eVar 2) (aNil))) [2]) (aNil))) (eOp (opIn false) (eOp opIx (eVar 1) (eC (.int 1))) (eC K_SIGNS))))
def F_is_row : List Wt → Store → Res Wt := mkFn 2 3 b_is_row
def b_are_rows_by : SM := sRet (eAnd (eB bIsi (aCons (eVar 1) (aCons (eC (.ty "tuple")) (aNil)))) (eAnd (eOp opLe (eB bLen (aCons (eVar 1) (aNil))) (eC K_MOST_ROWS)) (eB bAll (aCons (eLc (iVal (eVar 1)) (gN 2) (tYs) (eB F_is_row (aCons (eVar 0) (aCons (eVar 2) (aNil)))) [2]) (aNil)))))
def F_are_rows_by : List Wt → Store → Res Wt := mkFn 2 3 b_are_rows_by
def b_is_multiple : SM := sRet (eAnd (eB F_is_fraction_by (aCons (eVar 1) (aNil))) (eOr (eOp (opEq false) (eOp opIx (eVar 0) (eC (.int 1))) (eC K_EQUAL)) (eOp opGe (eOp opIx (eVar 1) (eC (.int 0))) (eC (.int 0)))))
def F_is_multiple : List Wt → Store → Res Wt := mkFn 2 2 b_is_multiple
def b_are_multiples : SM := sRet (eAnd (eB F_is_tuple_of (aCons (eVar 1) (aCons (eB bLen (aCons (eVar 0) (aNil))) (aNil)))) (eB bAll (aCons (eLc (iZipX (aCons (eVar 0) (aCons (eVar 1) (aNil)))) (gT 2 (gN1 (gN 2) (gN1 (gN 3) (gN0)))) (tYs) (eB F_is_multiple (aCons (eVar 2) (aCons (eVar 3) (aNil)))) [2, 3]) (aNil))))
def F_are_multiples : List Wt → Store → Res Wt := mkFn 2 4 b_are_multiples
def b_added_up : SM := sSeq (sSet 3 (eLc (iRng1 (aCons (eOp opAdd (eVar 1) (eC (.int 1))) (aNil))) (gN 4) (tYs) (eC K_NOUGHT) [4]))
  (sSeq (sFor (iZipX (aCons (eVar 0) (aCons (eVar 2) (aNil)))) (gT 2 (gN1 (gN 5) (gN1 (gN 6) (gN0))))
  (sSet 3 (eLc (iZipX (aCons (eVar 3) (aCons (eOp opIx (eVar 5) (eC (.int 0))) (aNil)))) (gT 2 (gN1 (gN 7) (gN1 (gN 8) (gN0)))) (tYs) (eB F_sum_of (aCons (eVar 7) (aCons (eB F_times (aCons (eVar 6) (aCons (eB F_whole (aCons (eVar 8) (aNil))) (aNil)))) (aNil)))) [7, 8])))
  (sRet (eVar 3)))
def F_added_up : List Wt → Store → Res Wt := mkFn 3 9 b_added_up
def b_do_bar_by : SM := sSeq (sIf (tNot (tTru (eB F_are_multiples (aCons (eVar 0) (aCons (eVar 2) (aNil))))))
  (sRet (eC (.bl false)))
  (sNext))
  (sSeq (sSet 3 (eB F_added_up (aCons (eVar 0) (aCons (eVar 1) (aCons (eVar 2) (aNil))))))
  (sSeq (sIf (tTru (eB bAny (aCons (eLc (iVal (eSl opSl (eVar 3) (oNone) (oSome (eUn opNeg (eC (.int 1)))))) (gN 4) (tYs) (eOp (opEq true) (eVar 4) (eC K_NOUGHT)) [4]) (aNil))))
  (sRet (eC (.bl false)))
  (sNext))
  (sSeq (sSet 5 (eLc (iZipX (aCons (eVar 0) (aCons (eVar 2) (aNil)))) (gT 2 (gN1 (gN 6) (gN1 (gN 7) (gN0)))) (tBl (eOp (opEq true) (eVar 7) (eC K_NOUGHT))) (eOp opIx (eVar 6) (eC (.int 1))) [6, 7]))
  (sSeq (sIf (tBl (eOp (opIn false) (eC K_BELOW) (eVar 5)))
  (sRet (eOp opGe (eOp opIx (eOp opIx (eVar 3) (eUn opNeg (eC (.int 1)))) (eC (.int 0))) (eC (.int 0))))
  (sNext))
  (sRet (eOr (eOp opGt (eOp opIx (eOp opIx (eVar 3) (eUn opNeg (eC (.int 1)))) (eC (.int 0))) (eC (.int 0))) (eAnd (eOp (opIn true) (eC K_AT_MOST) (eVar 5)) (eOp (opEq true) (eOp opIx (eOp opIx (eVar 3) (eUn opNeg (eC (.int 1)))) (eC (.int 0))) (eC (.int 0))))))))))
def F_do_bar_by : List Wt → Store → Res Wt := mkFn 3 8 b_do_bar_by
def b_check_rows : SM := sSeq (sExpr (eB F_check_many (aCons (eVar 1) (aNil))))
  (sIf (tNot (tTru (eB F_are_rows_by (aCons (eVar 1) (aCons (eVar 0) (aNil))))))
  (sBad)
  (sNext))
def F_check_rows : List Wt → Store → Res Wt := mkFn 2 2 b_check_rows
def b_do_bar : SM := sSeq (sExpr (eB F_check_rows (aCons (eVar 0) (aCons (eVar 1) (aNil)))))
  (sRet (eB F_do_bar_by (aCons (eVar 0) (aCons (eVar 1) (aCons (eVar 2) (aNil))))))
def F_do_bar : List Wt → Store → Res Wt := mkFn 3 3 b_do_bar
def b__law_well : SM := sSeq (sSet 2 (eIf (tBl (eOp opLt (eVar 1) (eB bLen (aCons (eVar 0) (aNil))))) (eB bInt (aCons (eOp opIx (eVar 0) (eVar 1)) (aNil))) (eC (.int 0))))
  (sSeq (sSet 3 (eOp opAdd (eC (.int 7919)) (eOp opMulT (eC (.int 104729)) (eVar 1))))
  (sSeq (sFor (iVal (eOp opAdd (eSl opSl (eVar 0) (oNone) (oSome (eC (.int 6)))) (eLst (aCons (eVar 2) (aNil))))) (gN 4)
  (sSet 3 (eOp opMod (eB bInt (aCons (eOp opAdd (eOp opAdd (eOp opMulT (eVar 3) (eC (.int 48271))) (eOp opMod (eB bInt (aCons (eVar 4) (aNil))) (eC (.int 2147483629)))) (eC (.int 17))) (aNil))) (eC (.int 2147483647)))))
  (sRet (eLstL (aCons (eIf (tOr (tBl (eOp opLt (eVar 2) (eC (.int 0)))) (tBl (eOp opGe (eVar 2) (eOp opPow (eC (.int 10)) (eC (.int 18)))))) (eB bAbs (aCons (eVar 2) (aNil))) (eC (.int 0))) (aCons (eVar 3) (aCons (eC (.int 0)) (aNil))))))))
def F__law_well : List Wt → Store → Res Wt := mkFn 2 5 b__law_well
def b__law_take : SM := sSeq (sIf (tBl (eOp opGt (eOp opIx (eVar 0) (eC (.int 0))) (eC (.int 0))))
  (sSeq (sAsg (gT 2 (gN1 (gSb (eVar 0) (eC (.int 0))) (gN1 (gN 2) (gN0)))) (eB bDivmod (aCons (eOp opIx (eVar 0) (eC (.int 0))) (aCons (eVar 1) (aNil)))))
  (sRet (eVar 2)))
  (sNext))
  (sSeq (sAsg (gT 2 (gN1 (gN 2) (gN1 (gN 3) (gN0)))) (eTup (aCons (eC (.int 0)) (aCons (eC (.int 1)) (aNil)))))
  (sSeq (sWhile fuelW (tBl (eOp opLt (eVar 3) (eOp opMulT (eC (.int 65536)) (eVar 1))))
  (sSeq (sAsg (gSb (eVar 0) (eC (.int 2))) (eOp opAdd (eOp opIx (eVar 0) (eC (.int 2))) (eC (.int 1))))
  (sSeq (sAsg (gSb (eVar 0) (eC (.int 1))) (eOp opMod (eB bInt (aCons (eOp opAdd (eOp opAdd (eOp opMulT (eOp opIx (eVar 0) (eC (.int 1))) (eC (.int 69621))) (eOp opMulT (eOp opIx (eVar 0) (eC (.int 2))) (eC (.int 40692)))) (eC (.int 5))) (aNil))) (eC (.int 2147483629))))
  (sPar 2 3 (aCons (eOp opAdd (eOp opMulT (eVar 2) (eC (.int 65536))) (eOp opMod (eB bInt (aCons (eOp opFdiv (eOp opIx (eVar 0) (eC (.int 1))) (eC (.int 64))) (aNil))) (eC (.int 65536)))) (aCons (eOp opMulT (eVar 3) (eC (.int 65536))) (aNil)))))))
  (sRet (eOp opMod (eB bInt (aCons (eVar 2) (aNil))) (eVar 1)))))
def F__law_take : List Wt → Store → Res Wt := mkFn 2 4 b__law_take
def b__law_says : SM := sRet (eAnd (eB bIsi (aCons (eVar 0) (aCons (eC (.ty "bool")) (aNil)))) (eOp (opEq false) (eVar 0) (eVar 1)))
def F__law_says : List Wt → Store → Res Wt := mkFn 2 2 b__law_says
def b__law_whole : SM := sRet (eAnd (eB bIsi (aCons (eVar 0) (aCons (eC (.ty "int")) (aNil)))) (eNot (eB bIsi (aCons (eVar 0) (aCons (eC (.ty "bool")) (aNil))))))
def F__law_whole : List Wt → Store → Res Wt := mkFn 1 1 b__law_whole
def b__law_part_of : SM := sSeq (sPar 2 3 (aCons (eB bAbs (aCons (eVar 0) (aNil))) (aCons (eVar 1) (aNil))))
  (sSeq (sWhile fuelW (tBl (eOp opGt (eVar 3) (eC (.int 0))))
  (sPar 2 3 (aCons (eVar 3) (aCons (eOp opMod (eB bInt (aCons (eVar 2) (aNil))) (eVar 3)) (aNil)))))
  (sRet (eTup (aCons (eOp opFdiv (eVar 0) (eVar 2)) (aCons (eOp opFdiv (eVar 1) (eVar 2)) (aNil))))))
def F__law_part_of : List Wt → Store → Res Wt := mkFn 2 4 b__law_part_of
def b__law_plus : SM := sRet (eB F__law_part_of (aCons (eOp opAdd (eOp opMulT (eOp opIx (eVar 0) (eC (.int 0))) (eOp opIx (eVar 1) (eC (.int 1)))) (eOp opMulT (eOp opIx (eVar 1) (eC (.int 0))) (eOp opIx (eVar 0) (eC (.int 1))))) (aCons (eOp opMulT (eOp opIx (eVar 0) (eC (.int 1))) (eOp opIx (eVar 1) (eC (.int 1)))) (aNil))))
def F__law_plus : List Wt → Store → Res Wt := mkFn 2 2 b__law_plus
def b__law_times : SM := sRet (eB F__law_part_of (aCons (eOp opMulT (eOp opIx (eVar 0) (eC (.int 0))) (eOp opIx (eVar 1) (eC (.int 0)))) (aCons (eOp opMulT (eOp opIx (eVar 0) (eC (.int 1))) (eOp opIx (eVar 1) (eC (.int 1)))) (aNil))))
def F__law_times : List Wt → Store → Res Wt := mkFn 2 2 b__law_times
def b__law_over : SM := sRet (eB F__law_part_of (aCons (eOp opMulT (eOp opMulT (eOp opIx (eVar 0) (eC (.int 0))) (eOp opIx (eVar 1) (eC (.int 1)))) (eIf (tBl (eOp opGt (eOp opIx (eVar 1) (eC (.int 0))) (eC (.int 0)))) (eC (.int 1)) (eUn opNeg (eC (.int 1))))) (aCons (eOp opMulT (eOp opIx (eVar 0) (eC (.int 1))) (eB bAbs (aCons (eOp opIx (eVar 1) (eC (.int 0))) (aNil)))) (aNil))))
def F__law_over : List Wt → Store → Res Wt := mkFn 2 2 b__law_over
def b__law_is_part : SM := sRet (eAnd (eB bIsi (aCons (eVar 0) (aCons (eC (.ty "tuple")) (aNil)))) (eAnd (eOp (opEq false) (eB bLen (aCons (eVar 0) (aNil))) (eC (.int 2))) (eAnd (eB F__law_whole (aCons (eOp opIx (eVar 0) (eC (.int 0))) (aNil))) (eAnd (eB F__law_whole (aCons (eOp opIx (eVar 0) (eC (.int 1))) (aNil))) (eAnd (eOp opGt (eOp opIx (eVar 0) (eC (.int 1))) (eC (.int 0))) (eOp (opEq false) (eB F__law_part_of (aCons (eOp opIx (eVar 0) (eC (.int 0))) (aCons (eOp opIx (eVar 0) (eC (.int 1))) (aNil)))) (eVar 0)))))))
def F__law_is_part : List Wt → Store → Res Wt := mkFn 1 1 b__law_is_part
def b__law_line_plus : SM := sRet (eB bTuple (aCons (eLc (iZipX (aCons (eVar 0) (aCons (eVar 1) (aNil)))) (gT 2 (gN1 (gN 3) (gN1 (gN 4) (gN0)))) (tYs) (eB F__law_plus (aCons (eVar 3) (aCons (eB F__law_times (aCons (eVar 2) (aCons (eVar 4) (aNil)))) (aNil)))) [3, 4]) (aNil)))
def F__law_line_plus : List Wt → Store → Res Wt := mkFn 3 5 b__law_line_plus
def b__law_alone : SM := sRet (eB bAll (aCons (eLc (iVal (eSl opSl (eVar 0) (oNone) (oSome (eUn opNeg (eC (.int 1)))))) (gN 1) (tYs) (eOp (opEq false) (eOp opIx (eVar 1) (eC (.int 0))) (eC (.int 0))) [1]) (aNil)))
def F__law_alone : List Wt → Store → Res Wt := mkFn 1 2 b__law_alone
def b__law_sign : SM := sRet (eOp opSubB (eOp opGt (eOp opIx (eVar 0) (eC (.int 0))) (eC (.int 0))) (eOp opLt (eOp opIx (eVar 0) (eC (.int 0))) (eC (.int 0))))
def F__law_sign : List Wt → Store → Res Wt := mkFn 1 1 b__law_sign
def b__law_as_line : SM := sRet (eB bTuple (aCons (eLc (iVal (eVar 0)) (gN 1) (tYs) (eTup (aCons (eVar 1) (aCons (eC (.int 1)) (aNil)))) [1]) (aNil)))
def F__law_as_line : List Wt → Store → Res Wt := mkFn 1 2 b__law_as_line
def b__law_without : SM := sSeq (sSet 2 (eLc (iVal (eVar 0)) (gN 3) (tAnd (tBl (eOp (opEq false) (eOp opIx (eVar 3) (eC (.int 1))) (eC (.str "=")))) (tBl (eOp (opEq true) (eOp opIx (eOp opIx (eOp opIx (eVar 3) (eC (.int 0))) (eVar 1)) (eC (.int 0))) (eC (.int 0))))) (eVar 3) [3]))
  (sSeq (sIf (tBl (eOp (opEq true) (eVar 2) (eLst (aNil))))
  (sSeq (sAsg (gT 3 (gN1 (gN 4) (gN1 (gN 5) (gN1 (gN 6) (gN0))))) (eOp opIx (eVar 2) (eC (.int 0))))
  (sSeq (sSet 7 (eLstL (aNil)))
  (sSeq (sFor (iVal (eVar 0)) (gN 3)
  (sIf (tBl (eOp (opEq true) (eVar 3) (eOp opIx (eVar 2) (eC (.int 0)))))
  (sSeq (sSet 8 (eB F__law_over (aCons (eTup (aCons (eOp opSubB (eC (.int 0)) (eOp opIx (eOp opIx (eOp opIx (eVar 3) (eC (.int 0))) (eVar 1)) (eC (.int 0)))) (aCons (eOp opIx (eOp opIx (eOp opIx (eVar 3) (eC (.int 0))) (eVar 1)) (eC (.int 1))) (aNil)))) (aCons (eOp opIx (eVar 4) (eVar 1)) (aNil)))))
  (sExpr (eM isLst mApp (eVar 7) (aCons (eTup (aCons (eB F__law_line_plus (aCons (eOp opIx (eVar 3) (eC (.int 0))) (aCons (eVar 4) (aCons (eVar 8) (aNil))))) (aCons (eOp opIx (eVar 3) (eC (.int 1))) (aCons (eB F__law_line_plus (aCons (eOp opIx (eVar 3) (eC (.int 2))) (aCons (eVar 6) (aCons (eVar 8) (aNil))))) (aNil))))) aNil))))
  (sNext)))
  (sRet (eVar 7)))))
  (sNext))
  (sSeq (sSet 7 (eLcL (iVal (eVar 0)) (gN 3) (tBl (eOp (opEq false) (eOp opIx (eOp opIx (eOp opIx (eVar 3) (eC (.int 0))) (eVar 1)) (eC (.int 0))) (eC (.int 0)))) (eVar 3) [3]))
  (sSeq (sFor (iVal (eLc (iVal (eVar 0)) (gN 3) (tBl (eOp opGt (eOp opIx (eOp opIx (eOp opIx (eVar 3) (eC (.int 0))) (eVar 1)) (eC (.int 0))) (eC (.int 0)))) (eVar 3) [3])) (gN 9)
  (sFor (iVal (eLc (iVal (eVar 0)) (gN 3) (tBl (eOp opLt (eOp opIx (eOp opIx (eOp opIx (eVar 3) (eC (.int 0))) (eVar 1)) (eC (.int 0))) (eC (.int 0)))) (eVar 3) [3])) (gN 10)
  (sSeq (sPar 8 5 (aCons (eB F__law_over (aCons (eOp opIx (eOp opIx (eVar 9) (eC (.int 0))) (eVar 1)) (aCons (eTup (aCons (eOp opSubB (eC (.int 0)) (eOp opIx (eOp opIx (eOp opIx (eVar 10) (eC (.int 0))) (eVar 1)) (eC (.int 0)))) (aCons (eOp opIx (eOp opIx (eOp opIx (eVar 10) (eC (.int 0))) (eVar 1)) (eC (.int 1))) (aNil)))) (aNil)))) (aCons (eIf (tBl (eOp (opIn false) (eC (.str "<")) (eTup (aCons (eOp opIx (eVar 9) (eC (.int 1))) (aCons (eOp opIx (eVar 10) (eC (.int 1))) (aNil)))))) (eC (.str "<")) (eC (.str "<="))) (aNil))))
  (sSeq (sSet 11 (eTup (aCons (eB F__law_line_plus (aCons (eOp opIx (eVar 9) (eC (.int 0))) (aCons (eOp opIx (eVar 10) (eC (.int 0))) (aCons (eVar 8) (aNil))))) (aCons (eVar 5) (aCons (eB F__law_line_plus (aCons (eOp opIx (eVar 9) (eC (.int 2))) (aCons (eOp opIx (eVar 10) (eC (.int 2))) (aCons (eVar 8) (aNil))))) (aNil))))))
  (sSeq (sSet 12 (eAnd (eB F__law_alone (aCons (eOp opIx (eVar 11) (eC (.int 0))) (aNil))) (eOr (eOp opLt (eOp opIx (eOp opIx (eOp opIx (eVar 11) (eC (.int 0))) (eUn opNeg (eC (.int 1)))) (eC (.int 0))) (eC (.int 0))) (eAnd (eOp (opEq false) (eOp opIx (eOp opIx (eOp opIx (eVar 11) (eC (.int 0))) (eUn opNeg (eC (.int 1)))) (eC (.int 0))) (eC (.int 0))) (eOp (opEq false) (eVar 5) (eC (.str "<=")))))))
  (sIf (tAnd (tNot (tTru (eVar 12))) (tNot (tTru (eB bAny (aCons (eLcK (eVar 7) (gN 13) (tYs) (eOp (opEq false) (eSl opSl (eVar 13) (oNone) (oSome (eC (.int 2)))) (eSl opSl (eVar 11) (oNone) (oSome (eC (.int 2))))) [13]) (aNil))))))
  (sExpr (eM isLst mApp (eVar 7) (aCons (eVar 11) aNil)))
  (sNext)))))))
  (sRet (eVar 7)))))
def F__law_without : List Wt → Store → Res Wt := mkFn 2 14 b__law_without
def b__law_as_rows : SM := sRet (eLc (iEnu (aCons (eVar 0) (aNil))) (gT 2 (gN1 (gN 2) (gN1 (gN 3) (gN0)))) (tYs) (eTup (aCons (eOp opIx (eVar 3) (eC (.int 0))) (aCons (eOp opIx (eVar 3) (eC (.int 1))) (aCons (eB bTuple (aCons (eLc (iRng1 (aCons (eB bLen (aCons (eVar 0) (aNil))) (aNil))) (gN 1) (tYs) (eTup (aCons (eB bInt (aCons (eOp (opEq false) (eVar 1) (eVar 2)) (aNil))) (aCons (eC (.int 1)) (aNil)))) [1]) (aNil))) (aNil))))) [2, 3])
def F__law_as_rows : List Wt → Store → Res Wt := mkFn 1 4 b__law_as_rows
def b__law_bars : SM := sSeq (sSet 2 (eB F__law_as_rows (aCons (eVar 0) (aNil))))
  (sSeq (sFor (iRng1 (aCons (eVar 1) (aNil))) (gN 3)
  (sSet 2 (eB F__law_without (aCons (eVar 2) (aCons (eVar 3) (aNil))))))
  (sSeq (sFor (iVal (eVar 2)) (gT 3 (gN1 (gN 4) (gN1 (gN 5) (gN1 (gN 6) (gN0)))))
  (sSeq (sSet 7 (eB F__law_sign (aCons (eOp opIx (eVar 4) (eUn opNeg (eC (.int 1)))) (aNil))))
  (sIf (tOr (tBl (eOp opGt (eVar 7) (eC (.int 0)))) (tOr (tAnd (tBl (eOp (opEq false) (eVar 7) (eC (.int 0)))) (tBl (eOp (opEq false) (eVar 5) (eC (.str "<"))))) (tAnd (tBl (eOp opLt (eVar 7) (eC (.int 0)))) (tBl (eOp (opEq false) (eVar 5) (eC (.str "=")))))))
  (sRet (eVar 6))
  (sNext))))
  (sRet (eC .non))))
def F__law_bars : List Wt → Store → Res Wt := mkFn 2 8 b__law_bars
def b__law_do_bar : SM := sSeq (sIf (tOr (tNot (tTru (eB bIsi (aCons (eVar 2) (aCons (eC (.ty "tuple")) (aNil)))))) (tOr (tBl (eOp (opEq true) (eB bLen (aCons (eVar 2) (aNil))) (eB bLen (aCons (eVar 0) (aNil))))) (tNot (tTru (eB bAll (aCons (eLc (iVal (eVar 2)) (gN 3) (tYs) (eB F__law_is_part (aCons (eVar 3) (aNil))) [3]) (aNil)))))))
  (sRet (eC (.bl false)))
  (sNext))
  (sSeq (sIf (tTru (eB bAny (aCons (eLc (iRng1 (aCons (eB bLen (aCons (eVar 0) (aNil))) (aNil))) (gN 4) (tYs) (eAnd (eOp opLt (eOp opIx (eOp opIx (eVar 2) (eVar 4)) (eC (.int 0))) (eC (.int 0))) (eOp (opEq true) (eOp opIx (eOp opIx (eVar 0) (eVar 4)) (eC (.int 1))) (eC (.str "=")))) [4]) (aNil))))
  (sRet (eC (.bl false)))
  (sNext))
  (sSeq (sSet 5 (eOp opMulT (eTup (aCons (eTup (aCons (eC (.int 0)) (aCons (eC (.int 1)) (aNil)))) (aNil))) (eOp opAdd (eVar 1) (eC (.int 1)))))
  (sSeq (sFor (iRng1 (aCons (eB bLen (aCons (eVar 0) (aNil))) (aNil))) (gN 4)
  (sSet 5 (eB F__law_line_plus (aCons (eVar 5) (aCons (eOp opIx (eOp opIx (eVar 0) (eVar 4)) (eC (.int 0))) (aCons (eOp opIx (eVar 2) (eVar 4)) (aNil)))))))
  (sSeq (sIf (tNot (tTru (eB F__law_alone (aCons (eVar 5) (aNil)))))
  (sRet (eC (.bl false)))
  (sNext))
  (sSeq (sSet 6 (eLc (iRng1 (aCons (eB bLen (aCons (eVar 0) (aNil))) (aNil))) (gN 4) (tBl (eOp (opEq true) (eOp opIx (eOp opIx (eVar 2) (eVar 4)) (eC (.int 0))) (eC (.int 0)))) (eOp opIx (eOp opIx (eVar 0) (eVar 4)) (eC (.int 1))) [4]))
  (sSeq (sSet 7 (eB F__law_sign (aCons (eOp opIx (eVar 5) (eUn opNeg (eC (.int 1)))) (aNil))))
  (sRet (eOr (eOp opGt (eVar 7) (eC (.int 0))) (eOr (eAnd (eOp (opEq false) (eVar 7) (eC (.int 0))) (eOp (opIn false) (eC (.str "<")) (eVar 6))) (eAnd (eOp (opEq true) (eVar 7) (eC (.int 0))) (eOp (opEq false) (eVar 6) (eOp opMulT (eLst (aCons (eC (.str "=")) (aNil))) (eB bLen (aCons (eVar 6) (aNil)))))))))))))))
def F__law_do_bar : List Wt → Store → Res Wt := mkFn 3 8 b__law_do_bar
def b__law_of : SM := sRet (eOp opIx (eVar 1) (eB F__law_take (aCons (eVar 0) (aCons (eB bLen (aCons (eVar 1) (aNil))) (aNil)))))
def F__law_of : List Wt → Store → Res Wt := mkFn 2 2 b__law_of
def b__law_drawn_rows : SM := sSeq (sSet 3 (eLstL (aNil)))
  (sSeq (sFor (iRng1 (aCons (eB F__law_take (aCons (eVar 0) (aCons (eOp opAdd (eVar 2) (eC (.int 1))) (aNil)))) (aNil))) (gN 4)
  (sSeq (sSet 5 (eOp opAdd (eLc (iRng1 (aCons (eVar 1) (aNil))) (gN 6) (tYs) (eOp opSubB (eB F__law_take (aCons (eVar 0) (aCons (eC (.int 5)) (aNil)))) (eC (.int 2))) [6]) (eLst (aCons (eOp opSubB (eB F__law_take (aCons (eVar 0) (aCons (eC (.int 7)) (aNil)))) (eC (.int 3))) (aNil)))))
  (sExpr (eM isLst mApp (eVar 3) (aCons (eTup (aCons (eB bTuple (aCons (eVar 5) (aNil))) (aCons (eB F__law_of (aCons (eVar 0) (aCons (eTup (aCons (eC (.str "<")) (aCons (eC (.str "<=")) (aCons (eC (.str "<=")) (aCons (eC (.str "=")) (aNil)))))) (aNil)))) (aNil)))) aNil)))))
  (sRet (eB bTuple (aCons (eVar 3) (aNil)))))
def F__law_drawn_rows : List Wt → Store → Res Wt := mkFn 3 7 b__law_drawn_rows
def b__law_rows_of : SM := sRet (eLc (iVal (eVar 0)) (gT 2 (gN1 (gN 1) (gN1 (gN 2) (gN0)))) (tYs) (eTup (aCons (eB F__law_as_line (aCons (eVar 1) (aNil))) (aCons (eVar 2) (aNil)))) [1, 2])
def F__law_rows_of : List Wt → Store → Res Wt := mkFn 1 3 b__law_rows_of
def b__law_near : SM := sSeq (sSet 2 (eLstL (aCons (eVar 1) (aCons (eB bTuple (aCons (eLc (iVal (eVar 1)) (gN 3) (tYs) (eB F__law_times (aCons (eTup (aCons (eC (.int 3)) (aCons (eC (.int 2)) (aNil)))) (aCons (eVar 3) (aNil)))) [3]) (aNil))) (aCons (eB bTuple (aCons (eLc (iVal (eVar 1)) (gN 3) (tYs) (eTup (aCons (eOp opSubB (eC (.int 0)) (eOp opIx (eVar 3) (eC (.int 0)))) (aCons (eOp opIx (eVar 3) (eC (.int 1))) (aNil)))) [3]) (aNil))) (aCons (eB bList (aCons (eVar 1) (aNil))) (aCons (eRev (eVar 1)) (aCons (eOp opAdd (eVar 1) (eTup (aCons (eTup (aCons (eC (.int 0)) (aCons (eC (.int 1)) (aNil)))) (aNil)))) (aNil)))))))))
  (sSeq (sSet 2 (eOp opCatL (eVar 2) (eLst (aCons (eSl opSl (eVar 1) (oSome (eC (.int 1))) (oNone)) (aCons (eOp opMulT (eTup (aCons (eTup (aCons (eC (.int 0)) (aCons (eC (.int 1)) (aNil)))) (aNil))) (eB bLen (aCons (eVar 1) (aNil)))) (aCons (eC .non) (aCons (eTup (aNil)) (aCons (eTup (aCons (eVar 1) (aNil))) (aNil)))))))))
  (sSeq (sIf (tBl (eOp (opEq true) (eVar 1) (eTup (aNil))))
  (sSeq (sSet 4 (eB F__law_take (aCons (eVar 0) (aCons (eB bLen (aCons (eVar 1) (aNil))) (aNil)))))
  (sSeq (sSet 5 (eOp opIx (eVar 1) (eVar 4)))
  (sSeq (sSet 6 (eLst (aCons (eB F__law_plus (aCons (eVar 5) (aCons (eTup (aCons (eC (.int 1)) (aCons (eC (.int 1)) (aNil)))) (aNil)))) (aCons (eB F__law_plus (aCons (eVar 5) (aCons (eTup (aCons (eUn opNeg (eC (.int 1))) (aCons (eC (.int 2)) (aNil)))) (aNil)))) (aCons (eTup (aCons (eC (.int 0)) (aCons (eC (.int 1)) (aNil)))) (aCons (eTup (aCons (eOp opSubB (eC (.int 0)) (eOp opIx (eVar 5) (eC (.int 0)))) (aCons (eOp opIx (eVar 5) (eC (.int 1))) (aNil)))) (aCons (eC .non) (aCons (eC (.int 1)) (aCons (eLst (aCons (eC (.int 1)) (aCons (eC (.int 1)) (aNil)))) (aCons (eTup (aCons (eOp opMulT (eC (.int 2)) (eOp opIx (eVar 5) (eC (.int 0)))) (aCons (eOp opMulT (eC (.int 2)) (eOp opIx (eVar 5) (eC (.int 1)))) (aNil)))) (aNil)))))))))))
  (sFor (iVal (eOp opAdd (eVar 6) (eLst (aCons (eTup (aCons (eOp opIx (eVar 5) (eC (.int 0))) (aCons (eOp opSubB (eC (.int 0)) (eOp opIx (eVar 5) (eC (.int 1)))) (aNil)))) (aCons (eTup (aCons (eOp opIx (eVar 5) (eC (.int 0))) (aCons (eOp opIx (eVar 5) (eC (.int 1))) (aCons (eC (.int 0)) (aNil))))) (aCons (eTup (aCons (eB bStr (aCons (eOp opIx (eVar 5) (eC (.int 0))) (aNil))) (aCons (eC (.int 1)) (aNil)))) (aCons (eTup (aCons (eC (.bl true)) (aCons (eC (.int 1)) (aNil)))) (aNil)))))))) (gN 7)
  (sExpr (eM isLst mApp (eVar 2) (aCons (eOp opAdd (eOp opAdd (eSl opSl (eVar 1) (oNone) (oSome (eVar 4))) (eTup (aCons (eVar 7) (aNil)))) (eSl opSl (eVar 1) (oSome (eOp opAdd (eVar 4) (eC (.int 1)))) (oNone))) aNil)))))))
  (sNext))
  (sRet (eOp opAdd (eVar 2) (eLst (aCons (eB bTuple (aCons (eLc (iVal (eVar 1)) (gN 3) (tYs) (eTup (aCons (eOp opSubB (eB F__law_take (aCons (eVar 0) (aCons (eC (.int 7)) (aNil)))) (eC (.int 2))) (aCons (eOp opAdd (eC (.int 1)) (eB F__law_take (aCons (eVar 0) (aCons (eC (.int 2)) (aNil))))) (aNil)))) [3]) (aNil))) (aNil)))))))
def F__law_near : List Wt → Store → Res Wt := mkFn 2 8 b__law_near
def b__law_right : SM := sSeq (sSet 3 (eB F__law_drawn_rows (aCons (eVar 0) (aCons (eVar 1) (aCons (eVar 2) (aNil))))))
  (sSeq (sSet 4 (eB F__law_bars (aCons (eB F__law_rows_of (aCons (eVar 3) (aNil))) (aCons (eVar 1) (aNil)))))
  (sSeq (sIf (tBl (eOp (opIs false) (eVar 4) (eC .non)))
  (sSeq (sSet 5 (eB bTuple (aCons (eLc (iRng1 (aCons (eOp opAdd (eVar 1) (eC (.int 1))) (aNil))) (gN 7) (tYs) (eOp opSubB (eC (.int 0)) (eB bSum (aCons (eLc (iVal (eVar 3)) (gN 6) (tBl (eOp (opEq true) (eOp opIx (eVar 6) (eC (.int 1))) (eC (.str "=")))) (eOp opIx (eOp opIx (eVar 6) (eC (.int 0))) (eVar 7)) [6]) (aNil)))) [7]) (aNil))))
  (sSeq (sSet 3 (eOp opAdd (eVar 3) (eTup (aCons (eTup (aCons (eOp opAdd (eSl opSl (eVar 5) (oNone) (oSome (eUn opNeg (eC (.int 1))))) (eTup (aCons (eOp opAdd (eOp opIx (eVar 5) (eUn opNeg (eC (.int 1)))) (eB F__law_take (aCons (eVar 0) (aCons (eC (.int 2)) (aNil))))) (aNil)))) (aCons (eC (.str "<")) (aNil)))) (aNil)))))
  (sSet 4 (eB F__law_bars (aCons (eB F__law_rows_of (aCons (eVar 3) (aNil))) (aCons (eVar 1) (aNil)))))))
  (sNext))
  (sSeq (sIf (tBl (eOp (opIs false) (eVar 4) (eC .non)))
  (sRet (eC (.bl false)))
  (sNext))
  (sSeq (sFor (iVal (eB F__law_near (aCons (eVar 0) (aCons (eVar 4) (aNil))))) (gN 8)
  (sSeq (sSet 9 (eB F__law_do_bar (aCons (eB F__law_rows_of (aCons (eVar 3) (aNil))) (aCons (eVar 1) (aCons (eVar 8) (aNil))))))
  (sIf (tNot (tTru (eB F__law_says (aCons (eIf (tBl (eOp (opEq false) (eB F__law_take (aCons (eVar 0) (aCons (eC (.int 2)) (aNil)))) (eC (.int 1)))) (eCK F_do_bar 0 3 [1, 2, 0] aNil (aCons (eVar 8) (aCons (eVar 3) (aCons (eVar 1) (aNil))))) (eB F_do_bar (aCons (eVar 3) (aCons (eVar 1) (aCons (eVar 8) (aNil)))))) (aCons (eVar 9) (aNil))))))
  (sRet (eC (.bl false)))
  (sNext))))
  (sRet (eOp (opIs false) (eB F_do_bar (aCons (eVar 3) (aCons (eVar 1) (aCons (eVar 4) (aNil))))) (eC (.bl true))))))))
def F__law_right : List Wt → Store → Res Wt := mkFn 3 10 b__law_right
def b_law : SM := sSeq (sFor (iRng1 (aCons (eB bMax (aCons (eC (.int 2)) (aCons (eB bMin (aCons (eB bLen (aCons (eVar 0) (aNil))) (aCons (eC (.int 4)) (aNil)))) (aNil)))) (aNil))) (gN 1)
  (sSeq (sSet 2 (eB F__law_well (aCons (eVar 0) (aCons (eVar 1) (aNil)))))
  (sFor (iRng1 (aCons (eC (.int 4)) (aNil))) (gN 3)
  (sFor (iVal (eTup (aCons (eTup (aCons (eC (.int 0)) (aCons (eC (.int 3)) (aNil)))) (aCons (eTup (aCons (eC (.int 1)) (aCons (eC (.int 4)) (aNil)))) (aCons (eTup (aCons (eC (.int 2)) (aCons (eC (.int 4)) (aNil)))) (aCons (eTup (aCons (eC (.int 3)) (aCons (eC (.int 4)) (aNil)))) (aNil))))))) (gT 2 (gN1 (gN 4) (gN1 (gN 5) (gN0))))
  (sIf (tNot (tTru (eB F__law_right (aCons (eVar 2) (aCons (eVar 4) (aCons (eVar 5) (aNil)))))))
  (sRet (eC (.bl false)))
  (sNext))))))
  (sSeq (sAsg (gT 2 (gN1 (gN 6) (gN1 (gN 7) (gN0)))) (eTup (aCons (eTup (aCons (eTup (aCons (eTup (aCons (eC (.int 1)) (aCons (eUn opNeg (eC (.int 1))) (aNil)))) (aCons (eC (.str "=")) (aNil)))) (aCons (eTup (aCons (eTup (aCons (eUn opNeg (eC (.int 1))) (aCons (eC (.int 2)) (aNil)))) (aCons (eC (.str "=")) (aNil)))) (aNil)))) (aCons (eTup (aCons (eTup (aCons (eTup (aCons (eC (.int 1)) (aCons (eUn opNeg (eC (.int 1))) (aNil)))) (aCons (eC (.str "<=")) (aNil)))) (aCons (eTup (aCons (eTup (aCons (eUn opNeg (eC (.int 1))) (aCons (eC (.int 1)) (aNil)))) (aCons (eC (.str "<")) (aNil)))) (aNil)))) (aNil)))))
  (sSeq (sSet 8 (eLst (aCons (eB F_do_bar (aCons (eVar 6) (aCons (eC (.int 1)) (aCons (eTup (aCons (eTup (aCons (eC (.int 1)) (aCons (eC (.int 1)) (aNil)))) (aCons (eTup (aCons (eC (.int 1)) (aCons (eC (.int 1)) (aNil)))) (aNil)))) (aNil))))) (aCons (eB F_do_bar (aCons (eVar 6) (aCons (eC (.int 1)) (aCons (eTup (aCons (eTup (aCons (eUn opNeg (eC (.int 1))) (aCons (eC (.int 1)) (aNil)))) (aCons (eTup (aCons (eUn opNeg (eC (.int 1))) (aCons (eC (.int 1)) (aNil)))) (aNil)))) (aNil))))) (aCons (eB F_do_bar (aCons (eVar 7) (aCons (eC (.int 1)) (aCons (eTup (aCons (eTup (aCons (eC (.int 1)) (aCons (eC (.int 1)) (aNil)))) (aCons (eTup (aCons (eC (.int 1)) (aCons (eC (.int 1)) (aNil)))) (aNil)))) (aNil))))) (aCons (eB F_do_bar (aCons (eVar 7) (aCons (eC (.int 1)) (aCons (eTup (aCons (eTup (aCons (eC (.int 1)) (aCons (eC (.int 1)) (aNil)))) (aCons (eTup (aCons (eC (.int 2)) (aCons (eC (.int 1)) (aNil)))) (aNil)))) (aNil))))) (aNil)))))))
  (sSeq (sSet 8 (eOp opAdd (eVar 8) (eLst (aCons (eB F_do_bar (aCons (eTup (aCons (eTup (aCons (eTup (aCons (eC (.int 0)) (aCons (eC (.int 0)) (aNil)))) (aCons (eC (.str "<=")) (aNil)))) (aNil))) (aCons (eC (.int 1)) (aCons (eTup (aCons (eTup (aCons (eC (.int 1)) (aCons (eC (.int 1)) (aNil)))) (aNil))) (aNil))))) (aCons (eB F_do_bar (aCons (eTup (aCons (eTup (aCons (eTup (aCons (eC (.int 0)) (aCons (eC (.int 0)) (aNil)))) (aCons (eC (.str "<")) (aNil)))) (aNil))) (aCons (eC (.int 1)) (aCons (eTup (aCons (eTup (aCons (eC (.int 0)) (aCons (eC (.int 1)) (aNil)))) (aNil))) (aNil))))) (aNil))))))
  (sRet (eOp (opEq false) (eVar 8) (eLst (aCons (eC (.bl true)) (aCons (eC (.bl true)) (aCons (eC (.bl true)) (aCons (eC (.bl false)) (aCons (eC (.bl false)) (aCons (eC (.bl false)) (aNil)))))))))))))
def F_law : List Wt → Store → Res Wt := mkFn 1 9 b_law
end K42
end
section
/-! the well of numbers -/
namespace Y
open PySem PySem.Spec PyProof.Rows L2
theorem mulOk_of {i j : Int} (h : i.natAbs.log2 ≤ 50000000) (h' : j.natAbs.log2 ≤ 50000000) : mulOk i j = true := by
  unfold mulOk
  exact decide_eq_true (by omega)
theorem log_small {i : Int} (h : i.natAbs ≤ 50000000) : i.natAbs.log2 ≤ 50000000 := Nat.le_trans (Nat.log2_le_self _) h
theorem log_lt {n m : Nat} (h : n < 2 ^ m) (hm : m ≤ 50000000) : n.log2 ≤ 50000000 := by
  by_cases e : n = 0
  · subst e; simp
  · have := (Nat.log2_lt e).mpr h
    omega
theorem mulOk_c {i j : Int} (h : i.natAbs ≤ 50000000) (h' : j.natAbs ≤ 50000000) : mulOk i j = true := mulOk_of (log_small h) (log_small h')
@[simp] theorem fin_new {S : Store} {c : Cell} : finish S.length (.rt (.loc S.length) (S ++ [c])) = .ok (.loc S.length) (S ++ [c]) := by simp [finish]
/-- g: how many turns the stirring may have had -/
def WellOk (g : Nat) (a b c : Int) : Prop := 0 ≤ a ∧ 0 ≤ b ∧ b < 2147483647 ∧ 0 ≤ c ∧ c ≤ g
/-- the n-th cell is a well -/
def Pl (g n : Nat) (S : Store) : Prop := ∃ a b c, S[n]? = some (.lst [.int a, .int b, .int c]) ∧ WellOk g a b c
/-- only the well has moved -/
def Mv (g n : Nat) (S S' : Store) : Prop := ∃ a b c, S' = S.set n (.lst [.int a, .int b, .int c]) ∧ WellOk g a b c ∧ n < S.length
theorem WellOk.mono {g g' : Nat} {a b c : Int} (h : WellOk g a b c) (hg : g ≤ g') : WellOk g' a b c := by
  obtain ⟨h1, h2, h3, h4, h5⟩ := h
  exact ⟨h1, h2, h3, h4, by omega⟩
theorem Pl.mono {g g' n : Nat} {S : Store} (h : Pl g n S) (hg : g ≤ g') : Pl g' n S := by
  obtain ⟨a, b, c, e, p⟩ := h
  exact ⟨a, b, c, e, p.mono hg⟩
theorem Mv.mono {g g' n : Nat} {S S' : Store} (h : Mv g n S S') (hg : g ≤ g') : Mv g' n S S' := by
  obtain ⟨a, b, c, e, p, q⟩ := h
  exact ⟨a, b, c, e, p.mono hg, q⟩
theorem Mv.pl {g n : Nat} {S S' : Store} (h : Mv g n S S') : Pl g n S' := by
  obtain ⟨a, b, c, rfl, p, hn⟩ := h
  exact ⟨a, b, c, by rw [List.getElem?_set_self hn], p⟩
theorem Pl.mv {g n : Nat} {S : Store} (h : Pl g n S) : Mv g n S S := by
  obtain ⟨a, b, c, e, p⟩ := h
  obtain ⟨hn, e2⟩ := List.getElem?_eq_some_iff.mp e
  refine ⟨a, b, c, ?_, p, hn⟩
  rw [← e2, List.set_getElem_self]
theorem Mv.trans {g g' n : Nat} {S S' S'' : Store} (h : Mv g n S S') (k : Mv g' n S' S'') : Mv g' n S S'' := by
  obtain ⟨a, b, c, rfl, p, hn⟩ := h
  obtain ⟨a', b', c', rfl, q, _⟩ := k
  exact ⟨a', b', c', by rw [List.set_set], q, hn⟩
theorem Mv.length {g n : Nat} {S S' : Store} (h : Mv g n S S') : S'.length = S.length := by
  obtain ⟨a, b, c, rfl, _⟩ := h
  simp
theorem Mv.app {g n : Nat} {S S' T : Store} (h : Mv g n S S') : Mv g n (S ++ T) (S' ++ T) := by
  obtain ⟨a, b, c, rfl, p, hn⟩ := h
  exact ⟨a, b, c, by rw [List.set_append_left _ _ hn], p, by rw [List.length_append]; omega⟩
theorem Pl.app {g n : Nat} {S T : Store} (h : Pl g n S) : Pl g n (S ++ T) := by
  obtain ⟨a, b, c, e, p⟩ := h
  exact ⟨a, b, c, by rw [List.getElem?_append_left (List.getElem?_eq_some_iff.mp e).1]; exact e, p⟩
theorem Pl.lt {g n : Nat} {S : Store} (h : Pl g n S) : n < S.length := by
  obtain ⟨a, b, c, e, p⟩ := h
  exact (List.getElem?_eq_some_iff.mp e).1
theorem Mv.back {g n : Nat} {S S' T : Store} (h : Mv g n (S ++ T) S') (hn : n < S.length) : ∃ S1, S' = S1 ++ T ∧ Mv g n S S1 := by
  obtain ⟨a, b, c, rfl, p, _⟩ := h
  exact ⟨S.set n (.lst [.int a, .int b, .int c]), by rw [List.set_append_left _ _ hn], a, b, c, rfl, p, hn⟩
theorem fmod_range {a m : Int} (h : 0 < m) : 0 ≤ a.fmod m ∧ a.fmod m < m := by
  rw [Int.fmod_eq_emod_of_nonneg _ (Int.le_of_lt h)]
  exact ⟨Int.emod_nonneg _ (by omega), Int.emod_lt_of_pos _ h⟩
theorem fdiv_nonneg {a m : Int} (ha : 0 ≤ a) (h : 0 < m) : 0 ≤ a.fdiv m := by
  rw [Int.fdiv_eq_ediv_of_nonneg _ (Int.le_of_lt h)]
  exact Int.ediv_nonneg ha (Int.le_of_lt h)
theorem atIn {α : Type} {l : List α} {k : Nat} : atI l (k : Int) = l[k]? := by
  unfold atI ixN
  by_cases h : k < l.length
  · rw [if_pos (by omega), if_pos (by omega)]; rfl
  · rw [if_pos (by omega), if_neg (by omega), List.getElem?_eq_none (by omega)]; rfl
@[simp] theorem atI_0 {α : Type} {a : α} {l : List α} : atI (a :: l) 0 = some a := by
  have := atIn (l := a :: l) (k := 0)
  simpa using this
@[simp] theorem atI_1 {α : Type} {a b : α} {l : List α} : atI (a :: b :: l) 1 = some b := by
  have := atIn (l := a :: b :: l) (k := 1)
  simpa using this
@[simp] theorem atI_2 {α : Type} {a b c : α} {l : List α} : atI (a :: b :: c :: l) 2 = some c := by
  have := atIn (l := a :: b :: c :: l) (k := 2)
  simpa using this
theorem divmod_int {k m : Int} {S : Store} (h : 0 < m) (h2 : m.natAbs.log2 < 9000) : bDivmod [.d (.int k), .d (.int m)] S = .ok (.d (.tup [.int (k / m), .int (k % m)])) S := if_pos ⟨h, h2⟩
theorem pow_int {k m : Int} {S : Store} (h : 0 ≤ m) (h1 : m ≤ 1000000) (h2 : k.natAbs < 2 ^ 64) : opPow (.d (.int k)) (.d (.int m)) S = .ok (.d (.int (k ^ m.toNat))) S := if_pos ⟨h, h1, h2⟩
@[simp] theorem sl_fls {l : List D} {lo hi : Option Int} {S : Store} : opSl (.d (.fls l)) lo hi S = .ok (.d (.lst (Y.cutD l lo hi))) S := id rfl
/-- .. with what is left told to the invariant -/
theorem lc_runN {g : GM} {t : TM} {e : EM} {σw : Ev} {n : Nat} (I : Nat → Store → Prop) (P : D → Prop) : ∀ (ds acc : List D) (S : Store), S.length = n → I ds.length S → (∀ d ∈ ds, ∀ k acc' S, S.length = n → I (k + 1) S → ∃ σ2 y S' J, g (.d d) σw (S ++ [.lst acc']) = .ok σ2 (S ++ [.lst acc']) ∧ t σ2 (S ++ [.lst acc']) = .ok true (S ++ [.lst acc']) ∧ e σ2 (S ++ [.lst acc']) = .ok (.d y) (S' ++ .lst acc' :: J) ∧ S'.length = n ∧ I k S' ∧ P y) →
    acc.length + ds.length ≤ lim → ∃ ys S', lcN g t e σw n ds (S ++ [.lst acc]) = some (S' ++ [.lst (acc ++ ys)]) ∧ S'.length = n ∧ I 0 S' ∧ ys.length = ds.length ∧ ∀ y ∈ ys, P y
  | [], acc, S, hn, hI, _, _ => ⟨[], S, by simp [lcN], hn, hI, rfl, fun _ h => nomatch h⟩
  | d :: ds, acc, S, hn, hI, hd, hl => by
    obtain ⟨σ2, y, S', J, h1, h2, h3, h4, h5, h6⟩ := hd d (List.mem_cons_self ..) _ acc S hn hI
    rw [List.length_cons] at hl
    obtain ⟨ys, S2, e2, q1, q2, q3, q4⟩ := lc_runN I P ds (acc ++ [y]) S' h4 h5 (fun x hx => hd x (List.mem_cons_of_mem _ hx)) (by rw [List.length_append, List.length_singleton]; omega)
    refine ⟨y :: ys, S2, ?_, q1, q2, by simp [q3], fun z hz => ?_⟩
    · rw [lcN_keep h4 h1 h2 h3 (by omega), e2]
      simp
    · rcases List.mem_cons.mp hz with rfl | hz
      · exact h6
      · exact q4 z hz
theorem eLc_runN {g : GM} {t : TM} {e : EM} {w : IM} {vs : List Nat} {σ : Ev} {S0 S : Store} {ds : List D} (I : Nat → Store → Prop) (P : D → Prop) (hw : w σ S0 = .ok ds S) (hI : I ds.length S) (hl : ds.length ≤ lim)
    (hd : ∀ d ∈ ds, ∀ k acc' S', S'.length = S.length → I (k + 1) S' → ∃ σ2 y S'' J, g (.d d) (wipeD σ vs) (S' ++ [.lst acc']) = .ok σ2 (S' ++ [.lst acc']) ∧ t σ2 (S' ++ [.lst acc']) = .ok true (S' ++ [.lst acc']) ∧ e σ2 (S' ++ [.lst acc']) = .ok (.d y) (S'' ++ .lst acc' :: J) ∧ S''.length = S.length ∧ I k S'' ∧ P y) :
    ∃ ys S', eLc w g t e vs σ S0 = .ok (.d (.lst ys)) S' ∧ S'.length = S.length ∧ I 0 S' ∧ ys.length = ds.length ∧ ∀ y ∈ ys, P y := by
  obtain ⟨ys, S', e2, q1, q2, q3, q4⟩ := lc_runN I P ds [] S rfl hI hd (by simpa using hl)
  refine ⟨ys, S', ?_, q1, q2, q3, q4⟩
  show (w σ S0).bind _ = _
  rw [hw, ok_bind, e2]
  simp [optS, finV, ← q1]
end Y
namespace K42
open PySem PySem.Spec PyProof.Rows L2 Y
theorem take_loop {n : Nat} {many a : Int} (h1 : 1 ≤ many) (h2 : many ≤ 65536) (b0 : Nat) : ∀ (j : Nat) (N : Nat) (S : Store) (g : Nat) (b c told R : Int), j + 1 ≤ N → S[n]? = some (.lst [.int a, .int b, .int c]) → 0 ≤ b → b < 2147483647 → 0 ≤ c → c ≤ g → g + j ≤ 1000000 → 0 ≤ told → told < R → R ≤ 2 ^ 48 → 2 ^ 32 ≤ R * 2 ^ (16 * j) →
    ∃ b' c' told' reach : Int, 0 ≤ b' ∧ b' < 2147483647 ∧ 0 ≤ c' ∧ c' ≤ (g + j : Nat) ∧ 0 ≤ told' ∧ whileN (tBl (eOp opLt (eVar 3) (eOp opMulT (eC (.int 65536)) (eVar 1))))
  (sSeq (sAsg (gSb (eVar 0) (eC (.int 2))) (eOp opAdd (eOp opIx (eVar 0) (eC (.int 2))) (eC (.int 1))))
  (sSeq (sAsg (gSb (eVar 0) (eC (.int 1))) (eOp opMod (eB bInt (aCons (eOp opAdd (eOp opAdd (eOp opMulT (eOp opIx (eVar 0) (eC (.int 1))) (eC (.int 69621))) (eOp opMulT (eOp opIx (eVar 0) (eC (.int 2))) (eC (.int 40692)))) (eC (.int 5))) (aNil))) (eC (.int 2147483629))))
  (sPar 2 3 (aCons (eOp opAdd (eOp opMulT (eVar 2) (eC (.int 65536))) (eOp opMod (eB bInt (aCons (eOp opFdiv (eOp opIx (eVar 0) (eC (.int 1))) (eC (.int 64))) (aNil))) (eC (.int 65536)))) (aCons (eOp opMulT (eVar 3) (eC (.int 65536))) (aNil)))))) N b0 [some (.loc n), some (.d (.int many)), some (.d (.int told)), some (.d (.int R))] S = .nx [some (.loc n), some (.d (.int many)), some (.d (.int told')), some (.d (.int reach))] (S.set n (.lst [.int a, .int b', .int c'])) := by
  have m0 : mulOk 65536 many = true := mulOk_c (by decide) (by omega)
  intro j
  induction j with
  | zero =>
    intro N S g b c told R hN e pb pb2 pc pc2 hg ht ht2 hR hR2
    have hs : S.set n (.lst [.int a, .int b, .int c]) = S := by rw [← (List.getElem?_eq_some_iff.mp e).2, List.set_getElem_self]
    refine ⟨b, c, told, R, pb, pb2, pc, by omega, ht, ?_⟩
    rw [while_turn (by omega), hs]
    have hc : ¬ R < 65536 * many := by omega
    simp [m0, hc]
  | succ j ih =>
    intro N S g b c told R hN e pb pb2 pc pc2 hg ht ht2 hR hR2
    have hn := (List.getElem?_eq_some_iff.mp e).1
    by_cases hc : R < 65536 * many
    · have e1 : ixN 3 1 = some 1 := by decide
      have e2 : ixN 3 2 = some 2 := by decide
      obtain ⟨f1, f2⟩ := fmod_range (a := b * 69621 + (c + 1) * 40692 + 5) (m := 2147483629) (by decide)
      generalize hb' : (b * 69621 + (c + 1) * 40692 + 5).fmod 2147483629 = b1 at f1 f2
      obtain ⟨d1, d2⟩ := fmod_range (a := b1.fdiv 64) (m := 65536) (by decide)
      generalize hd' : (b1.fdiv 64).fmod 65536 = x1 at d1 d2
      have e' : (S.set n (.lst [.int a, .int b, .int (c + 1)]))[n]? = some (.lst [.int a, .int b, .int (c + 1)]) := List.getElem?_set_self hn
      have e'' : ((S.set n (.lst [.int a, .int b, .int (c + 1)])).set n (.lst [.int a, .int b1, .int (c + 1)]))[n]? = some (.lst [.int a, .int b1, .int (c + 1)]) := List.getElem?_set_self (by simpa using hn)
      have e3 : (S.set n (.lst [.int a, .int b1, .int (c + 1)]))[n]? = some (.lst [.int a, .int b1, .int (c + 1)]) := List.getElem?_set_self hn
      obtain ⟨b', c', told', reach, q1, q2, q3, q4, q5, q6⟩ := ih (N - 1) _ (g + 1) b1 (c + 1) (told * 65536 + x1) (R * 65536) (by omega) e'' f1 (by omega) (by omega) (by omega) (by omega) (by omega) (by omega) (by omega) (by
        have : R * 65536 * 2 ^ (16 * j) = R * 2 ^ (16 * (j + 1)) := by
          rw [show 16 * (j + 1) = 16 + 16 * j by omega, Int.pow_add, ← Int.mul_assoc]
          rfl
        omega)
      refine ⟨b', c', told', reach, q1, q2, q3, by omega, q5, ?_⟩
      rw [List.set_set, List.set_set] at q6
      have m1 : mulOk b 69621 = true := mulOk_of (log_lt (m := 64) (by omega) (by omega)) (by decide)
      have m2 : mulOk told 65536 = true := mulOk_of (log_lt (m := 80) (by omega) (by omega)) (by decide)
      have m3 : mulOk R 65536 = true := mulOk_of (log_lt (m := 81) (by omega) (by omega)) (by decide)
      have m4 : mulOk (c + 1) 40692 = true := mulOk_of (log_lt (m := 64) (by omega) (by omega)) (by decide)
      have l1 : Nat.log2 64 < 9000 := by decide
      rw [while_turn (by omega), ← q6]
      simp [l1, m0, m1, m2, m3, m4, hc, ix_loc e, hb', hd', set_loc (k := 2) e e2, ix_loc e', set_loc (k := 1) e' e1, ix_loc e3]
    · have hs : S.set n (.lst [.int a, .int b, .int c]) = S := by rw [← (List.getElem?_eq_some_iff.mp e).2, List.set_getElem_self]
      refine ⟨b, c, told, R, pb, pb2, pc, by omega, ht, ?_⟩
      rw [while_turn (by omega), hs]
      simp [m0, hc]
theorem take_ok {g n : Nat} {S : Store} (hp : Pl g n S) (hg : g ≤ 900000) {many : Int} (h1 : 1 ≤ many) (h2 : many ≤ 65536) :
    ∃ r S', F__law_take [.loc n, .d (.int many)] S = .ok (.d (.int r)) S' ∧ Mv (g + 2) n S S' ∧ 0 ≤ r ∧ r < many := by
  obtain ⟨a, b, c, e, pa, pb, pb2, pc, pc2⟩ := hp
  have hn := (List.getElem?_eq_some_iff.mp e).1
  have hl : many.natAbs.log2 < 9000 := by
    have := (Nat.log2_lt (n := many.natAbs) (k := 26) (by omega)).mpr (by omega)
    omega
  have hne : many ≠ 0 := by omega
  unfold F__law_take b__law_take
  by_cases ha : a > 0
  · refine ⟨_, S.set n (.lst [.int (a / many), .int b, .int c]), ?_, ⟨_, _, _, rfl, ⟨Int.ediv_nonneg pa (by omega), pb, pb2, pc, by omega⟩, hn⟩, Int.emod_nonneg a hne, Int.emod_lt_of_pos a (by omega)⟩
    have e0 : ixN 3 0 = some 0 := by decide
    simp [mkFn_eq, ix_loc e, ha, divmod_int (k := a) (m := many) (by omega) hl, set_loc (k := 0) e e0]
  · obtain ⟨b', c', told', R, q1, q2, q3, q4, q5, q6⟩ := take_loop h1 h2 S.length 2 fuelW S g b c 0 1 (by decide) e pb pb2 pc pc2 (by omega) (by decide) (by decide) (by decide) (by decide)
    obtain ⟨f1, f2⟩ := fmod_range (a := told') (m := many) (by omega)
    refine ⟨_, S.set n (.lst [.int a, .int b', .int c']), ?_, ⟨_, _, _, rfl, ⟨pa, q1, q2, q3, q4⟩, hn⟩, f1, f2⟩
    simp [mkFn_eq, ix_loc e, ha, q6, hne]
theorem of_ok {g n : Nat} {S : Store} (hp : Pl g n S) (hg : g ≤ 900000) {l : List D} (h1 : l ≠ []) (h2 : l.length ≤ 65536) :
    ∃ d ∈ l, ∃ S', F__law_of [.loc n, .d (.tup l)] S = .ok (.d d) S' ∧ Mv (g + 2) n S S' := by
  have hl : 0 < l.length := List.length_pos_iff.mpr h1
  obtain ⟨r, S', e, mv, r1, r2⟩ := take_ok hp hg (many := l.length) (by omega) (by omega)
  have hr : r.toNat < l.length := by omega
  refine ⟨l[r.toNat], List.getElem_mem hr, S', ?_, mv⟩
  have : atI l r = some l[r.toNat] := by
    have := atIn (l := l) (k := r.toNat)
    rw [show ((r.toNat : Nat) : Int) = r by omega] at this
    rw [this, List.getElem?_eq_getElem hr]
  unfold F__law_of b__law_of
  simp [mkFn_eq, e, this, ← mv.length]
theorem well_ok {ns : List Int} (hn : ns.length ≤ 63) (k : Nat) (hk : k ≤ 100) (S : Store) :
    ∃ a b, WellOk 0 a b 0 ∧ F__law_well [scr ns, .d (.int k)] S = .ok (.loc S.length) (S ++ [.lst [.int a, .int b, .int 0]]) := by
  have m1 : mulOk 104729 k = true := mulOk_c (by decide) (by omega)
  have rd : ∀ (w : Int) (x : Option Wt) (ds : List D) (t : Int) (v : Option Wt) (S0 : Store), (∀ d ∈ ds, ∃ i : Int, d = .int i) → 0 ≤ t → t < 2147483647 → ∃ t' v', 0 ≤ t' ∧ t' < 2147483647 ∧
      forN (gN 4) (sSet 3 (eOp opMod (eB bInt (aCons (eOp opAdd (eOp opAdd (eOp opMulT (eVar 3) (eC (.int 48271))) (eOp opMod (eB bInt (aCons (eVar 4) (aNil))) (eC (.int 2147483629)))) (eC (.int 17))) (aNil))) (eC (.int 2147483647)))) ds S.length [some (scr ns), x, some (.d (.int w)), some (.d (.int t)), v] S0
        = .nx [some (scr ns), x, some (.d (.int w)), some (.d (.int t')), v'] S0 := by
    intro w x ds
    induction ds with
    | nil => exact fun t v S0 _ h1 h2 => ⟨t, v, h1, h2, rfl⟩
    | cons d ds ih =>
      intro t v S0 hd h1 h2
      obtain ⟨i, rfl⟩ := hd d (List.mem_cons_self ..)
      obtain ⟨f1, f2⟩ := fmod_range (a := t * 48271 + i.fmod 2147483629 + 17) (m := 2147483647) (by decide)
      obtain ⟨t', v', q1, q2, q3⟩ := ih ((t * 48271 + i.fmod 2147483629 + 17).fmod 2147483647) (some (.d (.int i))) S0 (fun d h => hd d (List.mem_cons_of_mem _ h)) f1 f2
      refine ⟨t', v', q1, q2, ?_⟩
      have m2 : mulOk t 48271 = true := mulOk_of (log_lt (m := 64) (by omega) (by omega)) (by decide)
      rw [← q3]
      simp [forN, m2]
  have key : ∀ own : Int, ∃ a b, WellOk 0 a b 0 ∧ finish S.length ((sSeq (sSet 3 (eOp opAdd (eC (.int 7919)) (eOp opMulT (eC (.int 104729)) (eVar 1))))
  (sSeq (sFor (iVal (eOp opAdd (eSl opSl (eVar 0) (oNone) (oSome (eC (.int 6)))) (eLst (aCons (eVar 2) (aNil))))) (gN 4)
  (sSet 3 (eOp opMod (eB bInt (aCons (eOp opAdd (eOp opAdd (eOp opMulT (eVar 3) (eC (.int 48271))) (eOp opMod (eB bInt (aCons (eVar 4) (aNil))) (eC (.int 2147483629)))) (eC (.int 17))) (aNil))) (eC (.int 2147483647)))))
  (sRet (eLstL (aCons (eIf (tOr (tBl (eOp opLt (eVar 2) (eC (.int 0)))) (tBl (eOp opGe (eVar 2) (eOp opPow (eC (.int 10)) (eC (.int 18)))))) (eB bAbs (aCons (eVar 2) (aNil))) (eC (.int 0))) (aCons (eVar 3) (aCons (eC (.int 0)) (aNil)))))))) S.length [some (scr ns), some (.d (.int k)), some (.d (.int own)), none, none] S) = .ok (.loc S.length) (S ++ [.lst [.int a, .int b, .int 0]]) := by
    intro own
    have mem : ∀ d ∈ Y.cutD (ns.map D.int) none (some 6) ++ [D.int own], ∃ i : Int, d = .int i := fun d hd => by
      rcases List.mem_append.mp hd with h | h
      · obtain ⟨i, _, rfl⟩ := List.mem_map.mp (List.mem_of_mem_drop (List.mem_of_mem_take h))
        exact ⟨i, rfl⟩
      · exact ⟨own, List.mem_singleton.mp h⟩
    have ll : (Y.cutD (ns.map D.int) none (some 6)).length ≤ 63 := by
      unfold Y.cutD
      rw [List.length_take, List.length_drop, List.length_map]
      omega
    obtain ⟨t', v', q1, q2, q3⟩ := rd own (some (.d (.int k))) _ (7919 + 104729 * k) none S mem (by omega) (by omega)
    have ll2 : (Y.cutD (ns.map D.int) none (some 6)).length ≤ 9999999 := by omega
    simp only [scr] at q3
    have p18 : ∀ S, opPow (.d (.int 10)) (.d (.int 18)) S = .ok (.d (.int (10 ^ 18))) S := fun S => pow_int (by decide) (by decide) (by decide)
    by_cases h : own < 0 ∨ own ≥ 10 ^ 18
    · refine ⟨if own < 0 then -own else own, t', ⟨by split <;> omega, q1, q2, by decide, by decide⟩, ?_⟩
      rcases h with h | h
      · simp [scr, m1, itemsOf, q3, h, p18, ll2]
      · have h' : ¬ own < 0 := by omega
        have h3 : (1000000000000000000 : Int) ≤ own := by omega
        simp [scr, m1, itemsOf, q3, h3, h', p18, ll2]
    · have h' : ¬ own < 0 := by omega
      have h2 : ¬ (1000000000000000000 : Int) ≤ own := by omega
      exact ⟨0, t', ⟨by decide, q1, q2, by decide, by decide⟩, by simp [scr, m1, itemsOf, q3, h2, h', p18, ll2]⟩
  unfold F__law_well b__law_well
  by_cases h : k < ns.length
  · obtain ⟨a, b, p, e⟩ := key ns[k]
    refine ⟨a, b, p, ?_⟩
    rw [← e]
    simp [mkFn_eq, scr, m1, h, atIn]
  · obtain ⟨a, b, p, e⟩ := key 0
    refine ⟨a, b, p, ?_⟩
    rw [← e]
    simp [mkFn_eq, scr, m1, h]
end K42
end
section
/-! taking numbers away, in plain rationals -/
namespace K42
abbrev Fr := Int × Int
/-- in least terms -/
def nrm (p q : Int) : Int × Int := (p.fdiv (Nat.gcd p.natAbs q.natAbs : Nat), q.fdiv (Nat.gcd p.natAbs q.natAbs : Nat))
def plF (a b : Int × Int) : Int × Int := nrm (a.1 * b.2 + b.1 * a.2) (a.2 * b.2)
def tmF (a b : Int × Int) : Int × Int := nrm (a.1 * b.1) (a.2 * b.2)
def sgn1 (x : Int) : Int := if x > 0 then 1 else -1
def ovF (a b : Int × Int) : Int × Int := nrm (a.1 * b.2 * sgn1 b.1) (a.2 * (b.1.natAbs : Int))
def ngF (a : Int × Int) : Int × Int := (0 - a.1, a.2)
/-- its worth -/
def vl (p : Fr) : Rat := (p.1 : Rat) / (p.2 : Rat)
theorem fdiv_parts {p : Int} {g : Nat} (hg : 0 < g) (h : g ∣ p.natAbs) : ∃ c : Int, p = g * c ∧ p.fdiv (g : Int) = c := by
  obtain ⟨c, rfl⟩ := Int.ofNat_dvd_left.mpr h
  exact ⟨c, rfl, by rw [Int.fdiv_eq_ediv_of_nonneg _ (by omega), Int.mul_ediv_cancel_left _ (by omega)]⟩
theorem nrm_parts {p q : Int} (hq : 0 < q) : ∃ (g : Nat) (a b : Int), 0 < g ∧ p = g * a ∧ q = g * b ∧ 0 < b ∧ nrm p q = (a, b) ∧ g = Nat.gcd p.natAbs q.natAbs := by
  have hg : 0 < Nat.gcd p.natAbs q.natAbs := Nat.gcd_pos_of_pos_right _ (by omega)
  obtain ⟨a, e1, e2⟩ := fdiv_parts hg (Nat.gcd_dvd_left p.natAbs q.natAbs)
  obtain ⟨b, e3, e4⟩ := fdiv_parts hg (Nat.gcd_dvd_right p.natAbs q.natAbs)
  refine ⟨_, a, b, hg, e1, e3, ?_, ?_, rfl⟩
  · by_cases hb : b ≤ 0
    · have := Int.mul_nonpos_of_nonneg_of_nonpos (show (0 : Int) ≤ (Nat.gcd p.natAbs q.natAbs : Nat) by omega) hb
      omega
    · omega
  · unfold nrm
    rw [e2, e4]
/-- a fraction as the law and the package make them: its second number above 0, in least terms -/
structure Gd (p : Fr) : Prop where
  pos : 0 < p.2
  red : Nat.gcd p.1.natAbs p.2.natAbs = 1
theorem gd_nrm {p q : Int} (hq : 0 < q) : Gd (nrm p q) := by
  obtain ⟨g, a, b, hg, rfl, rfl, hb, e, eg⟩ := nrm_parts (p := p) hq
  rw [e]
  refine ⟨hb, ?_⟩
  rw [Int.natAbs_mul, Int.natAbs_mul, Int.natAbs_natCast, Nat.gcd_mul_left] at eg
  show Nat.gcd a.natAbs b.natAbs = 1
  exact Nat.eq_of_mul_eq_mul_left hg (by omega)
theorem vl_nrm {p q : Int} (hq : 0 < q) : vl (nrm p q) = (p : Rat) / (q : Rat) := by
  obtain ⟨g, a, b, hg, rfl, rfl, hb, e, eg⟩ := nrm_parts (p := p) hq
  rw [e]
  have h1 : (((g : Nat) : Int) : Rat) ≠ 0 := by
    have : ((g : Nat) : Int) ≠ 0 := by omega
    exact_mod_cast this
  have h2 : (b : Rat) ≠ 0 := by
    have : b ≠ 0 := by omega
    exact_mod_cast this
  show (a : Rat) / (b : Rat) = _
  rw [Rat.intCast_mul, Rat.intCast_mul]
  generalize (((g : Nat) : Int) : Rat) = x at *
  grind
theorem gd_pl {a b : Fr} (h : 0 < a.2) (h' : 0 < b.2) : Gd (plF a b) := gd_nrm (Int.mul_pos h h')
theorem gd_tm {a b : Fr} (h : 0 < a.2) (h' : 0 < b.2) : Gd (tmF a b) := gd_nrm (Int.mul_pos h h')
theorem gd_ov {a b : Fr} (h : 0 < a.2) (h' : b.1 ≠ 0) : Gd (ovF a b) := gd_nrm (Int.mul_pos h (by omega))
theorem pos_cast {x : Int} (h : 0 < x) : (0 : Rat) < (x : Rat) := by exact_mod_cast h
theorem vl_pl {a b : Fr} (h : 0 < a.2) (h' : 0 < b.2) : vl (plF a b) = vl a + vl b := by
  have h1 := pos_cast h
  have h2 := pos_cast h'
  unfold plF
  rw [vl_nrm (Int.mul_pos h h'), Rat.intCast_add, Rat.intCast_mul, Rat.intCast_mul, Rat.intCast_mul]
  unfold vl
  grind
theorem vl_tm {a b : Fr} (h : 0 < a.2) (h' : 0 < b.2) : vl (tmF a b) = vl a * vl b := by
  have h1 := pos_cast h
  have h2 := pos_cast h'
  unfold tmF
  rw [vl_nrm (Int.mul_pos h h'), Rat.intCast_mul, Rat.intCast_mul]
  unfold vl
  grind
theorem vl_ov {a b : Fr} (h : 0 < a.2) (h' : 0 < b.2) (h0 : b.1 ≠ 0) : vl (ovF a b) = vl a / vl b := by
  have h1 := pos_cast h
  have h2 := pos_cast h'
  have h3 : (b.1 : Rat) ≠ 0 := by exact_mod_cast h0
  unfold ovF
  rw [vl_nrm (Int.mul_pos h (by omega)), Rat.intCast_mul, Rat.intCast_mul, Rat.intCast_mul]
  unfold vl sgn1
  by_cases hb : b.1 > 0
  · rw [if_pos hb, show ((b.1.natAbs : Nat) : Int) = b.1 by omega]
    have : ((1 : Int) : Rat) = 1 := by rfl
    grind
  · rw [if_neg hb, show ((b.1.natAbs : Nat) : Int) = -b.1 by omega, Rat.intCast_neg]
    have : ((-1 : Int) : Rat) = -1 := by rfl
    grind
theorem vl_ng {a : Fr} (h : 0 < a.2) : vl (ngF a) = - vl a := by
  have h1 := pos_cast h
  unfold vl ngF
  show ((0 - a.1 : Int) : Rat) / _ = _
  rw [Rat.intCast_sub]
  have : ((0 : Int) : Rat) = 0 := by rfl
  grind
theorem vl_eq0 {a : Fr} (h : 0 < a.2) : vl a = 0 ↔ a.1 = 0 := by
  have h1 := pos_cast h
  unfold vl
  constructor
  · intro e
    have : (a.1 : Rat) = 0 := by grind
    exact_mod_cast this
  · intro e
    have : (a.1 : Rat) = 0 := by exact_mod_cast e
    rw [this]
    grind
theorem rdiv_pos {a b : Rat} (h : 0 < a) (h' : 0 < b) : 0 < a / b := by
  rw [Rat.div_def]
  exact Rat.mul_pos h (Rat.inv_pos.mpr h')
theorem vl_pos {a : Fr} (h : 0 < a.2) : 0 < vl a ↔ 0 < a.1 := by
  have h1 := pos_cast h
  constructor
  · intro e
    by_cases q : 0 < a.1
    · exact q
    · exfalso
      by_cases q0 : a.1 = 0
      · rw [(vl_eq0 h).mpr q0] at e
        exact absurd e (by decide)
      · have h3 : 0 < vl (-a.1, a.2) := rdiv_pos (pos_cast (by omega)) h1
        have h4 : vl (-a.1, a.2) = - vl a := by
          unfold vl
          show ((-a.1 : Int) : Rat) / _ = _
          rw [Rat.intCast_neg]
          grind
        grind
  · intro e
    exact rdiv_pos (pos_cast e) h1
theorem vl_neg {a : Fr} (h : 0 < a.2) : vl a < 0 ↔ a.1 < 0 := by
  have h0 := vl_eq0 h
  have h1 := vl_pos h
  constructor
  · intro e
    by_cases q : a.1 < 0
    · exact q
    · by_cases q0 : a.1 = 0
      · have := h0.mpr q0; grind
      · have := h1.mpr (by omega); grind
  · intro e
    by_cases q : vl a = 0
    · have := h0.mp q; omega
    · by_cases q2 : 0 < vl a
      · have := h1.mp q2; omega
      · grind
/-- two in least terms of one worth are the same -/
theorem gd_zero {a : Fr} (h : Gd a) (e : a.1 = 0) : a = (0, 1) := by
  obtain ⟨p, q⟩ := a
  obtain ⟨h1, h2⟩ := h
  simp at e h1 h2
  subst e
  simp at h2
  simp
  omega
/-- a line's worth -/
def ev : Nat → List Fr → (Nat → Rat) → Rat
  | _, [], _ => 0
  | i, p :: l, x => vl p * x i + ev (i + 1) l x
def lpF (one two : List Fr) (by_ : Fr) : List Fr := List.zipWith (fun a b => plF a (tmF by_ b)) one two
def AllP (l : List Fr) : Prop := ∀ p ∈ l, 0 < p.2
theorem ev_lp {x : Nat → Rat} {b : Fr} (hb : 0 < b.2) : ∀ {one two : List Fr} (i : Nat), one.length = two.length → AllP one → AllP two → ev i (lpF one two b) x = ev i one x + vl b * ev i two x
  | [], [], i, _, _, _ => by simp [lpF, ev]; grind
  | p :: one, q :: two, i, hl, h1, h2 => by
    have ih := ev_lp (x := x) hb (one := one) (two := two) (i + 1) (by simpa using hl) (fun p h => h1 p (List.mem_cons_of_mem _ h)) fun p h => h2 p (List.mem_cons_of_mem _ h)
    have p1 := h1 p (List.mem_cons_self ..)
    have p2 := h2 q (List.mem_cons_self ..)
    show vl (plF p (tmF b q)) * x i + ev (i + 1) (lpF one two b) x = vl p * x i + ev (i + 1) one x + vl b * (vl q * x i + ev (i + 1) two x)
    rw [ih, vl_pl p1 (gd_tm hb p2).pos, vl_tm hb p2]
    grind
def upd (x : Nat → Rat) (k : Nat) (v : Rat) : Nat → Rat := fun j => if j = k then v else x j
theorem ev_far {x : Nat → Rat} {k : Nat} {v : Rat} : ∀ {l : List Fr} (i : Nat), k < i → ev i l (upd x k v) = ev i l x
  | [], i, _ => rfl
  | p :: l, i, h => by
    show vl p * upd x k v i + ev (i + 1) l (upd x k v) = vl p * x i + ev (i + 1) l x
    rw [ev_far (i + 1) (by omega)]
    unfold upd
    rw [if_neg (by omega)]
theorem ev_upd {x : Nat → Rat} {v : Rat} : ∀ {l : List Fr} (i k : Nat) (h : k < l.length), ev i l (upd x (i + k) v) = ev i l x + vl l[k] * (v - x (i + k))
  | p :: l, i, 0, h => by
    show vl p * upd x (i + 0) v i + ev (i + 1) l (upd x (i + 0) v) = vl p * x i + ev (i + 1) l x + vl p * (v - x (i + 0))
    rw [ev_far (i + 1) (by omega)]
    unfold upd
    rw [if_pos (by omega), Nat.add_zero]
    grind
  | p :: l, i, k + 1, h => by
    have hk : k < l.length := by simpa using h
    have ih := ev_upd (x := x) (v := v) (l := l) (i + 1) k hk
    rw [show i + 1 + k = i + (k + 1) by omega] at ih
    show vl p * upd x (i + (k + 1)) v i + ev (i + 1) l (upd x (i + (k + 1)) v) = vl p * x i + ev (i + 1) l x + vl l[k] * (v - x (i + (k + 1)))
    rw [ih]
    unfold upd
    rw [if_neg (by omega)]
    grind
/-- where no number counts -/
theorem ev_alone {x : Nat → Rat} : ∀ {l : List Fr} (i : Nat) (hl : l ≠ []), (∀ p ∈ l.dropLast, vl p = 0) → ev i l x = vl (l.getLast hl) * x (i + l.length - 1)
  | [p], i, _, _ => by
    show vl p * x i + 0 = _
    rw [show i + [p].length - 1 = i by simp]
    grind
  | p :: q :: l, i, _, h => by
    have ih := ev_alone (x := x) (l := q :: l) (i + 1) (by simp) fun r hr => h r (by rw [List.dropLast_cons_cons]; exact List.mem_cons_of_mem _ hr)
    have h0 := h p (by rw [List.dropLast_cons_cons]; exact List.mem_cons_self ..)
    show vl p * x i + ev (i + 1) (q :: l) x = _
    rw [ih, h0, List.getLast_cons (List.cons_ne_nil _ _), show i + (p :: q :: l).length - 1 = i + 1 + (q :: l).length - 1 by simp; omega]
    grind
/-- a column -/
def unit (k : Nat) : Nat → Rat := fun j => if j = k then 1 else 0
theorem ev_zero : ∀ {l : List Fr} {i : Nat} {x : Nat → Rat}, (∀ j, i ≤ j → x j = 0) → ev i l x = 0
  | [], i, x, _ => rfl
  | p :: l, i, x, h => by
    show vl p * x i + ev (i + 1) l x = 0
    rw [ev_zero fun j hj => h j (by omega), h i (Nat.le_refl _)]
    grind
theorem ev_unit : ∀ {l : List Fr} (i k : Nat) (h : k < l.length), ev i l (unit (i + k)) = vl l[k]
  | p :: l, i, 0, h => by
    show vl p * unit (i + 0) i + ev (i + 1) l (unit (i + 0)) = vl p
    rw [ev_zero fun j hj => by unfold unit; rw [if_neg (by omega)]]
    unfold unit
    rw [if_pos (by omega)]
    grind
  | p :: l, i, k + 1, h => by
    have hk : k < l.length := by simpa using h
    have ih := ev_unit (l := l) (i + 1) k hk
    rw [show i + 1 + k = i + (k + 1) by omega] at ih
    show vl p * unit (i + (k + 1)) i + ev (i + 1) l (unit (i + (k + 1))) = vl l[k]
    rw [ih]
    unfold unit
    rw [if_neg (by omega)]
    grind
end K42
end
section
/-! rows, and such without a number -/
namespace K42
inductive Sg where
  | lt | le | eq
  deriving DecidableEq, Inhabited
def hold : Sg → Rat → Prop
  | .lt, r => r < 0
  | .le, r => r ≤ 0
  | .eq, r => r = 0
structure Rw where
  ln : List Fr
  sg : Sg
  tk : List Fr
  deriving DecidableEq
def co (r : Rw) (k : Nat) : Fr := r.ln.getD k (0, 1)
def isS (k : Nat) (r : Rw) : Bool := decide (r.sg = .eq) && decide ((co r k).1 ≠ 0)
def subst (s : Rw) (k : Nat) (r : Rw) : Rw := ⟨lpF r.ln s.ln (ovF (ngF (co r k)) (co s k)), r.sg, lpF r.tk s.tk (ovF (ngF (co r k)) (co s k))⟩
def sgT (h l : Sg) : Sg := if h = .lt ∨ l = .lt then .lt else .le
def pairR (k : Nat) (h l : Rw) : Rw := ⟨lpF h.ln l.ln (ovF (co h k) (ngF (co l k))), sgT h.sg l.sg, lpF h.tk l.tk (ovF (co h k) (ngF (co l k)))⟩
def aloneB (l : List Fr) : Bool := l.dropLast.all fun p => decide (p.1 = 0)
def lastF (l : List Fr) : Fr := l.getLastD (0, 1)
def idle (r : Rw) : Bool := aloneB r.ln && (decide ((lastF r.ln).1 < 0) || decide ((lastF r.ln).1 = 0) && decide (r.sg = .le))
def same2 (a b : Rw) : Bool := decide (a.ln = b.ln) && decide (a.sg = b.sg)
def addR (F : List Rw) (e : Rw) : List Rw := if !idle e && !(F.any fun o => same2 o e) then F ++ [e] else F
def highs (rows : List Rw) (k : Nat) : List Rw := rows.filter fun r => decide ((co r k).1 > 0)
def lows (rows : List Rw) (k : Nat) : List Rw := rows.filter fun r => decide ((co r k).1 < 0)
def zeros (rows : List Rw) (k : Nat) : List Rw := rows.filter fun r => decide ((co r k).1 = 0)
def prs (rows : List Rw) (k : Nat) : List Rw := (highs rows k).flatMap fun h => (lows rows k).map fun l => pairR k h l
def without (rows : List Rw) (k : Nat) : List Rw := match rows.filter (isS k) with
  | s :: _ => (rows.filter fun r => decide (r ≠ s)).map (subst s k)
  | [] => (prs rows k).foldl addR (zeros rows k)
theorem add_fold : ∀ (es F : List Rw), (∀ r ∈ F, r ∈ es.foldl addR F) ∧ (∀ e ∈ es, idle e = true ∨ ∃ o ∈ es.foldl addR F, same2 o e = true) ∧ ∀ r ∈ es.foldl addR F, r ∈ F ∨ r ∈ es
  | [], F => ⟨fun r h => h, fun e h => absurd h List.not_mem_nil, fun r h => Or.inl h⟩
  | e :: es, F => by
    obtain ⟨h1, h2, h3⟩ := add_fold es (addR F e)
    have sub : ∀ r ∈ F, r ∈ addR F e := fun r h => by
      unfold addR
      split
      · exact List.mem_append_left _ h
      · exact h
    refine ⟨fun r h => h1 r (sub r h), fun x hx => ?_, fun r h => ?_⟩
    · rcases List.mem_cons.mp hx with rfl | hx
      · cases hi : idle x with
        | true => exact .inl rfl
        | false =>
          refine .inr ?_
          cases ha : F.any fun o => same2 o x with
          | true =>
            obtain ⟨o, ho, hs⟩ := List.any_eq_true.mp ha
            exact ⟨o, h1 o (sub o ho), hs⟩
          | false =>
            refine ⟨x, h1 x ?_, by simp [same2]⟩
            unfold addR
            rw [hi, ha]
            simp
      · exact h2 x hx
    · rcases h3 r h with h | h
      · unfold addR at h
        split at h
        · rcases List.mem_append.mp h with h | h
          · exact .inl h
          · exact .inr (by rw [List.mem_singleton.mp h]; exact List.mem_cons_self ..)
        · exact .inl h
      · exact .inr (List.mem_cons_of_mem _ h)
theorem add_len : ∀ (es F : List Rw), (es.foldl addR F).length ≤ F.length + es.length
  | [], F => by simp
  | e :: es, F => by
    have := add_len es (addR F e)
    have h2 : (addR F e).length ≤ F.length + 1 := by
      unfold addR
      split <;> simp
    rw [List.foldl_cons, List.length_cons]
    omega
theorem prs_mem {rows : List Rw} {k : Nat} {e : Rw} : e ∈ prs rows k ↔ ∃ h ∈ rows, ∃ l ∈ rows, (co h k).1 > 0 ∧ (co l k).1 < 0 ∧ e = pairR k h l := by
  unfold prs highs lows
  simp only [List.mem_flatMap, List.mem_map, List.mem_filter, decide_eq_true_eq]
  constructor
  · rintro ⟨h, ⟨h1, h2⟩, l, ⟨l1, l2⟩, e⟩
    exact ⟨h, h1, l, l1, h2, l2, e.symm⟩
  · rintro ⟨h, h1, l, l1, h2, l2, e⟩
    exact ⟨h, ⟨h1, h2⟩, l, ⟨l1, l2⟩, e.symm⟩
theorem prs_len (rows : List Rw) (k : Nat) : (prs rows k).length ≤ rows.length * rows.length := by
  have h2 : (lows rows k).length ≤ rows.length := List.length_filter_le _ _
  have h1 : (highs rows k).length ≤ rows.length := List.length_filter_le _ _
  have : ∀ hs : List Rw, (hs.flatMap fun h => (lows rows k).map fun l => pairR k h l).length = hs.length * (lows rows k).length := fun hs => by
    induction hs with
    | nil => simp
    | cons a hs ih => rw [List.flatMap_cons, List.length_append, ih, List.length_map, List.length_cons, Nat.succ_mul]; omega
  unfold prs
  rw [this]
  exact Nat.mul_le_mul h1 h2
theorem without_len (rows : List Rw) (k : Nat) : (without rows k).length ≤ rows.length + rows.length * rows.length := by
  unfold without
  split
  · rw [List.length_map]
    have := List.length_filter_le (fun r => decide (r ≠ (by assumption : Rw))) rows
    exact Nat.le_trans (List.length_filter_le _ _) (by omega)
  · have := add_len (prs rows k) (zeros rows k)
    have h1 : (zeros rows k).length ≤ rows.length := List.length_filter_le _ _
    have h2 := prs_len rows k
    omega
/-- what rows without a number are -/
theorem without_mem {rows : List Rw} {k : Nat} {e : Rw} (h : e ∈ without rows k) :
    (∃ s ∈ rows, s.sg = .eq ∧ (co s k).1 ≠ 0 ∧ ∃ r ∈ rows, e = subst s k r) ∨ (e ∈ rows ∧ (co e k).1 = 0) ∨
    ((∀ r ∈ rows, r.sg = .eq → (co r k).1 = 0) ∧ ∃ h ∈ rows, ∃ l ∈ rows, (co h k).1 > 0 ∧ (co l k).1 < 0 ∧ e = pairR k h l) := by
  unfold without at h
  split at h
  · rename_i s t hs
    have hm : s ∈ rows.filter (isS k) := by rw [hs]; exact List.mem_cons_self ..
    obtain ⟨m1, m2⟩ := List.mem_filter.mp hm
    obtain ⟨r, hr, rfl⟩ := List.mem_map.mp h
    simp only [isS, Bool.and_eq_true, decide_eq_true_eq] at m2
    exact .inl ⟨s, m1, m2.1, m2.2, r, (List.mem_filter.mp hr).1, rfl⟩
  · rename_i hs
    rcases (add_fold _ _).2.2 e h with h | h
    · obtain ⟨m1, m2⟩ := List.mem_filter.mp h
      exact .inr (.inl ⟨m1, by simpa using m2⟩)
    · refine .inr (.inr ⟨fun r hr he => ?_, prs_mem.mp h⟩)
      by_cases q : (co r k).1 = 0
      · exact q
      · have : r ∈ rows.filter (isS k) := List.mem_filter.mpr ⟨hr, by simp [isS, he, q]⟩
        rw [hs] at this
        exact nomatch this
structure Ok (n R : Nat) (r : Rw) : Prop where
  ll : r.ln.length = n + 1
  tl : r.tk.length = R
  lg : ∀ p ∈ r.ln, Gd p
  tg : ∀ p ∈ r.tk, Gd p
theorem co_get {n R k : Nat} {r : Rw} (h : Ok n R r) (hk : k ≤ n) : co r k = r.ln[k]'(by have := h.ll; omega) := by
  unfold co
  rw [List.getD_eq_getElem?_getD, List.getElem?_eq_getElem (by have := h.ll; omega)]
  rfl
theorem co_pos {n R k : Nat} {r : Rw} (h : Ok n R r) (hk : k ≤ n) : 0 < (co r k).2 := by
  rw [co_get h hk]
  exact (h.lg _ (List.getElem_mem _)).pos
theorem lp_len {a b : List Fr} {c : Fr} (h : a.length = b.length) : (lpF a b c).length = a.length := by
  unfold lpF
  rw [List.length_zipWith]
  omega
theorem lp_gd {a b : List Fr} {c : Fr} (hc : 0 < c.2) (h1 : ∀ p ∈ a, Gd p) (h2 : ∀ p ∈ b, Gd p) : ∀ p ∈ lpF a b c, Gd p := by
  intro p hp
  unfold lpF at hp
  obtain ⟨i, hi, rfl⟩ := List.getElem_of_mem hp
  rw [List.getElem_zipWith]
  exact gd_pl (h1 _ (List.getElem_mem _)).pos (gd_tm hc (h2 _ (List.getElem_mem _)).pos).pos
theorem ok_mix {n R : Nat} {a b : Rw} {c : Fr} {g : Sg} (ha : Ok n R a) (hb : Ok n R b) (hc : 0 < c.2) : Ok n R ⟨lpF a.ln b.ln c, g, lpF a.tk b.tk c⟩ :=
  ⟨(lp_len (by rw [ha.ll, hb.ll])).trans ha.ll, (lp_len (by rw [ha.tl, hb.tl])).trans ha.tl, lp_gd hc ha.lg hb.lg, lp_gd hc ha.tg hb.tg⟩
theorem sub_pos2 {n R k : Nat} {s r : Rw} (hs : Ok n R s) (hr : Ok n R r) (hk : k ≤ n) (h0 : (co s k).1 ≠ 0) : 0 < (ovF (ngF (co r k)) (co s k)).2 := (gd_ov (show 0 < (ngF (co r k)).2 from co_pos hr hk) h0).pos
theorem pair_pos2 {n R k : Nat} {h l : Rw} (hh : Ok n R h) (hk : k ≤ n) (h0 : (co l k).1 < 0) : 0 < (ovF (co h k) (ngF (co l k))).2 := (gd_ov (co_pos hh hk) (show (0 - (co l k).1 : Int) ≠ 0 by omega)).pos
theorem ok_without {n R k : Nat} {rows : List Rw} (hk : k ≤ n) (h : ∀ r ∈ rows, Ok n R r) : ∀ e ∈ without rows k, Ok n R e := by
  intro e he
  rcases without_mem he with ⟨s, hs, _, h0, r, hr, rfl⟩ | ⟨h1, _⟩ | ⟨_, a, ha, b, hb, h1, h2, rfl⟩
  · exact ok_mix (h r hr) (h s hs) (sub_pos2 (h s hs) (h r hr) hk h0)
  · exact h e h1
  · exact ok_mix (h a ha) (h b hb) (pair_pos2 (h a ha) hk h2)
theorem vl_zero : vl (0, 1) = 0 := by decide +kernel
theorem vl_lp {c : Fr} (hc : 0 < c.2) : ∀ {a b : List Fr} (i : Nat), a.length = b.length → (∀ p ∈ a, Gd p) → (∀ p ∈ b, Gd p) → vl ((lpF a b c).getD i (0, 1)) = vl (a.getD i (0, 1)) + vl c * vl (b.getD i (0, 1))
  | [], [], i, _, _, _ => by simp [lpF, vl_zero]; grind
  | p :: a, q :: b, 0, _, h1, h2 => by
    show vl (plF p (tmF c q)) = vl p + vl c * vl q
    have p1 := (h1 p (List.mem_cons_self ..)).pos
    have p2 := (h2 q (List.mem_cons_self ..)).pos
    rw [vl_pl p1 (gd_tm hc p2).pos, vl_tm hc p2]
  | p :: a, q :: b, i + 1, hl, h1, h2 => vl_lp hc (a := a) (b := b) i (by simpa using hl) (fun p h => h1 p (List.mem_cons_of_mem _ h)) fun p h => h2 p (List.mem_cons_of_mem _ h)
theorem vl_sub {n R k : Nat} {s r : Rw} (hs : Ok n R s) (hr : Ok n R r) (hk : k ≤ n) (h0 : (co s k).1 ≠ 0) : vl (ovF (ngF (co r k)) (co s k)) = - vl (co r k) / vl (co s k) := by
  rw [vl_ov (show 0 < (ngF (co r k)).2 from co_pos hr hk) (co_pos hs hk) h0, vl_ng (co_pos hr hk)]
theorem vl_pair {n R k : Nat} {h l : Rw} (hh : Ok n R h) (hl : Ok n R l) (hk : k ≤ n) (h0 : (co l k).1 < 0) : vl (ovF (co h k) (ngF (co l k))) = vl (co h k) / (- vl (co l k)) := by
  rw [vl_ov (co_pos hh hk) (show 0 < (ngF (co l k)).2 from co_pos hl hk) (show (0 - (co l k).1 : Int) ≠ 0 by omega), vl_ng (co_pos hl hk)]
/-- a number that has been taken away -/
def Zc (k : Nat) (rows : List Rw) : Prop := ∀ r ∈ rows, ∀ j, j < k → vl (co r j) = 0
theorem zc_without {n R k : Nat} {rows : List Rw} (hk : k ≤ n) (h : ∀ r ∈ rows, Ok n R r) (z : Zc k rows) : Zc (k + 1) (without rows k) := by
  intro e he j hj
  rcases without_mem he with ⟨s, hs, _, h0, r, hr, rfl⟩ | ⟨h1, h2⟩ | ⟨_, a, ha, b, hb, h1, h2, rfl⟩
  · have e1 : vl (co (subst s k r) j) = vl (co r j) + vl (ovF (ngF (co r k)) (co s k)) * vl (co s j) := vl_lp (sub_pos2 (h s hs) (h r hr) hk h0) j (by rw [(h r hr).ll, (h s hs).ll]) (h r hr).lg (h s hs).lg
    rw [e1]
    by_cases q : j = k
    · subst q
      rw [vl_sub (h s hs) (h r hr) hk h0]
      have : vl (co s j) ≠ 0 := fun c => h0 ((vl_eq0 (co_pos (h s hs) hk)).mp c)
      grind
    · rw [z r hr j (by omega), z s hs j (by omega)]
      grind
  · by_cases q : j = k
    · subst q
      exact (vl_eq0 (co_pos (h e h1) hk)).mpr h2
    · exact z e h1 j (by omega)
  · have e1 : vl (co (pairR k a b) j) = vl (co a j) + vl (ovF (co a k) (ngF (co b k))) * vl (co b j) := vl_lp (pair_pos2 (h a ha) hk h2) j (by rw [(h a ha).ll, (h b hb).ll]) (h a ha).lg (h b hb).lg
    rw [e1]
    by_cases q : j = k
    · subst q
      rw [vl_pair (h a ha) (h b hb) hk h2]
      have : vl (co b j) ≠ 0 := fun c => by
        have := (vl_eq0 (co_pos (h b hb) hk)).mp c
        omega
      grind
    · rw [z a ha j (by omega), z b hb j (by omega)]
      grind
end K42
end
section
/-! rows without a number bar just as much, and what they are made of -/
namespace K42
/-- what a row is made of -/
structure Mu (og : Nat → (Nat → Rat) → Rat) (os : Nat → Sg) (r : Rw) : Prop where
  val : ∀ x, ev 0 r.ln x = ev 0 r.tk (fun i => og i x)
  nn : ∀ i, os i ≠ .eq → 0 ≤ vl (r.tk.getD i (0, 1))
  eq : r.sg = .eq → ∀ i, os i ≠ .eq → vl (r.tk.getD i (0, 1)) = 0
  lt : r.sg = .lt → ∃ i, os i = .lt ∧ 0 < vl (r.tk.getD i (0, 1))
theorem ev_mix {n R : Nat} {a b : Rw} {c : Fr} (ha : Ok n R a) (hb : Ok n R b) (hc : 0 < c.2) (x : Nat → Rat) : ev 0 (lpF a.ln b.ln c) x = ev 0 a.ln x + vl c * ev 0 b.ln x :=
  ev_lp hc 0 (by rw [ha.ll, hb.ll]) (fun p h => (ha.lg p h).pos) fun p h => (hb.lg p h).pos
theorem ev_mixT {n R : Nat} {a b : Rw} {c : Fr} (ha : Ok n R a) (hb : Ok n R b) (hc : 0 < c.2) (x : Nat → Rat) : ev 0 (lpF a.tk b.tk c) x = ev 0 a.tk x + vl c * ev 0 b.tk x :=
  ev_lp hc 0 (by rw [ha.tl, hb.tl]) (fun p h => (ha.tg p h).pos) fun p h => (hb.tg p h).pos
theorem tk_mix {n R : Nat} {a b : Rw} {c : Fr} (ha : Ok n R a) (hb : Ok n R b) (hc : 0 < c.2) (i : Nat) : vl ((lpF a.tk b.tk c).getD i (0, 1)) = vl (a.tk.getD i (0, 1)) + vl c * vl (b.tk.getD i (0, 1)) :=
  vl_lp hc i (by rw [ha.tl, hb.tl]) ha.tg hb.tg
theorem rmul_nonneg {a b : Rat} (h : 0 ≤ a) (h' : 0 ≤ b) : 0 ≤ a * b := Rat.mul_nonneg h h'
theorem mu_without {n R k : Nat} {og : Nat → (Nat → Rat) → Rat} {os : Nat → Sg} {rows : List Rw} (hk : k ≤ n) (h : ∀ r ∈ rows, Ok n R r) (m : ∀ r ∈ rows, Mu og os r) : ∀ e ∈ without rows k, Mu og os e := by
  intro e he
  rcases without_mem he with ⟨s, hs, hq, h0, r, hr, rfl⟩ | ⟨h1, h2⟩ | ⟨hne, a, ha, b, hb, h1, h2, rfl⟩
  · have hc := sub_pos2 (h s hs) (h r hr) hk h0
    have tz : ∀ i, os i ≠ .eq → vl ((subst s k r).tk.getD i (0, 1)) = vl (r.tk.getD i (0, 1)) := fun i hi => by
      refine (tk_mix (h r hr) (h s hs) hc i).trans ?_
      rw [(m s hs).eq hq i hi]
      grind
    refine ⟨fun x => ?_, fun i hi => by rw [tz i hi]; exact (m r hr).nn i hi, fun g i hi => by rw [tz i hi]; exact (m r hr).eq g i hi, fun g => ?_⟩
    · refine (ev_mix (h r hr) (h s hs) hc x).trans (Eq.trans ?_ (ev_mixT (h r hr) (h s hs) hc _).symm)
      rw [(m r hr).val x, (m s hs).val x]
    · obtain ⟨i, hi, hp⟩ := (m r hr).lt g
      exact ⟨i, hi, by rw [tz i (by rw [hi]; decide)]; exact hp⟩
  · exact m e h1
  · have hc := pair_pos2 (h a ha) hk h2
    have bp : 0 < vl (ovF (co a k) (ngF (co b k))) := by
      rw [vl_pair (h a ha) (h b hb) hk h2]
      have q1 := (vl_pos (co_pos (h a ha) hk)).mpr h1
      have q2 := (vl_neg (co_pos (h b hb) hk)).mpr h2
      exact rdiv_pos q1 (by grind)
    have tz := fun i => tk_mix (h a ha) (h b hb) hc i
    have nn : ∀ i, os i ≠ .eq → 0 ≤ vl (ovF (co a k) (ngF (co b k))) * vl (b.tk.getD i (0, 1)) := fun i hi => rmul_nonneg (by grind) ((m b hb).nn i hi)
    refine ⟨fun x => ?_, fun i hi => ?_, fun g => ?_, fun g => ?_⟩
    · refine (ev_mix (h a ha) (h b hb) hc x).trans (Eq.trans ?_ (ev_mixT (h a ha) (h b hb) hc _).symm)
      rw [(m a ha).val x, (m b hb).val x]
    · show 0 ≤ vl ((lpF a.tk b.tk (ovF (co a k) (ngF (co b k)))).getD i (0, 1))
      rw [tz i]
      have := (m a ha).nn i hi
      have := nn i hi
      grind
    · exfalso
      have g : sgT a.sg b.sg = .eq := g
      unfold sgT at g
      split at g <;> exact absurd g (by decide)
    · have g : sgT a.sg b.sg = .lt := g
      have gg : a.sg = .lt ∨ b.sg = .lt := by
        unfold sgT at g
        by_cases q : a.sg = .lt ∨ b.sg = .lt
        · exact q
        · rw [if_neg q] at g; exact absurd g (by decide)
      rcases gg with g | g
      · obtain ⟨i, hi, hp⟩ := (m a ha).lt g
        refine ⟨i, hi, ?_⟩
        show 0 < vl ((lpF a.tk b.tk (ovF (co a k) (ngF (co b k)))).getD i (0, 1))
        rw [tz i]
        have := nn i (by rw [hi]; decide)
        grind
      · obtain ⟨i, hi, hp⟩ := (m b hb).lt g
        refine ⟨i, hi, ?_⟩
        show 0 < vl ((lpF a.tk b.tk (ovF (co a k) (ngF (co b k)))).getD i (0, 1))
        rw [tz i]
        have := (m a ha).nn i (by rw [hi]; decide)
        have := Rat.mul_pos bp hp
        grind
/-! between -/
theorem max_of : ∀ (l : List (Rat × Bool)), l ≠ [] → ∃ m ∈ l, ∀ x ∈ l, x.1 ≤ m.1
  | [a], _ => ⟨a, List.mem_cons_self .., fun x hx => by rw [List.mem_singleton.mp hx]; grind⟩
  | a :: b :: l, _ => by
    obtain ⟨m, hm, h⟩ := max_of (b :: l) (by simp)
    by_cases q : m.1 ≤ a.1
    · refine ⟨a, List.mem_cons_self .., fun x hx => ?_⟩
      rcases List.mem_cons.mp hx with rfl | hx
      · grind
      · have := h x hx
        grind
    · refine ⟨m, List.mem_cons_of_mem _ hm, fun x hx => ?_⟩
      rcases List.mem_cons.mp hx with rfl | hx
      · grind
      · exact h x hx
theorem min_of : ∀ (l : List (Rat × Bool)), l ≠ [] → ∃ m ∈ l, ∀ x ∈ l, m.1 ≤ x.1
  | [a], _ => ⟨a, List.mem_cons_self .., fun x hx => by rw [List.mem_singleton.mp hx]; grind⟩
  | a :: b :: l, _ => by
    obtain ⟨m, hm, h⟩ := min_of (b :: l) (by simp)
    by_cases q : a.1 ≤ m.1
    · refine ⟨a, List.mem_cons_self .., fun x hx => ?_⟩
      rcases List.mem_cons.mp hx with rfl | hx
      · grind
      · have := h x hx
        grind
    · refine ⟨m, List.mem_cons_of_mem _ hm, fun x hx => ?_⟩
      rcases List.mem_cons.mp hx with rfl | hx
      · grind
      · exact h x hx
def under (st : Bool) (a b : Rat) : Prop := if st = true then a < b else a ≤ b
theorem under_le {st : Bool} {a b : Rat} (h : under st a b) : a ≤ b := by
  cases st
  · exact h
  · have : a < b := h
    grind
theorem under_of {st : Bool} {a b : Rat} (h : a < b) : under st a b := by
  cases st
  · show a ≤ b
    grind
  · exact h
theorem between (ls us : List (Rat × Bool)) (h : ∀ l ∈ ls, ∀ u ∈ us, under (l.2 || u.2) l.1 u.1) : ∃ v : Rat, (∀ l ∈ ls, under l.2 l.1 v) ∧ ∀ u ∈ us, under u.2 v u.1 := by
  by_cases hl : ls = []
  · subst hl
    by_cases hu : us = []
    · subst hu
      exact ⟨0, fun l h => absurd h List.not_mem_nil, fun l h => absurd h List.not_mem_nil⟩
    · obtain ⟨m, hm, q⟩ := min_of us hu
      exact ⟨m.1 - 1, fun l h => absurd h List.not_mem_nil, fun u hu => under_of (by have := q u hu; grind)⟩
  · obtain ⟨m, hm, q⟩ := max_of ls hl
    by_cases hu : us = []
    · subst hu
      exact ⟨m.1 + 1, fun l hl => under_of (by have := q l hl; grind), fun l h => absurd h List.not_mem_nil⟩
    · obtain ⟨m', hm', q'⟩ := min_of us hu
      have mm := under_le (h m hm m' hm')
      refine ⟨(m.1 + m'.1) / 2, fun l hl => ?_, fun u hu => ?_⟩
      · have h1 := q l hl
        have h2 := h l hl m' hm'
        cases hb : l.2
        · show l.1 ≤ _
          grind
        · rw [hb] at h2
          have h2 : l.1 < m'.1 := h2
          show l.1 < _
          grind
      · have h1 := q' u hu
        have h2 := h m hm u hu
        cases hb : u.2
        · show _ ≤ u.1
          grind
        · rw [hb, Bool.or_true] at h2
          have h2 : m.1 < u.1 := h2
          show _ < u.1
          grind
/-! what bars before bars behind -/
def Unsat (n : Nat) (rows : List Rw) : Prop := ∀ x : Nat → Rat, x n = 1 → ∃ r ∈ rows, ¬ hold r.sg (ev 0 r.ln x)
theorem ev_at {n R k : Nat} {r : Rw} (h : Ok n R r) (hk : k < n) (x : Nat → Rat) (v : Rat) : ev 0 r.ln (upd x k v) = ev 0 r.ln x + vl (co r k) * (v - x k) := by
  have := ev_upd (x := x) (v := v) (l := r.ln) 0 k (by have := h.ll; omega)
  rw [Nat.zero_add] at this
  rw [this, co_get h (Nat.le_of_lt hk)]
def stB (g : Sg) : Bool := decide (g = .lt)
theorem hold_ne {g : Sg} (h : g ≠ .eq) (r : Rat) : hold g r ↔ under (stB g) r 0 := by
  cases g
  · exact Iff.rfl
  · exact Iff.rfl
  · exact absurd rfl h
theorem mul_up {a t : Rat} {st : Bool} (ha : 0 < a) (h : under st t 0) : under st (a * t) 0 := by
  cases st
  · have h : t ≤ 0 := h
    show a * t ≤ 0
    have := Rat.mul_nonneg (a := a) (b := -t) (by grind) (by grind)
    grind
  · have h : t < 0 := h
    show a * t < 0
    have := Rat.mul_pos (a := a) (b := -t) ha (by grind)
    grind
theorem mul_down {a t : Rat} {st : Bool} (ha : 0 < a) (h : under st (a * t) 0) : under st t 0 := by
  cases st
  · have h : a * t ≤ 0 := h
    show t ≤ 0
    by_cases q : t ≤ 0
    · exact q
    · have := Rat.mul_pos (a := a) (b := t) ha (by grind)
      grind
  · have h : a * t < 0 := h
    show t < 0
    by_cases q : t < 0
    · exact q
    · have := Rat.mul_nonneg (a := a) (b := t) (by grind) (by grind)
      grind
theorem under_sub {st : Bool} {a b : Rat} : under st (a - b) 0 ↔ under st a b := by
  cases st
  · show a - b ≤ 0 ↔ a ≤ b
    grind
  · show a - b < 0 ↔ a < b
    grind
theorem st_sgT (a b : Sg) : stB (sgT a b) = (stB a || stB b) := by cases a <;> cases b <;> rfl
theorem alone_ev {l : List Fr} (h0 : l ≠ []) (hg : ∀ p ∈ l, Gd p) (h : aloneB l = true) (x : Nat → Rat) (hx : x (l.length - 1) = 1) : ev 0 l x = vl (lastF l) := by
  have := ev_alone (x := x) (l := l) 0 h0 fun p hp => by
    unfold aloneB at h
    have q := List.all_eq_true.mp h p hp
    exact (vl_eq0 (hg p ((List.dropLast_sublist l).subset hp)).pos).mpr (by simpa using q)
  rw [this, show 0 + l.length - 1 = l.length - 1 by omega, hx]
  unfold lastF
  rw [List.getLastD_eq_getLast?, List.getLast?_eq_some_getLast h0]
  show vl _ * 1 = vl (l.getLast h0)
  grind
theorem last_gd {l : List Fr} (h0 : l ≠ []) (hg : ∀ p ∈ l, Gd p) : Gd (lastF l) := by
  unfold lastF
  rw [List.getLastD_eq_getLast?, List.getLast?_eq_some_getLast h0]
  exact hg _ (List.getLast_mem h0)
theorem unsat_without {n R k : Nat} {rows : List Rw} (hk : k < n) (h : ∀ r ∈ rows, Ok n R r) (u : Unsat n rows) : Unsat n (without rows k) := by
  intro x hx
  by_cases con : ∃ r ∈ without rows k, ¬ hold r.sg (ev 0 r.ln x)
  · exact con
  exfalso
  have al : ∀ r ∈ without rows k, hold r.sg (ev 0 r.ln x) := fun r hr => by
    by_cases q : hold r.sg (ev 0 r.ln x)
    · exact q
    · exact absurd ⟨r, hr, q⟩ con
  clear con
  have key : ∀ v : Rat, (∀ r ∈ rows, hold r.sg (ev 0 r.ln x + vl (co r k) * (v - x k))) → False := fun v hv => by
    obtain ⟨r, hr, q⟩ := u (upd x k v) (by unfold upd; rw [if_neg (by omega)]; exact hx)
    rw [ev_at (h r hr) hk] at q
    exact q (hv r hr)
  cases hf : rows.filter (isS k) with
  | cons s t =>
    have ew : without rows k = (rows.filter fun r => decide (r ≠ s)).map (subst s k) := by
      unfold without
      rw [hf]
    have hm : s ∈ rows.filter (isS k) := by rw [hf]; exact List.mem_cons_self ..
    obtain ⟨hs, m2⟩ := List.mem_filter.mp hm
    simp only [isS, Bool.and_eq_true, decide_eq_true_eq] at m2
    obtain ⟨hq, h0⟩ := m2
    have a0 : vl (co s k) ≠ 0 := fun c => h0 ((vl_eq0 (co_pos (h s hs) (Nat.le_of_lt hk))).mp c)
    refine key (x k - ev 0 s.ln x / vl (co s k)) fun r hr => ?_
    by_cases e : r = s
    · subst e
      rw [hq]
      show _ = (0 : Rat)
      grind
    · have := al (subst s k r) (by rw [ew]; exact List.mem_map.mpr ⟨r, List.mem_filter.mpr ⟨hr, by simpa using e⟩, rfl⟩)
      have e2 : ev 0 (subst s k r).ln x = ev 0 r.ln x + vl (co r k) * (x k - ev 0 s.ln x / vl (co s k) - x k) := by
        refine (ev_mix (h r hr) (h s hs) (sub_pos2 (h s hs) (h r hr) (Nat.le_of_lt hk) h0) x).trans ?_
        rw [vl_sub (h s hs) (h r hr) (Nat.le_of_lt hk) h0]
        grind
      rw [e2] at this
      exact this
  | nil =>
    have ew : without rows k = (prs rows k).foldl addR (zeros rows k) := by
      unfold without
      rw [hf]
    obtain ⟨f1, f2, _⟩ := add_fold (prs rows k) (zeros rows k)
    rw [← ew] at f1 f2
    have ne : ∀ r ∈ rows, (co r k).1 ≠ 0 → r.sg ≠ .eq := fun r hr q e => by
      have : r ∈ rows.filter (isS k) := List.mem_filter.mpr ⟨hr, by simp [isS, e, q]⟩
      rw [hf] at this
      exact nomatch this
    have pair : ∀ a ∈ rows, ∀ b ∈ rows, (co a k).1 > 0 → (co b k).1 < 0 → under (stB b.sg || stB a.sg) (x k - ev 0 b.ln x / vl (co b k)) (x k - ev 0 a.ln x / vl (co a k)) := by
      intro a ha b hb h1 h2
      have p1 := (vl_pos (co_pos (h a ha) (Nat.le_of_lt hk))).mpr h1
      have p2 := (vl_neg (co_pos (h b hb) (Nat.le_of_lt hk))).mpr h2
      have hsg : sgT a.sg b.sg ≠ .eq := by
        unfold sgT
        split <;> decide
      have ok := ok_mix (g := sgT a.sg b.sg) (h a ha) (h b hb) (pair_pos2 (h a ha) (Nat.le_of_lt hk) h2)
      have hh : hold (pairR k a b).sg (ev 0 (pairR k a b).ln x) := by
        rcases f2 (pairR k a b) (prs_mem.mpr ⟨a, ha, b, hb, h1, h2, rfl⟩) with hi | ⟨o, ho, hs⟩
        · have ok : Ok n R (pairR k a b) := ok
          have l0 : (pairR k a b).ln ≠ [] := fun c => by
            have := ok.ll
            rw [c] at this
            simp at this
          unfold idle at hi
          rw [Bool.and_eq_true] at hi
          have lg := last_gd l0 ok.lg
          rw [alone_ev l0 ok.lg hi.1 x (by rw [ok.ll]; exact hx)]
          have hi2 := hi.2
          simp only [Bool.or_eq_true, Bool.and_eq_true, decide_eq_true_eq] at hi2
          rcases hi2 with q | ⟨q, q2⟩
          · have q := (vl_neg lg.pos).mpr q
            exact (hold_ne hsg _).mpr (under_of q)
          · have q := (vl_eq0 lg.pos).mpr q
            rw [q2, q]
            show (0 : Rat) ≤ 0
            decide
        · simp only [same2, Bool.and_eq_true, decide_eq_true_eq] at hs
          have := al o ho
          rw [hs.1, hs.2] at this
          exact this
      have hh := (hold_ne hsg _).mp hh
      have e2 : ev 0 (pairR k a b).ln x = vl (co a k) * (ev 0 a.ln x / vl (co a k) - ev 0 b.ln x / vl (co b k)) := by
        refine (ev_mix (h a ha) (h b hb) (pair_pos2 (h a ha) (Nat.le_of_lt hk) h2) x).trans ?_
        rw [vl_pair (h a ha) (h b hb) (Nat.le_of_lt hk) h2]
        grind
      rw [e2] at hh
      have hh := mul_down p1 hh
      rw [st_sgT, Bool.or_comm] at hh
      have hh := under_sub.mp hh
      refine under_sub.mp ?_
      rw [show x k - ev 0 b.ln x / vl (co b k) - (x k - ev 0 a.ln x / vl (co a k)) = ev 0 a.ln x / vl (co a k) - ev 0 b.ln x / vl (co b k) by grind]
      exact under_sub.mpr hh
    obtain ⟨v, v1, v2⟩ := between ((lows rows k).map fun r => (x k - ev 0 r.ln x / vl (co r k), stB r.sg)) ((highs rows k).map fun r => (x k - ev 0 r.ln x / vl (co r k), stB r.sg)) (by
      intro l hl u hu
      obtain ⟨b, hb, rfl⟩ := List.mem_map.mp hl
      obtain ⟨a, ha, rfl⟩ := List.mem_map.mp hu
      obtain ⟨hb, h2⟩ := List.mem_filter.mp hb
      obtain ⟨ha, h1⟩ := List.mem_filter.mp ha
      exact pair a ha b hb (by simpa using h1) (by simpa using h2))
    refine key v fun r hr => ?_
    by_cases q0 : (co r k).1 = 0
    · rw [(vl_eq0 (co_pos (h r hr) (Nat.le_of_lt hk))).mpr q0]
      have := al r (f1 r (List.mem_filter.mpr ⟨hr, by simpa using q0⟩))
      rw [show ev 0 r.ln x + 0 * (v - x k) = ev 0 r.ln x by grind]
      exact this
    · refine (hold_ne (ne r hr q0) _).mpr ?_
      by_cases q1 : (co r k).1 > 0
      · have p1 := (vl_pos (co_pos (h r hr) (Nat.le_of_lt hk))).mpr q1
        have := under_sub.mpr (v2 _ (List.mem_map.mpr ⟨r, List.mem_filter.mpr ⟨hr, by simpa using q1⟩, rfl⟩))
        have := mul_up p1 this
        rw [show vl (co r k) * (v - (x k - ev 0 r.ln x / vl (co r k))) = ev 0 r.ln x + vl (co r k) * (v - x k) by grind] at this
        exact this
      · have p1 := (vl_neg (co_pos (h r hr) (Nat.le_of_lt hk))).mpr (by omega)
        have := under_sub.mpr (v1 _ (List.mem_map.mpr ⟨r, List.mem_filter.mpr ⟨hr, by simp; omega⟩, rfl⟩))
        have := mul_up (a := - vl (co r k)) (by grind) this
        rw [show - vl (co r k) * ((x k - ev 0 r.ln x / vl (co r k)) - v) = ev 0 r.ln x + vl (co r k) * (v - x k) by grind] at this
        exact this
end K42
end
section
/-! what bars rows, and that multiples do -/
namespace K42
/-- a FRACTION of such sizes -/
structure Sz (V B : Nat) (p : Int × Int) : Prop where
  pos : 0 < p.2
  num : p.1.natAbs ≤ 2 ^ V * p.2.natAbs
  den : p.2.natAbs ≤ 2 ^ B
theorem Sz.mono {V B V' B' : Nat} {p : Int × Int} (h : Sz V B p) (h1 : V ≤ V') (h2 : B ≤ B') : Sz V' B' p := by
  have e1 : 2 ^ V ≤ 2 ^ V' := Nat.pow_le_pow_right (by decide) h1
  have e2 : 2 ^ B ≤ 2 ^ B' := Nat.pow_le_pow_right (by decide) h2
  exact ⟨h.pos, Nat.le_trans h.num (Nat.mul_le_mul_right _ e1), Nat.le_trans h.den e2⟩
theorem Sz.big {V B : Nat} {p : Int × Int} (h : Sz V B p) : p.1.natAbs ≤ 2 ^ (V + B) := by
  rw [Nat.pow_add]
  exact Nat.le_trans h.num (Nat.mul_le_mul_left _ h.den)
theorem sz_nrm {p q : Int} {V B : Nat} (hq : 0 < q) (h1 : p.natAbs ≤ 2 ^ V * q.natAbs) (h2 : q.natAbs ≤ 2 ^ B) : Sz V B (nrm p q) := by
  obtain ⟨g, a, b, hg, rfl, rfl, hb, e, _⟩ := nrm_parts (p := p) hq
  rw [e]
  rw [Int.natAbs_mul, Int.natAbs_natCast] at h1 h2
  rw [Int.natAbs_mul, Int.natAbs_natCast, ← Nat.mul_assoc, Nat.mul_comm (2 ^ V) g, Nat.mul_assoc] at h1
  refine ⟨hb, Nat.le_of_mul_le_mul_left h1 hg, ?_⟩
  have : 1 * b.natAbs ≤ g * b.natAbs := Nat.mul_le_mul_right _ hg
  show b.natAbs ≤ _
  omega
theorem Sz.pl {V V' B B' : Nat} {a b : Int × Int} (h : Sz V B a) (h' : Sz V' B' b) : Sz (max V V' + 1) (B + B') (plF a b) := by
  have h1 := h.mono (Nat.le_max_left V V') (Nat.le_refl _)
  have h2 := h'.mono (Nat.le_max_right V V') (Nat.le_refl _)
  generalize max V V' = W at *
  refine sz_nrm (Int.mul_pos h.pos h'.pos) ?_ ?_
  · have q1 : (a.1 * b.2).natAbs ≤ 2 ^ W * (a.2.natAbs * b.2.natAbs) := by
      rw [Int.natAbs_mul, ← Nat.mul_assoc]
      exact Nat.mul_le_mul_right _ h1.num
    have q2 : (b.1 * a.2).natAbs ≤ 2 ^ W * (a.2.natAbs * b.2.natAbs) := by
      rw [Int.natAbs_mul, Nat.mul_comm a.2.natAbs, ← Nat.mul_assoc]
      exact Nat.mul_le_mul_right _ h2.num
    have q3 := Int.natAbs_add_le (a.1 * b.2) (b.1 * a.2)
    rw [Int.natAbs_mul a.2, Nat.pow_succ, Nat.mul_assoc, Nat.mul_comm 2, ← Nat.mul_assoc]
    omega
  · rw [Int.natAbs_mul, Nat.pow_add]
    exact Nat.mul_le_mul h.den h'.den
theorem Sz.tm {V V' B B' : Nat} {a b : Int × Int} (h : Sz V B a) (h' : Sz V' B' b) : Sz (V + V') (B + B') (tmF a b) := by
  refine sz_nrm (Int.mul_pos h.pos h'.pos) ?_ ?_
  · rw [Int.natAbs_mul, Int.natAbs_mul, Nat.pow_add, show 2 ^ V * 2 ^ V' * (a.2.natAbs * b.2.natAbs) = (2 ^ V * a.2.natAbs) * (2 ^ V' * b.2.natAbs) by ac_rfl]
    exact Nat.mul_le_mul h.num h'.num
  · rw [Int.natAbs_mul, Nat.pow_add]
    exact Nat.mul_le_mul h.den h'.den
theorem sgn1_abs (x : Int) : (sgn1 x).natAbs = 1 := by
  unfold sgn1
  split <;> rfl
theorem Sz.ov {V V' B B' : Nat} {a b : Int × Int} (h : Sz V B a) (h' : Sz V' B' b) (h0 : b.1 ≠ 0) : Sz (V + B') (B + (V' + B')) (ovF a b) := by
  refine sz_nrm (Int.mul_pos h.pos (by omega)) ?_ ?_
  · rw [Int.natAbs_mul, Int.natAbs_mul, sgn1_abs, Nat.mul_one, Int.natAbs_mul, Int.natAbs_natCast, Nat.pow_add, show 2 ^ V * 2 ^ B' * (a.2.natAbs * b.1.natAbs) = (2 ^ V * a.2.natAbs) * (2 ^ B' * b.1.natAbs) by ac_rfl]
    refine Nat.mul_le_mul h.num ?_
    have : 2 ^ B' * 1 ≤ 2 ^ B' * b.1.natAbs := Nat.mul_le_mul_left _ (by omega)
    have := h'.den
    omega
  · rw [Int.natAbs_mul, Int.natAbs_natCast, Nat.pow_add]
    exact Nat.mul_le_mul h.den h'.big
theorem Sz.ng {V B : Nat} {a : Int × Int} (h : Sz V B a) : Sz V B (ngF a) := ⟨h.pos, by show (0 - a.1 : Int).natAbs ≤ _; rw [show (0 - a.1 : Int).natAbs = a.1.natAbs by omega]; exact h.num, h.den⟩
structure SzR (V B : Nat) (r : Rw) : Prop where
  l : ∀ p ∈ r.ln, Sz V B p
  t : ∀ p ∈ r.tk, Sz V B p
theorem lp_sz {V B V' B' V2 B2 : Nat} {a b : List Fr} {c : Fr} (hc : Sz V' B' c) (h1 : ∀ p ∈ a, Sz V B p) (h2 : ∀ p ∈ b, Sz V2 B2 p) : ∀ p ∈ lpF a b c, Sz (max V (V' + V2) + 1) (B + (B' + B2)) p := by
  intro p hp
  unfold lpF at hp
  obtain ⟨i, hi, rfl⟩ := List.getElem_of_mem hp
  rw [List.getElem_zipWith]
  exact (h1 _ (List.getElem_mem _)).pl (hc.tm (h2 _ (List.getElem_mem _)))
theorem co_sz {n R k V B : Nat} {r : Rw} (h : Ok n R r) (s : SzR V B r) (hk : k ≤ n) : Sz V B (co r k) := by
  rw [co_get h hk]
  exact s.l _ (List.getElem_mem _)
theorem sz_without {n R k V B : Nat} {rows : List Rw} (hk : k ≤ n) (h : ∀ r ∈ rows, Ok n R r) (s : ∀ r ∈ rows, SzR V B r) : ∀ e ∈ without rows k, SzR (2 * V + B + 1) (V + 4 * B) e := by
  intro e he
  rcases without_mem he with ⟨a, ha, _, h0, r, hr, rfl⟩ | ⟨h1, _⟩ | ⟨_, a, ha, b, hb, h1, h2, rfl⟩
  · have c := (co_sz (h r hr) (s r hr) hk).ng.ov (co_sz (h a ha) (s a ha) hk) h0
    exact ⟨fun p hp => (lp_sz c (s r hr).l (s a ha).l p hp).mono (by omega) (by omega), fun p hp => (lp_sz c (s r hr).t (s a ha).t p hp).mono (by omega) (by omega)⟩
  · exact ⟨fun p hp => ((s e h1).l p hp).mono (by omega) (by omega), fun p hp => ((s e h1).t p hp).mono (by omega) (by omega)⟩
  · have c := (co_sz (h a ha) (s a ha) hk).ov (co_sz (h b hb) (s b hb) hk).ng (show (0 - (co b k).1 : Int) ≠ 0 by omega)
    exact ⟨fun p hp => (lp_sz c (s a ha).l (s b hb).l p hp).mono (by omega) (by omega), fun p hp => (lp_sz c (s a ha).t (s b hb).t p hp).mono (by omega) (by omega)⟩
/-! the rows that are begun with -/
abbrev Og := List Int × Sg
def lineOf (f : List Int) : List Fr := f.map fun x => (x, 1)
def unitL (R k : Nat) : List Fr := (List.range R).map fun j => (if j = k then 1 else 0, 1)
def asRows (os : List Og) : List Rw := os.mapIdx fun k o => ⟨lineOf o.1, o.2, unitL os.length k⟩
def sgO (os : List Og) (i : Nat) : Sg := (os.getD i ([], .le)).2
def evO (os : List Og) (i : Nat) (x : Nat → Rat) : Rat := ev 0 (lineOf (os.getD i ([], .le)).1) x
theorem gd_one (x : Int) : Gd (x, 1) := ⟨show (0 : Int) < 1 by decide, by simp⟩
theorem vl_int (x : Int) : vl (x, 1) = (x : Rat) := by
  show (x : Rat) / ((1 : Int) : Rat) = x
  rw [show ((1 : Int) : Rat) = 1 by rfl]
  grind
theorem ev_unitL {R k : Nat} {f : Nat → Rat} (hk : k < R) : ev 0 (unitL R k) f = f k := by
  have : ∀ (m i : Nat), ev i ((List.range' i m).map fun j => ((if j = k then 1 else 0 : Int), (1 : Int))) f = if i ≤ k ∧ k < i + m then f k else 0 := by
    intro m
    induction m with
    | zero => intro i; rw [if_neg (by omega)]; rfl
    | succ m ih =>
      intro i
      rw [List.range'_succ, List.map_cons]
      show vl _ * f i + ev (i + 1) _ f = _
      rw [ih (i + 1), vl_int]
      by_cases q : i = k
      · subst q
        rw [if_pos rfl, if_neg (by omega), if_pos (by omega), show ((1 : Int) : Rat) = 1 by rfl]
        grind
      · rw [if_neg q, show ((0 : Int) : Rat) = 0 by rfl]
        by_cases q2 : i + 1 ≤ k ∧ k < i + 1 + m
        · rw [if_pos q2, if_pos (by omega)]
          grind
        · rw [if_neg q2, if_neg (by omega)]
          grind
  have := this R 0
  rw [if_pos (by omega)] at this
  unfold unitL
  rw [List.range_eq_range']
  exact this
theorem unitL_get {R k i : Nat} (hk : k < R) : vl ((unitL R k).getD i (0, 1)) = if i = k then 1 else 0 := by
  unfold unitL
  rw [List.getD_eq_getElem?_getD, List.getElem?_map]
  by_cases h : i < R
  · rw [List.getElem?_range h]
    show vl ((if i = k then 1 else 0 : Int), 1) = _
    rw [vl_int]
    split <;> rfl
  · rw [List.getElem?_eq_none (by simp; omega), if_neg (by omega)]
    exact vl_zero
/-- all are as told at the start -/
structure Og1 (n : Nat) (o : Og) : Prop where
  l : o.1.length = n + 1
  b : ∀ x ∈ o.1, x.natAbs ≤ 16
theorem asRows_mem {os : List Og} {r : Rw} (h : r ∈ asRows os) : ∃ k, ∃ hk : k < os.length, r = ⟨lineOf os[k].1, os[k].2, unitL os.length k⟩ := by
  obtain ⟨k, hk, e⟩ := List.mem_mapIdx.mp h
  exact ⟨k, hk, e.symm⟩
theorem ok_start {n : Nat} {os : List Og} (h : ∀ o ∈ os, Og1 n o) : ∀ r ∈ asRows os, Ok n os.length r := by
  intro r hr
  obtain ⟨k, hk, rfl⟩ := asRows_mem hr
  refine ⟨by simp [lineOf, (h _ (List.getElem_mem hk)).l], by simp [unitL], fun p hp => ?_, fun p hp => ?_⟩
  · obtain ⟨x, _, rfl⟩ := List.mem_map.mp hp
    exact gd_one x
  · obtain ⟨x, _, rfl⟩ := List.mem_map.mp hp
    exact gd_one _
theorem sz_start {n : Nat} {os : List Og} (h : ∀ o ∈ os, Og1 n o) : ∀ r ∈ asRows os, SzR 4 0 r := by
  intro r hr
  obtain ⟨k, hk, rfl⟩ := asRows_mem hr
  refine ⟨fun p hp => ?_, fun p hp => ?_⟩
  · obtain ⟨x, hx, rfl⟩ := List.mem_map.mp hp
    exact ⟨show (0 : Int) < 1 by decide, by simpa using (h _ (List.getElem_mem hk)).b x hx, show (1 : Int).natAbs ≤ 2 ^ 0 by decide⟩
  · obtain ⟨x, _, rfl⟩ := List.mem_map.mp hp
    refine ⟨show (0 : Int) < 1 by decide, ?_, show (1 : Int).natAbs ≤ 2 ^ 0 by decide⟩
    show (if x = k then 1 else 0 : Int).natAbs ≤ 2 ^ 4 * 1
    split <;> decide
theorem getD_in {os : List Og} {k : Nat} (hk : k < os.length) : os.getD k ([], .le) = os[k] := by
  rw [List.getD_eq_getElem?_getD, List.getElem?_eq_getElem hk]
  rfl
theorem mu_start {os : List Og} : ∀ r ∈ asRows os, Mu (evO os) (sgO os) r := by
  intro r hr
  obtain ⟨k, hk, rfl⟩ := asRows_mem hr
  refine ⟨fun x => ?_, fun i hi => ?_, fun g i hi => ?_, fun g => ⟨k, ?_, ?_⟩⟩
  · show ev 0 (lineOf os[k].1) x = ev 0 (unitL os.length k) _
    rw [ev_unitL hk]
    unfold evO
    rw [getD_in hk]
  · show 0 ≤ vl ((unitL os.length k).getD i (0, 1))
    rw [unitL_get hk]
    split <;> decide
  · show vl ((unitL os.length k).getD i (0, 1)) = 0
    rw [unitL_get hk, if_neg]
    intro e
    subst e
    refine hi ?_
    unfold sgO
    rw [getD_in hk]
    exact g
  · unfold sgO
    rw [getD_in hk]
    exact g
  · show 0 < vl ((unitL os.length k).getD k (0, 1))
    rw [unitL_get hk, if_pos rfl]
    decide
/-! all numbers taken away -/
def stV : Nat → Nat × Nat
  | 0 => (4, 0)
  | k + 1 => (2 * (stV k).1 + (stV k).2 + 1, (stV k).1 + 4 * (stV k).2)
def levels (os : List Og) (k : Nat) : List Rw := (List.range k).foldl without (asRows os)
theorem levels_succ (os : List Og) (k : Nat) : levels os (k + 1) = without (levels os k) k := by
  unfold levels
  rw [List.range_succ, List.foldl_append]
  rfl
def stL : Nat → Nat
  | 0 => 5
  | k + 1 => stL k + stL k * stL k
structure Lv (n : Nat) (os : List Og) (k : Nat) : Prop where
  ok : ∀ r ∈ levels os k, Ok n os.length r
  sz : ∀ r ∈ levels os k, SzR (stV k).1 (stV k).2 r
  mu : ∀ r ∈ levels os k, Mu (evO os) (sgO os) r
  zc : Zc k (levels os k)
  ln : (levels os k).length ≤ stL k
theorem lv_all {n : Nat} {os : List Og} (h : ∀ o ∈ os, Og1 n o) (hl : os.length ≤ 5) : ∀ k, k ≤ n + 1 → Lv n os k
  | 0, _ => ⟨ok_start h, sz_start h, mu_start, fun r hr j hj => absurd hj (by omega), by unfold levels asRows; simpa [stL] using hl⟩
  | k + 1, hk => by
    have L := lv_all h hl k (by omega)
    refine ⟨?_, ?_, ?_, ?_, ?_⟩
    · rw [levels_succ]; exact ok_without (by omega) L.ok
    · rw [levels_succ]; exact sz_without (by omega) L.ok L.sz
    · rw [levels_succ]; exact mu_without (by omega) L.ok L.mu
    · rw [levels_succ]; exact zc_without (by omega) L.ok L.zc
    · rw [levels_succ]
      refine Nat.le_trans (without_len _ _) ?_
      have := L.ln
      have := Nat.mul_le_mul L.ln L.ln
      show _ ≤ stL k + stL k * stL k
      omega
theorem lv_unsat {n : Nat} {os : List Og} (h : ∀ o ∈ os, Og1 n o) (hl : os.length ≤ 5) (u : Unsat n (asRows os)) : ∀ k, k ≤ n → Unsat n (levels os k)
  | 0, _ => u
  | k + 1, hk => by
    rw [levels_succ]
    exact unsat_without (by omega) (lv_all h hl k (by omega)).ok (lv_unsat h hl u k (by omega))
def barsB (r : Rw) : Bool := decide ((lastF r.ln).1 > 0) || (decide ((lastF r.ln).1 = 0) && decide (r.sg = .lt) || decide ((lastF r.ln).1 < 0) && decide (r.sg = .eq))
def bars (os : List Og) (n : Nat) : Option (List Fr) := ((levels os n).find? barsB).map (·.tk)
theorem alone_zc {n R : Nat} {r : Rw} (h : Ok n R r) (z : ∀ j, j < n → vl (co r j) = 0) : aloneB r.ln = true := by
  unfold aloneB
  refine List.all_eq_true.mpr fun p hp => ?_
  obtain ⟨j, hj, rfl⟩ := List.getElem_of_mem hp
  rw [List.length_dropLast, h.ll] at hj
  have := z j (by omega)
  rw [co_get h (by omega)] at this
  rw [List.getElem_dropLast]
  simpa using (vl_eq0 (h.lg _ (List.getElem_mem _)).pos).mp this
theorem ln_ne {n R : Nat} {r : Rw} (h : Ok n R r) : r.ln ≠ [] := fun c => by
  have := h.ll
  rw [c] at this
  simp at this
/-- rows that can not be so are barred -/
theorem bars_some {n : Nat} {os : List Og} (h : ∀ o ∈ os, Og1 n o) (hl : os.length ≤ 5) (u : Unsat n (asRows os)) : ∃ t, bars os n = some t := by
  have L := lv_all h hl n (by omega)
  obtain ⟨r, hr, q⟩ := lv_unsat h hl u n (Nat.le_refl _) (unit n) (by unfold unit; rw [if_pos rfl])
  have ok := L.ok r hr
  rw [alone_ev (ln_ne ok) ok.lg (alone_zc ok (L.zc r hr)) _ (by rw [ok.ll]; unfold unit; rw [if_pos (by omega)])] at q
  have lg := last_gd (ln_ne ok) ok.lg
  have hb : barsB r = true := by
    have i0 := vl_eq0 lg.pos
    have i1 := vl_pos lg.pos
    have i2 := vl_neg lg.pos
    by_cases c1 : (lastF r.ln).1 > 0
    · simp [barsB, c1]
    · by_cases c0 : (lastF r.ln).1 = 0
      · have v0 := i0.mpr c0
        rw [v0] at q
        cases e : r.sg
        · simp [barsB, c0, e]
        · rw [e] at q; exact absurd (show (0 : Rat) ≤ 0 by decide) q
        · rw [e] at q; exact absurd (show (0 : Rat) = 0 by rfl) q
      · have v2 := i2.mpr (by omega)
        cases e : r.sg
        · rw [e] at q; exact absurd v2 q
        · rw [e] at q; exact absurd (show vl (lastF r.ln) ≤ 0 by grind) q
        · simp [barsB, e]; omega
  unfold bars
  cases e : (levels os n).find? barsB with
  | some r' => exact ⟨_, rfl⟩
  | none => exact absurd hb (by simpa using List.find?_eq_none.mp e r hr)
/-! own adding -/
def sumF (acc : List Fr) (l : List (Og × Fr)) : List Fr := l.foldl (fun a ov => lpF a (lineOf ov.1.1) ov.2) acc
def wordsF (l : List (Og × Fr)) : List Sg := (l.filter fun ov => decide (ov.2.1 ≠ 0)).map (·.1.2)
def negF (l : List (Og × Fr)) : Bool := l.any fun ov => decide (ov.2.1 < 0) && decide (ov.1.2 ≠ .eq)
def endF (s : Fr) (ws : List Sg) : Bool := decide (s.1 > 0) || (decide (s.1 = 0) && decide (.lt ∈ ws) || decide (s.1 ≠ 0) && ws.all fun g => decide (g = .eq))
def barV (n : Nat) (os : List Og) (vs : List Fr) : Bool := !negF (os.zip vs) && (aloneB (sumF (List.replicate (n + 1) (0, 1)) (os.zip vs)) && endF (lastF (sumF (List.replicate (n + 1) (0, 1)) (os.zip vs))) (wordsF (os.zip vs)))
theorem sum_len {n : Nat} : ∀ (l : List (Og × Fr)) (acc : List Fr), acc.length = n + 1 → (∀ ov ∈ l, Og1 n ov.1) → (sumF acc l).length = n + 1
  | [], acc, h, _ => h
  | ov :: l, acc, h, g => by
    refine sum_len l _ ?_ fun x hx => g x (List.mem_cons_of_mem _ hx)
    rw [lp_len (by rw [h]; simp [lineOf, (g ov (List.mem_cons_self ..)).l]), h]
theorem line_gd (f : List Int) : ∀ p ∈ lineOf f, Gd p := fun p hp => by
  obtain ⟨x, _, rfl⟩ := List.mem_map.mp hp
  exact gd_one x
theorem sum_gd {n : Nat} : ∀ (l : List (Og × Fr)) (acc : List Fr), (∀ p ∈ acc, Gd p) → (∀ ov ∈ l, 0 < ov.2.2) → ∀ p ∈ sumF acc l, Gd p
  | [], acc, h, _ => h
  | ov :: l, acc, h, g => sum_gd (n := n) l _ (lp_gd (g ov (List.mem_cons_self ..)) h (line_gd _)) fun x hx => g x (List.mem_cons_of_mem _ hx)
theorem sum_ev {n : Nat} {x : Nat → Rat} {f : Nat → Rat} : ∀ (os : List Og) (vs : List Fr) (acc : List Fr) (j : Nat), acc.length = n + 1 → (∀ p ∈ acc, Gd p) → os.length = vs.length → (∀ o ∈ os, Og1 n o) → (∀ v ∈ vs, 0 < v.2) →
    (∀ i, (h : i < os.length) → f (j + i) = ev 0 (lineOf os[i].1) x) → ev 0 (sumF acc (os.zip vs)) x = ev 0 acc x + ev j vs f
  | [], [], acc, j, _, _, _, _, _, _ => by show ev 0 acc x = ev 0 acc x + 0; grind
  | o :: os, v :: vs, acc, j, h1, h2, h3, h4, h5, h6 => by
    have ho := h4 o (List.mem_cons_self ..)
    have hv := h5 v (List.mem_cons_self ..)
    have ll : acc.length = (lineOf o.1).length := by rw [h1]; simp [lineOf, ho.l]
    have ih := sum_ev os vs (lpF acc (lineOf o.1) v) (j + 1) (by rw [lp_len ll, h1]) (lp_gd hv h2 (line_gd _)) (by simpa using h3) (fun x hx => h4 x (List.mem_cons_of_mem _ hx)) (fun x hx => h5 x (List.mem_cons_of_mem _ hx)) (fun i h => by
      have := h6 (i + 1) (by simpa using h)
      rw [show j + 1 + i = j + (i + 1) by omega]
      exact this)
    have e0 := h6 0 (by simp)
    show ev 0 (sumF (lpF acc (lineOf o.1) v) (os.zip vs)) x = ev 0 acc x + (vl v * f j + ev (j + 1) vs f)
    rw [ih, ev_lp hv 0 ll (fun p h => (h2 p h).pos) fun p h => (line_gd _ p h).pos, show f j = f (j + 0) by rfl, e0]
    show _ + vl v * ev 0 (lineOf o.1) x + _ = _
    rw [show (o :: os)[0].1 = o.1 by rfl]
    grind
theorem ev_noughts {x : Nat → Rat} : ∀ (m i : Nat), ev i (List.replicate m (0, 1)) x = 0
  | 0, i => rfl
  | m + 1, i => by
    show vl (0, 1) * x i + ev (i + 1) (List.replicate m (0, 1)) x = 0
    rw [ev_noughts m, vl_zero]
    grind
theorem last_get {n : Nat} {l : List Fr} (h : l.length = n + 1) : lastF l = l[n] := by
  unfold lastF
  have h0 : l ≠ [] := fun c => by rw [c] at h; simp at h
  rw [List.getLastD_eq_getLast?, List.getLast?_eq_some_getLast h0]
  show l.getLast h0 = _
  rw [List.getLast_eq_getElem]
  congr 1
  omega
/-- the multiples that are told do bar -/
theorem bars_sound {n : Nat} {os : List Og} (h : ∀ o ∈ os, Og1 n o) (hl : os.length ≤ 5) {t : List Fr} (e : bars os n = some t) : barV n os t = true ∧ t.length = os.length ∧ (∀ p ∈ t, Gd p) ∧ ∀ p ∈ t, Sz (stV n).1 (stV n).2 p := by
  have L := lv_all h hl n (by omega)
  unfold bars at e
  obtain ⟨r, hf, rfl⟩ := Option.map_eq_some_iff.mp e
  have hr := List.mem_of_find?_eq_some hf
  have hb : barsB r = true := List.find?_some hf
  have ok := L.ok r hr
  have mu := L.mu r hr
  refine ⟨?_, ok.tl, ok.tg, (L.sz r hr).t⟩
  have zl : ∀ ov ∈ os.zip r.tk, ∃ i, ∃ hi : i < os.length, ∃ hi2 : i < r.tk.length, ov = (os[i], r.tk[i]) := fun ov hov => by
    obtain ⟨i, hi, rfl⟩ := List.getElem_of_mem hov
    rw [List.length_zip] at hi
    exact ⟨i, by omega, by omega, List.getElem_zip⟩
  have gt : ∀ i, (hi : i < r.tk.length) → r.tk.getD i (0, 1) = r.tk[i] := fun i hi => by
    rw [List.getD_eq_getElem?_getD, List.getElem?_eq_getElem hi]
    rfl
  have go : ∀ i, (hi : i < os.length) → sgO os i = os[i].2 := fun i hi => by
    unfold sgO
    rw [getD_in hi]
  have hneg : negF (os.zip r.tk) = false := by
    unfold negF
    rw [List.any_eq_false]
    intro ov hov
    obtain ⟨i, hi, hi2, rfl⟩ := zl ov hov
    have := mu.nn i
    rw [go i hi, gt i hi2] at this
    by_cases q : os[i].2 = .eq
    · simp [q]
    · have := this q
      have := vl_neg (ok.tg _ (List.getElem_mem hi2)).pos
      simp [q]
      by_cases c : (r.tk[i]).1 < 0
      · have := this.mpr c
        grind
      · omega
  have acc1 : (List.replicate (n + 1) ((0, 1) : Fr)).length = n + 1 := by simp
  have acc2 : ∀ p ∈ List.replicate (n + 1) ((0, 1) : Fr), Gd p := fun p hp => by rw [List.eq_of_mem_replicate hp]; exact gd_one 0
  have zo : ∀ ov ∈ os.zip r.tk, Og1 n ov.1 := fun ov hov => by
    obtain ⟨i, hi, hi2, rfl⟩ := zl ov hov
    exact h _ (List.getElem_mem hi)
  have zp : ∀ ov ∈ os.zip r.tk, 0 < ov.2.2 := fun ov hov => by
    obtain ⟨i, hi, hi2, rfl⟩ := zl ov hov
    exact (ok.tg _ (List.getElem_mem hi2)).pos
  have sl := sum_len (os.zip r.tk) (List.replicate (n + 1) ((0, 1) : Fr)) acc1 zo
  have sg := sum_gd (n := n) (os.zip r.tk) (List.replicate (n + 1) ((0, 1) : Fr)) acc2 zp
  have se : ∀ x, ev 0 (sumF (List.replicate (n + 1) (0, 1)) (os.zip r.tk)) x = ev 0 r.ln x := fun x => by
    rw [sum_ev (f := fun i => evO os i x) os r.tk (List.replicate (n + 1) ((0, 1) : Fr)) 0 acc1 acc2 ok.tl.symm h (fun v hv => (ok.tg v hv).pos) (fun i hi => by
      rw [Nat.zero_add]
      unfold evO
      rw [getD_in hi]), ev_noughts, mu.val x]
    grind
  unfold barV
  rw [hneg]
  generalize sumF (List.replicate (n + 1) ((0, 1) : Fr)) (os.zip r.tk) = S at *
  have col : ∀ j (hj : j < n + 1), vl (S[j]'(by omega)) = vl (r.ln[j]'(by rw [ok.ll]; exact hj)) := fun j hj => by
    have e1 := ev_unit (l := S) 0 j (by omega)
    have e2 := ev_unit (l := r.ln) 0 j (by rw [ok.ll]; exact hj)
    rw [← e1, ← e2]
    exact se _
  have al : aloneB S = true := by
    unfold aloneB
    refine List.all_eq_true.mpr fun p hp => ?_
    obtain ⟨j, hj, rfl⟩ := List.getElem_of_mem hp
    rw [List.length_dropLast, sl] at hj
    have z := L.zc r hr j (by omega)
    rw [co_get ok (by omega), ← col j (by omega)] at z
    rw [List.getElem_dropLast]
    simpa using (vl_eq0 (sg _ (List.getElem_mem _)).pos).mp z
  rw [al]
  have le : vl (lastF S) = vl (lastF r.ln) := by
    rw [last_get sl, last_get ok.ll]
    exact col n (by omega)
  have sp : 0 < (lastF S).2 := by rw [last_get sl]; exact (sg _ (List.getElem_mem _)).pos
  have lp : 0 < (lastF r.ln).2 := (last_gd (ln_ne ok) ok.lg).pos
  have i0 := vl_eq0 sp
  have i1 := vl_pos sp
  have i2 := vl_neg sp
  have j0 := vl_eq0 lp
  have j1 := vl_pos lp
  have j2 := vl_neg lp
  rw [le] at i0 i1 i2
  show endF (lastF S) (wordsF (os.zip r.tk)) = true
  unfold endF
  simp only [barsB, Bool.or_eq_true, Bool.and_eq_true, decide_eq_true_eq] at hb
  rcases hb with c | ⟨c, c2⟩ | ⟨c, c2⟩
  · have := i1.mp (j1.mpr c)
    simp [this]
  · have c' := i0.mp (j0.mpr c)
    obtain ⟨i, hi, hp⟩ := mu.lt c2
    have ir : i < r.tk.length := by
      by_cases q : i < r.tk.length
      · exact q
      · rw [List.getD_eq_getElem?_getD, List.getElem?_eq_none (by omega)] at hp
        exact absurd hp (by rw [show vl ((none : Option Fr).getD (0, 1)) = 0 from vl_zero]; decide)
    have io : i < os.length := by rw [← ok.tl]; exact ir
    rw [gt i ir] at hp
    rw [go i io] at hi
    have hw : .lt ∈ wordsF (os.zip r.tk) := by
      unfold wordsF
      refine List.mem_map.mpr ⟨(os[i], r.tk[i]), List.mem_filter.mpr ⟨?_, ?_⟩, hi⟩
      · refine List.mem_iff_getElem.mpr ⟨i, by rw [List.length_zip]; omega, List.getElem_zip⟩
      · have := (vl_pos (ok.tg _ (List.getElem_mem ir)).pos).mp hp
        simp
        omega
    simp [c', hw]
  · have c' := i2.mp (j2.mpr c)
    have hw : (wordsF (os.zip r.tk)).all (fun g => decide (g = .eq)) = true := by
      refine List.all_eq_true.mpr fun g hg => ?_
      unfold wordsF at hg
      obtain ⟨ov, hov, rfl⟩ := List.mem_map.mp hg
      obtain ⟨m1, m2⟩ := List.mem_filter.mp hov
      obtain ⟨i, hi, hi2, rfl⟩ := zl ov m1
      by_cases q : os[i].2 = .eq
      · simpa using q
      · exfalso
        have := mu.eq c2 i
        rw [go i hi, gt i hi2] at this
        have := (vl_eq0 (ok.tg _ (List.getElem_mem hi2)).pos).mp (this q)
        simp [this] at m2
    have c0 : (lastF S).1 ≠ 0 := by omega
    simp [c0, hw]
end K42
end
section
/-! FRACTIONs reckoned with; what is the same -/
namespace Y
open PySem PySem.Spec PyProof.Rows L2
theorem take_mv {g n : Nat} {S S' : Store} (h : Mv g n S S') : S'.take S.length = S' := by rw [← h.length, List.take_length]
theorem eq_of {A B : D} {neg b : Bool} {S : Store} (h1 : eqOk A B = true) (h2 : deq A B = b) : opEq neg (.d A) (.d B) S = .ok (.d (.bl (if neg then !b else b))) S := by
  simp only [opEq, deref_d, if_pos h1, h2]
/-- plain data of depth k at most -/
def pl : Nat → D → Bool
  | _, .non => true
  | _, .bl _ => true
  | _, .int _ => true
  | _, .str x => PyData.strOk x
  | k + 1, .tup l => l.all (pl k)
  | k + 1, .lst l => l.all (pl k)
  | _, _ => false
theorem pls_ok {k : Nat} (ih : ∀ d, pl k d = true → ∃ p, toPy d = some p ∧ p.canLay0 = true ∧ p.depth ≤ k) : ∀ {l : List D}, l.all (pl k) = true → ∃ ps, toPys l = some ps ∧ PyData.canLayAll0 ps = true ∧ PyData.depthAll ps ≤ k
  | [], _ => ⟨[], rfl, rfl, by simp [PyData.depthAll]⟩
  | d :: l, h => by
    rw [List.all_cons, Bool.and_eq_true] at h
    obtain ⟨p, h1, h2, h3⟩ := ih d h.1
    obtain ⟨ps, q1, q2, q3⟩ := pls_ok ih h.2
    refine ⟨p :: ps, by simp [toPys, h1, q1], by simp [PyData.canLayAll0, h2, q2], ?_⟩
    simp only [PyData.depthAll]
    omega
theorem pl_ok : ∀ (k : Nat) (d : D), pl k d = true → ∃ p, toPy d = some p ∧ p.canLay0 = true ∧ p.depth ≤ k
  | k, .non, _ => ⟨.none, rfl, rfl, by simp [PyData.depth]⟩
  | k, .bl b, _ => ⟨.bool b, rfl, rfl, by simp [PyData.depth]⟩
  | k, .int b, _ => ⟨.int b, rfl, rfl, by simp [PyData.depth]⟩
  | k, .str b, h => ⟨.str b, rfl, by unfold pl at h; simpa [PyData.canLay0] using h, by simp [PyData.depth]⟩
  | k + 1, .tup l, h => by
    unfold pl at h
    obtain ⟨ps, q1, q2, q3⟩ := pls_ok (pl_ok k) h
    exact ⟨.tuple ps, by simp [toPy, q1], by simpa [PyData.canLay0] using q2, by simp only [PyData.depth]; omega⟩
  | k + 1, .lst l, h => by
    unfold pl at h
    obtain ⟨ps, q1, q2, q3⟩ := pls_ok (pl_ok k) h
    exact ⟨.list ps, by simp [toPy, q1], by simpa [PyData.canLay0] using q2, by simp only [PyData.depth]; omega⟩
  | 0, .tup l, h => by simp [pl] at h
  | 0, .lst l, h => by simp [pl] at h
  | k, .fls l, h => by cases k <;> simp [pl] at h
  | k, .dct _ l, h => by cases k <;> simp [pl] at h
  | k, .gl l, h => by cases k <;> simp [pl] at h
  | k, .ty l, h => by cases k <;> simp [pl] at h
  | k, .exo _ _ l, h => by cases k <;> simp [pl] at h
theorem pl_shp {k : Nat} {d : D} (h : pl k d = true) (hk : k ≤ 64) : d.shp = true := by
  obtain ⟨p, h1, h2, h3⟩ := pl_ok k d h
  unfold D.shp
  rw [h1]
  show SeqAt.shaped p = true
  unfold SeqAt.shaped
  rw [h2, Bool.true_and]
  exact decide_eq_true (by omega)
theorem pl_eqOk {k : Nat} {d e : D} (h : pl k d = true) (h2 : pl k e = true) (hk : k ≤ 64) : eqOk d e = true := by
  unfold eqOk
  rw [pl_shp h hk, pl_shp h2 hk]
  simp
theorem pl_refl {k : Nat} {d : D} (h : pl k d = true) : deq d d = true := by
  obtain ⟨p, h1, h2, h3⟩ := pl_ok k d h
  unfold deq
  rw [h1]
  exact SeqAt.eqv_refl p h2
theorem eq_self {k : Nat} {d : D} (h : pl k d = true) (hk : k ≤ 64) {neg : Bool} {S : Store} : opEq neg (.d d) (.d d) S = .ok (.d (.bl (!neg))) S := by
  rw [eq_of (pl_eqOk h h hk) (pl_refl h)]
  cases neg <;> rfl
/-- a list and the empty one -/
theorem eq_nil {k : Nat} {l : List D} (h : pl k (.lst l) = true) (hk : k ≤ 64) {neg : Bool} {S : Store} : opEq neg (.d (.lst l)) (.d (.lst [])) S = .ok (.d (.bl (if neg then !l.isEmpty else l.isEmpty))) S := by
  have h0 : pl k (.lst []) = true := by
    cases k with
    | zero => simp [pl] at h
    | succ k => simp [pl]
  refine eq_of (pl_eqOk h h0 hk) ?_
  obtain ⟨p, h1, h2, h3⟩ := pl_ok k _ h
  cases l with
  | nil => rfl
  | cons d l =>
    unfold deq
    rw [h1]
    unfold toPy at h1
    cases q : toPys (d :: l) with
    | none => rw [q] at h1; cases h1
    | some ps =>
      rw [q] at h1
      cases h1
      cases ps with
      | nil =>
        unfold toPys at q
        split at q <;> cases q
      | cons p ps => rfl
def dqs : List D → List D → Bool
  | [], [] => true
  | a :: l, b :: m => deq a b && dqs l m
  | _, _ => false
theorem dqs_ok : ∀ (l m : List D) {ps qs : List PyData}, toPys l = some ps → toPys m = some qs → PyData.eqvAll ps qs = dqs l m
  | [], [], ps, qs, h1, h2 => by cases h1; cases h2; rfl
  | [], b :: m, ps, qs, h1, h2 => by
    cases h1
    cases qs with
    | nil => unfold toPys at h2; split at h2 <;> cases h2
    | cons q qs => rfl
  | a :: l, [], ps, qs, h1, h2 => by
    cases h2
    cases ps with
    | nil => unfold toPys at h1; split at h1 <;> cases h1
    | cons q qs => rfl
  | a :: l, b :: m, ps, qs, h1, h2 => by
    unfold toPys at h1 h2
    split at h1
    · rename_i p ps' e1 e2
      split at h2
      · rename_i q qs' e3 e4
        cases h1
        cases h2
        show (PyData.eqv p q && PyData.eqvAll ps' qs') = (deq a b && dqs l m)
        rw [dqs_ok l m e2 e4]
        unfold deq
        rw [e1, e3]
      · cases h2
    · cases h1
theorem deq_tup {k : Nat} {l m : List D} (h : pl k (.tup l) = true) (h2 : pl k (.tup m) = true) : deq (.tup l) (.tup m) = dqs l m := by
  cases k with
  | zero => simp [pl] at h
  | succ k =>
    unfold pl at h h2
    obtain ⟨ps, q1, _, _⟩ := pls_ok (pl_ok k) h
    obtain ⟨qs, q2, _, _⟩ := pls_ok (pl_ok k) h2
    unfold deq
    simp only [toPy, q1, q2]
    show PyData.eqvAll ps qs = _
    exact dqs_ok l m q1 q2
theorem deq_lst {k : Nat} {l m : List D} (h : pl k (.lst l) = true) (h2 : pl k (.lst m) = true) : deq (.lst l) (.lst m) = dqs l m := by
  cases k with
  | zero => simp [pl] at h
  | succ k =>
    unfold pl at h h2
    obtain ⟨ps, q1, _, _⟩ := pls_ok (pl_ok k) h
    obtain ⟨qs, q2, _, _⟩ := pls_ok (pl_ok k) h2
    unfold deq
    simp only [toPy, q1, q2]
    show PyData.eqvAll ps qs = _
    exact dqs_ok l m q1 q2
end Y
namespace K42
open PySem PySem.Spec PyProof.Rows L2 Y
def frD (p : Int × Int) : D := .tup [.int p.1, .int p.2]
theorem fmod_nat (a b : Nat) (h : b ≠ 0) : Int.fmod (a : Int) (b : Int) = ((a % b : Nat) : Int) := by
  rw [Int.fmod_eq_emod_of_nonneg _ (by omega)]
  rfl
theorem abs_nat (x : Int) : (if x < 0 then -x else x) = ((x.natAbs : Nat) : Int) := by split <;> omega
theorem fuel_big {n : Nat} (h : n < 100000000000) : n < fuelW := by
  have : fuelW = 1000000000000000000000000000000 := rfl
  omega
theorem log_pow {n k : Nat} (h : n ≤ 2 ^ k) (hk : k ≤ 2500) : n.log2 < 3000 := by
  by_cases e : n = 0
  · subst e; simp
  · have h2 : 2 ^ k < 2 ^ (k + 1) := Nat.pow_lt_pow_right (by decide) (by omega)
    have := (Nat.log2_lt e).mpr (show n < 2 ^ (k + 1) by omega)
    omega
theorem mul_pow {x y : Int} {k k' : Nat} (h1 : x.natAbs ≤ 2 ^ k) (h2 : y.natAbs ≤ 2 ^ k') (hk : k ≤ 2500) (hk' : k' ≤ 2500) : mulOk x y = true := mulOk_of (by have := log_pow h1 hk; omega) (by have := log_pow h2 hk'; omega)
/-- the package's -/
theorem fraction_ok {p q : Int} {k : Nat} (hq : 0 < q) (h2 : q.natAbs ≤ 2 ^ k) (hk : k ≤ 2500) {S : Store} : F_fraction [.d (.int p), .d (.int q)] S = .ok (.d (frD (nrm p q))) S := by
  have hg : 0 < Nat.gcd p.natAbs q.natAbs := Nat.gcd_pos_of_pos_right _ (by omega)
  have hgq : Nat.gcd p.natAbs q.natAbs ≤ q.natAbs := Nat.gcd_le_right _ (by omega)
  have gq : bGcd [.d (.int p), .d (.int q)] S = .ok (.d (.int (Nat.gcd p.natAbs q.natAbs : Nat))) S := by simp
  unfold nrm
  generalize Nat.gcd p.natAbs q.natAbs = g at hg hgq gq
  have lg : g.log2 < 3000 := log_pow (Nat.le_trans hgq h2) hk
  have mo : mulOk (g : Int) 1 = true := mulOk_of (by simp; omega) (by decide)
  have g0 : g ≠ 0 := by omega
  have lg2 : g.log2 < 9000 := by omega
  have hq' : q > 0 := hq
  unfold F_fraction b_fraction
  simp only [gcd_int] at gq
  have gq' : ∀ S, bGcd [.d (.int p), .d (.int q)] S = .ok (.d (.int g)) S := fun S => by
    have := Res.ok.inj gq
    rw [gcd_int]
    rw [this.1]
  simp [mkFn_eq, gq', hq', mo, g0, lg2, frD, -gcd_int]
theorem times_ok {a b : Int × Int} {V B V' B' : Nat} (h : Sz V B a) (h' : Sz V' B' b) (hk : V + B + (V' + B') ≤ 2500) {S : Store} : F_times [.d (frD a), .d (frD b)] S = .ok (.d (frD (tmF a b))) S := by
  have o1 := mul_pow h.big h'.big (by omega) (by omega)
  have o2 := mul_pow h.den h'.den (by omega) (by omega)
  have f := fun S => fraction_ok (p := a.1 * b.1) (q := a.2 * b.2) (k := B + B') (Int.mul_pos h.pos h'.pos) (by rw [Int.natAbs_mul, Nat.pow_add]; exact Nat.mul_le_mul h.den h'.den) (by omega) (S := S)
  unfold tmF
  generalize nrm (a.1 * b.1) (a.2 * b.2) = r at *
  unfold F_times b_times
  simp only [frD] at *
  simp [mkFn_eq, o1, o2, f]
theorem sum_ok {a b : Int × Int} {V B V' B' : Nat} (h : Sz V B a) (h' : Sz V' B' b) (hk : V + B + (V' + B') ≤ 2500) {S : Store} : F_sum_of [.d (frD a), .d (frD b)] S = .ok (.d (frD (plF a b))) S := by
  have o1 := mul_pow h.big h'.den (by omega) (by omega)
  have o2 := mul_pow h'.big h.den (by omega) (by omega)
  have o3 := mul_pow h.den h'.den (by omega) (by omega)
  have f := fun S => fraction_ok (p := a.1 * b.2 + b.1 * a.2) (q := a.2 * b.2) (k := B + B') (Int.mul_pos h.pos h'.pos) (by rw [Int.natAbs_mul, Nat.pow_add]; exact Nat.mul_le_mul h.den h'.den) (by omega) (S := S)
  unfold plF
  generalize nrm (a.1 * b.2 + b.1 * a.2) (a.2 * b.2) = r at *
  unfold F_sum_of b_sum_of
  simp only [frD] at *
  simp [mkFn_eq, o1, o2, o3, f]
/-- the law's Euclid, of great numbers: two turns halve the second one -/
theorem eucB {x y : Option Wt} {b0 : Nat} {S : Store} : ∀ (k low high N : Nat), high < 2 ^ k → 2 * k + 1 ≤ N → whileN (tBl (eOp opGt (eVar 3) (eC (.int 0)))) (sPar 2 3 (aCons (eVar 3) (aCons (eOp opMod (eB bInt (aCons (eVar 2) (aNil))) (eVar 3)) (aNil)))) N b0 [x, y, some (.d (.int low)), some (.d (.int high))] S
    = .nx [x, y, some (.d (.int (Nat.gcd low high))), some (.d (.int 0))] S := by
  have stop : ∀ (low N : Nat), 1 ≤ N → whileN (tBl (eOp opGt (eVar 3) (eC (.int 0)))) (sPar 2 3 (aCons (eVar 3) (aCons (eOp opMod (eB bInt (aCons (eVar 2) (aNil))) (eVar 3)) (aNil)))) N b0 [x, y, some (.d (.int low)), some (.d (.int (0 : Nat)))] S
      = .nx [x, y, some (.d (.int (Nat.gcd low 0))), some (.d (.int 0))] S := fun low N hN => by
    rw [while_turn (by omega)]
    simp
  have turn : ∀ (low h N : Nat), 1 ≤ N → 0 < h → whileN (tBl (eOp opGt (eVar 3) (eC (.int 0)))) (sPar 2 3 (aCons (eVar 3) (aCons (eOp opMod (eB bInt (aCons (eVar 2) (aNil))) (eVar 3)) (aNil)))) N b0 [x, y, some (.d (.int low)), some (.d (.int h))] S
      = whileN (tBl (eOp opGt (eVar 3) (eC (.int 0)))) (sPar 2 3 (aCons (eVar 3) (aCons (eOp opMod (eB bInt (aCons (eVar 2) (aNil))) (eVar 3)) (aNil)))) (N - 1) b0 [x, y, some (.d (.int h)), some (.d (.int (low % h : Nat)))] S := fun low h N hN hh => by
    have hf := fmod_nat low h (by omega)
    have h0 : (h : Int) ≠ 0 := by omega
    have h3 : (h : Int) > 0 := by omega
    rw [while_turn (by omega)]
    generalize (h : Int) = z at hf h0 h3 ⊢
    generalize ((low % h : Nat) : Int) = w at hf ⊢
    simp [hf, h0, h3]
  have gr : ∀ low h : Nat, Nat.gcd h (low % h) = Nat.gcd low h := fun low h => by rw [Nat.gcd_comm low, Nat.gcd_rec h low, Nat.gcd_comm]
  intro k
  induction k with
  | zero =>
    intro low high N h1 h2
    have : high = 0 := by omega
    subst this
    exact stop low N (by omega)
  | succ k ih =>
    intro low high N h1 h2
    by_cases h0 : high = 0
    · subst h0
      exact stop low N (by omega)
    · rw [turn low high N (by omega) (by omega)]
      by_cases h4 : low % high = 0
      · rw [h4, stop high (N - 1) (by omega), ← gr low high, h4]
      · have hm : low % high < high := Nat.mod_lt _ (by omega)
        rw [turn high (low % high) (N - 1) (by omega) (by omega)]
        have hm2 : high % (low % high) < low % high := Nat.mod_lt _ (by omega)
        have half : high % (low % high) < 2 ^ k := by
          rw [Nat.pow_succ] at h1
          by_cases h5 : low % high ≤ 2 ^ k
          · omega
          · have : high % (low % high) = high - low % high := by
              rw [Nat.mod_eq_sub_mod (by omega), Nat.mod_eq_of_lt (by omega)]
            omega
        rw [ih (low % high) (high % (low % high)) (N - 1 - 1) half (by omega), gr, gr]
theorem ratio_big {p q : Int} {k : Nat} (hq : 0 < q) (h2 : q.natAbs ≤ 2 ^ k) (hk : k ≤ 2500) {S : Store} : F__law_part_of [.d (.int p), .d (.int q)] S = .ok (.d (frD (nrm p q))) S := by
  have e := eucB (x := some (.d (.int p))) (y := some (.d (.int q))) (b0 := S.length) (S := S) (k + 1) p.natAbs q.natAbs fuelW (by rw [Nat.pow_succ]; have : 0 < 2 ^ k := Nat.two_pow_pos k; omega) (Nat.le_of_lt (fuel_big (by omega)))
  have hqa : ((q.natAbs : Nat) : Int) = q := by omega
  have hg : 0 < Nat.gcd p.natAbs q.natAbs := Nat.gcd_pos_of_pos_right _ (by omega)
  have hg2 : Nat.gcd p.natAbs q.natAbs ≤ q.natAbs := Nat.gcd_le_right _ (by omega)
  have hl : (Nat.gcd p.natAbs q.natAbs).log2 < 9000 := by
    have := log_pow (Nat.le_trans hg2 h2) hk
    omega
  rw [hqa] at e
  have ha := abs_nat p
  unfold nrm
  generalize Nat.gcd p.natAbs q.natAbs = g at *
  have g0 : g ≠ 0 := by omega
  unfold F__law_part_of b__law_part_of
  simp [mkFn_eq, ha, e, g0, hl, frD]
theorem ltimes_ok {a b : Int × Int} {V B V' B' : Nat} (h : Sz V B a) (h' : Sz V' B' b) (hk : V + B + (V' + B') ≤ 2500) {S : Store} : F__law_times [.d (frD a), .d (frD b)] S = .ok (.d (frD (tmF a b))) S := by
  have o1 := mul_pow h.big h'.big (by omega) (by omega)
  have o2 := mul_pow h.den h'.den (by omega) (by omega)
  have f := fun S => ratio_big (p := a.1 * b.1) (q := a.2 * b.2) (k := B + B') (Int.mul_pos h.pos h'.pos) (by rw [Int.natAbs_mul, Nat.pow_add]; exact Nat.mul_le_mul h.den h'.den) (by omega) (S := S)
  unfold tmF
  generalize nrm (a.1 * b.1) (a.2 * b.2) = r at *
  unfold F__law_times b__law_times
  simp only [frD] at *
  simp [mkFn_eq, o1, o2, f]
theorem lplus_ok {a b : Int × Int} {V B V' B' : Nat} (h : Sz V B a) (h' : Sz V' B' b) (hk : V + B + (V' + B') ≤ 2500) {S : Store} : F__law_plus [.d (frD a), .d (frD b)] S = .ok (.d (frD (plF a b))) S := by
  have o1 := mul_pow h.big h'.den (by omega) (by omega)
  have o2 := mul_pow h'.big h.den (by omega) (by omega)
  have o3 := mul_pow h.den h'.den (by omega) (by omega)
  have f := fun S => ratio_big (p := a.1 * b.2 + b.1 * a.2) (q := a.2 * b.2) (k := B + B') (Int.mul_pos h.pos h'.pos) (by rw [Int.natAbs_mul, Nat.pow_add]; exact Nat.mul_le_mul h.den h'.den) (by omega) (S := S)
  unfold plF
  generalize nrm (a.1 * b.2 + b.1 * a.2) (a.2 * b.2) = r at *
  unfold F__law_plus b__law_plus
  simp only [frD] at *
  simp [mkFn_eq, o1, o2, o3, f]
theorem lover_ok {a b : Int × Int} {V B V' B' : Nat} (h : Sz V B a) (h' : Sz V' B' b) (h0 : b.1 ≠ 0) (hk : V + B + (V' + B') ≤ 2500) {S : Store} : F__law_over [.d (frD a), .d (frD b)] S = .ok (.d (frD (ovF a b))) S := by
  have o1 := mul_pow h.big h'.den (by omega) (by omega)
  have q1 : (a.1 * b.2).natAbs ≤ 2 ^ (V + B + B') := by
    rw [Int.natAbs_mul, Nat.pow_add]
    exact Nat.mul_le_mul h.big h'.den
  have o2 : mulOk (a.1 * b.2) (sgn1 b.1) = true := mul_pow (k := V + B + B') (k' := 0) q1 (by rw [sgn1_abs]; decide) (by omega) (by decide)
  have o3 : mulOk a.2 (if b.1 < 0 then -b.1 else b.1) = true := mul_pow (k := B) (k' := V' + B') h.den (by rw [abs_nat, Int.natAbs_natCast]; exact h'.big) (by omega) (by omega)
  have f := fun S => ratio_big (p := a.1 * b.2 * sgn1 b.1) (q := a.2 * (b.1.natAbs : Int)) (k := B + (V' + B')) (Int.mul_pos h.pos (by omega)) (by rw [Int.natAbs_mul, Int.natAbs_natCast, Nat.pow_add]; exact Nat.mul_le_mul h.den h'.big) (by omega) (S := S)
  have ea := abs_nat b.1
  have es : (if b.1 > 0 then (1 : Int) else -1) = sgn1 b.1 := rfl
  unfold ovF
  generalize nrm (a.1 * b.2 * sgn1 b.1) (a.2 * (b.1.natAbs : Int)) = r at *
  rw [ea] at o3
  unfold F__law_over b__law_over
  simp only [frD] at *
  by_cases hb : b.1 > 0
  · rw [if_pos hb] at es
    rw [← es] at o2 f
    simp only [Int.mul_one] at f
    simp [mkFn_eq, o1, o2, o3, f, hb, ea]
  · rw [if_neg hb] at es
    rw [← es] at o2 f
    simp only [Int.mul_neg, Int.mul_one] at f
    simp [mkFn_eq, o1, o2, o3, f, hb, ea]
theorem sign_ok {p : Int × Int} {S : Store} : F__law_sign [.d (frD p)] S = .ok (.d (.int (b2i (decide (p.1 > 0)) - b2i (decide (p.1 < 0))))) S := by
  unfold F__law_sign b__law_sign
  simp [mkFn_eq, frD]
end K42
end
section
/-! lines and rows as deep values -/
namespace Y
open PySem PySem.Spec PyProof.Rows L2
theorem cut_init (l : List D) : Y.cutD l none (some (-1)) = l.dropLast := by
  unfold Y.cutD
  rw [HT.sIx_none]
  show (l.drop 0).take ((if (-1 : Int) < 0 then ((-1 : Int) + (l.length : Int)).toNat else min (-1 : Int).toNat l.length) - 0) = _
  rw [if_pos (by decide), List.drop_zero, List.dropLast_eq_take]
  congr 1
  omega
theorem cut_from (l : List D) (k : Nat) : Y.cutD l (some (k : Int)) none = l.drop k := by
  unfold Y.cutD
  rw [HT.sIx_none, HT.sIx_nat]
  by_cases hk : k ≤ l.length
  · rw [Nat.min_eq_left hk, List.take_of_length_le (by simp)]
  · rw [Nat.min_eq_right (by omega), List.drop_eq_nil_of_le (show l.length ≤ k by omega)]
    simp
theorem cut_to (l : List D) (k : Nat) : Y.cutD l none (some (k : Int)) = l.take k := by
  unfold Y.cutD
  rw [HT.sIx_none, HT.sIx_nat, List.drop_zero]
  by_cases hk : k ≤ l.length
  · rw [Nat.min_eq_left hk]; simp
  · rw [Nat.min_eq_right (by omega), List.take_of_length_le (show l.length ≤ k by omega), List.take_of_length_le (by omega)]
@[simp] theorem iZipX_ap {g : AM} {σ : Ev} {S : Store} : iZipX g σ S = (g σ S).bind fun ds S1 => match ds with
  | [d, e] => (fz1 S1 d).bind fun x S2 => (fz1 S2 e).bind fun y S3 => optZ3 S3 x y
  | _ => .bad := id rfl
@[simp] theorem optZ3_tt {l m : List D} {S : Store} : optZ3 S (.tup l) (.tup m) = .ok (zipD l m) S := id rfl
@[simp] theorem optZ3_lt {l m : List D} {S : Store} : optZ3 S (.lst l) (.tup m) = .ok (zipD l m) S := id rfl
@[simp] theorem items_tup {l : List D} : itemsOf (.tup l) = some l := id rfl
@[simp] theorem items_lst {l : List D} : itemsOf (.lst l) = some l := id rfl
section
variable {g : GM} {t : TM} {e : EM} {σw : Ev} {n b : Nat}
theorem lc_filterA {α : Type} (c h : α → D) (q : α → Bool) : ∀ (xs : List α) (acc : List D) (S : Store), S.length = n → (∀ x ∈ xs, ∀ acc', ∃ σ2, g (.d (c x)) σw (S ++ [.lst acc']) = .ok σ2 (S ++ [.lst acc']) ∧ t σ2 (S ++ [.lst acc']) = .ok (q x) (S ++ [.lst acc']) ∧ (q x = true → e σ2 (S ++ [.lst acc']) = .ok (.d (h x)) (S ++ [.lst acc']))) →
    acc.length + xs.length ≤ lim → lcN g t e σw n (xs.map c) (S ++ [.lst acc]) = some (S ++ [.lst (acc ++ (xs.filter q).map h)])
  | [], acc, S, hn, _, _ => by simp [lcN]
  | d :: ds, acc, S, hn, hd, hl => by
    obtain ⟨σ2, h1, h2, h3⟩ := hd d (List.mem_cons_self ..) acc
    rw [List.length_cons] at hl
    rw [List.map_cons]
    cases hq : q d with
    | true =>
      rw [hq] at h2
      rw [lcN_keep hn h1 h2 (h3 hq) (by omega), lc_filterA c h q ds _ S hn (fun x hx => hd x (List.mem_cons_of_mem _ hx)) (by rw [List.length_append, List.length_singleton]; omega)]
      simp [hq]
    | false =>
      rw [hq] at h2
      rw [lcN_skip hn h1 h2, lc_filterA c h q ds _ S hn (fun x hx => hd x (List.mem_cons_of_mem _ hx)) (by omega)]
      simp [hq]
theorem eLc_filterA {α : Type} {w : IM} {vs : List Nat} {σ : Ev} {S0 S : Store} {xs : List α} (c h : α → D) (q : α → Bool) (hw : w σ S0 = .ok (xs.map c) S) (hl : xs.length ≤ lim)
    (hd : ∀ x ∈ xs, ∀ acc', ∃ σ2, g (.d (c x)) (wipeD σ vs) (S ++ [.lst acc']) = .ok σ2 (S ++ [.lst acc']) ∧ t σ2 (S ++ [.lst acc']) = .ok (q x) (S ++ [.lst acc']) ∧ (q x = true → e σ2 (S ++ [.lst acc']) = .ok (.d (h x)) (S ++ [.lst acc']))) :
    eLc w g t e vs σ S0 = .ok (.d (.lst ((xs.filter q).map h))) S := by
  show (w σ S0).bind _ = _
  rw [hw, ok_bind, lc_filterA c h q xs [] S rfl hd (by simpa using hl)]
  simp [optS, finV]
theorem eLcL_filterA {α : Type} {w : IM} {vs : List Nat} {σ : Ev} {S0 S : Store} {xs : List α} (c h : α → D) (q : α → Bool) (hw : w σ S0 = .ok (xs.map c) S) (hl : xs.length ≤ lim)
    (hd : ∀ x ∈ xs, ∀ acc', ∃ σ2, g (.d (c x)) (wipeD σ vs) (S ++ [.lst acc']) = .ok σ2 (S ++ [.lst acc']) ∧ t σ2 (S ++ [.lst acc']) = .ok (q x) (S ++ [.lst acc']) ∧ (q x = true → e σ2 (S ++ [.lst acc']) = .ok (.d (h x)) (S ++ [.lst acc']))) :
    eLcL w g t e vs σ S0 = .ok (.loc S.length) (S ++ [.lst ((xs.filter q).map h)]) := by
  show (w σ S0).bind _ = _
  rw [hw, ok_bind, lc_filterA c h q xs [] S rfl hd (by simpa using hl)]
  simp [optS, finL]
theorem eLc_mapA {α : Type} {w : IM} {vs : List Nat} {σ : Ev} {S : Store} {xs : List α} (c h : α → D) (hw : w σ S = .ok (xs.map c) S) (hl : xs.length ≤ lim)
    (hd : ∀ x ∈ xs, ∀ acc', ∃ σ2, g (.d (c x)) (wipeD σ vs) (S ++ [.lst acc']) = .ok σ2 (S ++ [.lst acc']) ∧ t σ2 (S ++ [.lst acc']) = .ok true (S ++ [.lst acc']) ∧ e σ2 (S ++ [.lst acc']) = .ok (.d (h x)) (S ++ [.lst acc'])) :
    eLc w g t e vs σ S = .ok (.d (.lst (xs.map h))) S := by
  rw [eLc_filterA c h (fun _ => true) hw hl fun x hx acc => by
    obtain ⟨σ2, h1, h2, h3⟩ := hd x hx acc
    exact ⟨σ2, h1, h2, fun _ => h3⟩]
  rw [List.filter_eq_self.mpr fun _ _ => rfl]
end
end Y
namespace K42
open PySem PySem.Spec PyProof.Rows L2 Y
def sgS : Sg → Str
  | .lt => "<"
  | .le => "<="
  | .eq => "="
theorem sgS_inj {a b : Sg} : (sgS a = sgS b) = (a = b) := by
  cases a <;> cases b <;> simp [sgS] <;> decide
theorem sgS_ok (a : Sg) : PyData.strOk (sgS a) = true := by cases a <;> decide +kernel
def lnD (l : List Fr) : D := .tup (l.map frD)
def rwD (r : Rw) : D := .tup [lnD r.ln, .str (sgS r.sg), lnD r.tk]
theorem pl_fr (p : Fr) : pl 1 (frD p) = true := by simp [frD, pl]
theorem pl_ln (l : List Fr) : pl 2 (lnD l) = true := by
  show (l.map frD).all (pl 1) = true
  simp [pl_fr]
theorem pl_rw (r : Rw) : pl 3 (rwD r) = true := by
  show [lnD r.ln, .str (sgS r.sg), lnD r.tk].all (pl 2) = true
  have : pl 2 (.str (sgS r.sg)) = true := sgS_ok r.sg
  simp [pl_ln, this]
theorem deq_fr (p q : Fr) : deq (frD p) (frD q) = decide (p = q) := by
  have := deq_tup (pl_fr p) (pl_fr q)
  unfold frD at *
  rw [this]
  simp only [dqs, deq_int, Bool.and_true, ← Bool.decide_and]
  obtain ⟨a, b⟩ := p
  obtain ⟨c, d⟩ := q
  simp
theorem dqs_map {α : Type} [DecidableEq α] {c : α → D} (h : ∀ a b, deq (c a) (c b) = decide (a = b)) : ∀ l m : List α, dqs (l.map c) (m.map c) = decide (l = m)
  | [], [] => rfl
  | [], _ :: _ => rfl
  | _ :: _, [] => rfl
  | a :: l, b :: m => by
    show (deq (c a) (c b) && dqs (l.map c) (m.map c)) = _
    rw [h, dqs_map h l m]
    simp
theorem deq_ln (l m : List Fr) : deq (lnD l) (lnD m) = decide (l = m) := (deq_tup (pl_ln l) (pl_ln m)).trans (dqs_map deq_fr l m)
theorem deq_rw (r s : Rw) : deq (rwD r) (rwD s) = decide (r = s) := by
  refine (deq_tup (pl_rw r) (pl_rw s)).trans ?_
  simp only [dqs, deq_ln, deq_str, sgS_inj, Bool.and_true]
  obtain ⟨a, b, c⟩ := r
  obtain ⟨d, e, f⟩ := s
  simp
theorem eq_rw {neg : Bool} {r s : Rw} {S : Store} : opEq neg (.d (rwD r)) (.d (rwD s)) S = .ok (.d (.bl (if neg then !decide (r = s) else decide (r = s)))) S :=
  eq_of (pl_eqOk (pl_rw r) (pl_rw s) (by decide)) (deq_rw r s)
def twD (r : Rw) : D := .tup [lnD r.ln, .str (sgS r.sg)]
theorem pl_tw (r : Rw) : pl 3 (twD r) = true := by
  show [lnD r.ln, .str (sgS r.sg)].all (pl 2) = true
  have : pl 2 (.str (sgS r.sg)) = true := sgS_ok r.sg
  simp [pl_ln, this]
theorem eq_tw {r s : Rw} {S : Store} : opEq false (.d (twD r)) (.d (twD s)) S = .ok (.d (.bl (same2 r s))) S :=
  eq_of (pl_eqOk (pl_tw r) (pl_tw s) (by decide)) (by
    refine (deq_tup (pl_tw r) (pl_tw s)).trans ?_
    simp only [dqs, deq_ln, deq_str, sgS_inj, Bool.and_true, same2])
theorem pl_rws (l : List Rw) : pl 4 (.lst (l.map rwD)) = true := by
  show (l.map rwD).all (pl 3) = true
  simp [pl_rw]
theorem dropLast_map {α β : Type} (f : α → β) : ∀ l : List α, (l.map f).dropLast = l.dropLast.map f
  | [] => rfl
  | [a] => rfl
  | a :: b :: l => by
    show f a :: ((b :: l).map f).dropLast = _
    rw [dropLast_map f (b :: l)]
    rfl
theorem zip_map {α β : Type} (f : α → D) (h : β → D) : ∀ (l : List α) (m : List β), zipD (l.map f) (m.map h) = (l.zip m).map fun z => .tup [f z.1, h z.2]
  | [], m => by simp [zipD]
  | a :: l, [] => by simp [zipD]
  | a :: l, b :: m => by
    show .tup [f a, h b] :: zipD (l.map f) (m.map h) = _
    rw [zip_map f h l m]
    rfl
/-- two lines, by so many times -/
theorem lineplus_ok {V B V' B' V2 B2 : Nat} {a b : List Fr} {c : Fr} (hc : Sz V' B' c) (h1 : ∀ p ∈ a, Sz V B p) (h2 : ∀ p ∈ b, Sz V2 B2 p) (hl : a.length ≤ 1000000) (hk : V + B + (V' + V2 + (B' + B2)) ≤ 2500) {S : Store} :
    F__law_line_plus [.d (lnD a), .d (lnD b), .d (frD c)] S = .ok (.d (lnD (lpF a b c))) S := by
  have e : eLc (iZipX (aCons (eVar 0) (aCons (eVar 1) (aNil)))) (gT 2 (gN1 (gN 3) (gN1 (gN 4) (gN0)))) (tYs) (eB F__law_plus (aCons (eVar 3) (aCons (eB F__law_times (aCons (eVar 2) (aCons (eVar 4) (aNil)))) (aNil)))) [3, 4] [some (.d (.tup (a.map frD))), some (.d (.tup (b.map frD))), some (.d (frD c)), none, none] S
      = .ok (.d (.lst ((a.zip b).map fun z => frD (plF z.1 (tmF c z.2))))) S := by
    refine eLc_mapA (fun z : Fr × Fr => .tup [frD z.1, frD z.2]) _ (by simp [zip_map]) (by rw [lim_eq, List.length_zip]; omega) ?_
    intro z hz acc
    obtain ⟨m1, m2⟩ := List.of_mem_zip hz
    have t1 := fun S => ltimes_ok hc (h2 _ m2) (by omega) (S := S)
    have t2 := fun S => lplus_ok (h1 _ m1) (hc.tm (h2 _ m2)) (by omega) (S := S)
    exact ⟨_, by simp [wipeD]; rfl, by simp, by simp [wipeD, t1, t2]⟩
  have e2 : (a.zip b).map (fun z => frD (plF z.1 (tmF c z.2))) = (lpF a b c).map frD := by
    unfold lpF
    clear e h1 h2 hl
    induction a generalizing b with
    | nil => simp
    | cons p a ih =>
      cases b with
      | nil => rfl
      | cons q b =>
        have := ih (b := b)
        simp only [List.zip_cons_cons, List.map_cons, List.zipWith_cons_cons, this]
  rw [e2] at e
  unfold F__law_line_plus b__law_line_plus
  unfold lnD
  simp [mkFn_eq, e]
theorem alone_ok {l : List Fr} (hl : l.length ≤ 1000000) {S : Store} : F__law_alone [.d (lnD l)] S = .ok (.d (.bl (aloneB l))) S := by
  have e : eLc (iVal (eSl opSl (eVar 0) (oNone) (oSome (eUn opNeg (eC (.int 1)))))) (gN 1) (tYs) (eOp (opEq false) (eOp opIx (eVar 1) (eC (.int 0))) (eC (.int 0))) [1] [some (.d (.tup (l.map frD))), none] S
      = .ok (.d (.lst (l.dropLast.map fun p => .bl (decide (p.1 = 0))))) S := by
    have q : Y.cutD (l.map frD) none (some (-1)) = l.dropLast.map frD := by rw [cut_init, dropLast_map]
    refine eLc_mapA frD _ (by simp [q, -List.map_dropLast]) (by rw [lim_eq, List.length_dropLast]; omega) ?_
    intro p hp acc
    exact ⟨_, by simp [wipeD]; rfl, by simp, by simp [wipeD, frD]⟩
  unfold F__law_alone b__law_alone
  unfold lnD aloneB
  have e3 := fun S => all_map (l := l.dropLast) (q := fun p => decide (p.1 = 0)) (S := S)
  generalize l.dropLast.map (fun p : Fr => D.bl (decide (p.1 = 0))) = X at e e3
  simp [mkFn_eq, e, e3]
theorem last_ix {l : List Fr} (h : l ≠ []) {S : Store} : opIx (.d (lnD l)) (.d (.int (-1))) S = .ok (.d (frD (lastF l))) S := by
  have hl : 0 < l.length := List.length_pos_iff.mpr h
  show optR S (atI (l.map frD) (-1)) = _
  have : atI (l.map frD) (-1) = some (frD (lastF l)) := by
    unfold atI ixN
    rw [List.length_map, if_neg (by decide), if_pos (by omega)]
    show (l.map frD)[(((l.length : Nat) : Int) + (-1)).toNat]? = _
    rw [show (((l.length : Nat) : Int) + (-1)).toNat = l.length - 1 by omega, List.getElem?_map]
    unfold lastF
    rw [List.getLastD_eq_getLast?, List.getLast?_eq_getElem?]
    rw [List.getElem?_eq_getElem (by omega)]
    rfl
  rw [this]
  rfl
def ogD (o : Og) : D := .tup [.tup (o.1.map D.int), .str (sgS o.2)]
def osD (os : List Og) : D := .tup (os.map ogD)
/-- a line with its sign -/
def wsD (o : Og) : D := .tup [lnD (lineOf o.1), .str (sgS o.2)]
theorem asline_ok {f : List Int} (hl : f.length ≤ 1000000) {S : Store} : F__law_as_line [.d (.tup (f.map D.int))] S = .ok (.d (lnD (lineOf f))) S := by
  have e : eLc (iVal (eVar 0)) (gN 1) (tYs) (eTup (aCons (eVar 1) (aCons (eC (.int 1)) (aNil)))) [1] [some (.d (.tup (f.map D.int))), none] S = .ok (.d (.lst (f.map fun x => frD (x, 1)))) S := by
    refine eLc_mapA D.int _ (by simp) (by rw [lim_eq]; omega) ?_
    intro p hp acc
    exact ⟨_, by simp [wipeD]; rfl, by simp, by simp [wipeD, frD]⟩
  unfold F__law_as_line b__law_as_line
  have e2 : (lineOf f).map frD = f.map fun x => frD (x, 1) := by simp [lineOf]
  unfold lnD
  rw [e2]
  generalize f.map (fun x => frD (x, 1)) = X at e
  simp [mkFn_eq, e]
theorem rowsof_ok {n : Nat} {os : List Og} (h : ∀ o ∈ os, Og1 n o) (hn : n ≤ 1000) (hl : os.length ≤ 1000) {S : Store} : F__law_rows_of [.d (osD os)] S = .ok (.d (.lst (os.map wsD))) S := by
  have e : eLc (iVal (eVar 0)) (gT 2 (gN1 (gN 1) (gN1 (gN 2) (gN0)))) (tYs) (eTup (aCons (eB F__law_as_line (aCons (eVar 1) (aNil))) (aCons (eVar 2) (aNil)))) [1, 2] [some (.d (.tup (os.map ogD))), none, none] S = .ok (.d (.lst (os.map wsD))) S := by
    refine eLc_mapA ogD _ (by simp) (by rw [lim_eq]; omega) ?_
    intro o ho acc
    have q := fun S => asline_ok (f := o.1) (by rw [(h o ho).l]; omega) (S := S)
    exact ⟨_, by simp [wipeD, ogD]; rfl, by simp, by simp [wipeD, q, wsD]⟩
  unfold F__law_rows_of b__law_rows_of
  unfold osD
  generalize os.map wsD = X at e
  simp [mkFn_eq, e]
end K42
end
section
/-! rows without a number, as the law's def tells them -/
namespace K42
open PySem PySem.Spec PyProof.Rows L2 Y
/-- a list that is read by walks, whatever stands behind it -/
structure Held (w : Wt) (l : List D) (S S' : Store) : Prop where
  fz : fz1 S w = .ok (.lst l) S'
  len : S'.length = S.length
  fz' : ∀ T, fz1 (S' ++ T) w = .ok (.lst l) (S' ++ T)
theorem held_d (l : List D) (S : Store) : Held (.d (.lst l)) l S S := ⟨rfl, rfl, fun T => rfl⟩
theorem held_loc (l : List D) (S : Store) : Held (.loc S.length) l (S ++ [.lst l]) (S ++ [.frz (.lst l)]) := by
  have e1 : (S ++ [Cell.lst l])[S.length]? = some (.lst l) := by simp
  refine ⟨?_, by simp, fun T => ?_⟩
  · show fzC (S ++ [.lst l]) S.length (S ++ [Cell.lst l])[S.length]? = _
    rw [e1]
    show Res.ok _ ((S ++ [Cell.lst l]).set S.length (.frz (.lst l))) = _
    rw [List.set_append_right _ _ (Nat.le_refl _), Nat.sub_self]
    rfl
  · show fzC _ S.length ((S ++ [Cell.frz (.lst l)]) ++ T)[S.length]? = _
    have : ((S ++ [Cell.frz (.lst l)]) ++ T)[S.length]? = some (.frz (.lst l)) := by
      rw [List.getElem?_append_left (by simp)]
      simp
    rw [this]
    rfl
theorem row_0 {r : Rw} {S : Store} : opIx (.d (rwD r)) (.d (.int 0)) S = .ok (.d (lnD r.ln)) S := by unfold rwD; simp
theorem row_1 {r : Rw} {S : Store} : opIx (.d (rwD r)) (.d (.int 1)) S = .ok (.d (.str (sgS r.sg))) S := by unfold rwD; simp
theorem row_2 {r : Rw} {S : Store} : opIx (.d (rwD r)) (.d (.int 2)) S = .ok (.d (lnD r.tk)) S := by unfold rwD; simp
theorem fr_0 {p : Fr} {S : Store} : opIx (.d (frD p)) (.d (.int 0)) S = .ok (.d (.int p.1)) S := by unfold frD; simp
theorem fr_1 {p : Fr} {S : Store} : opIx (.d (frD p)) (.d (.int 1)) S = .ok (.d (.int p.2)) S := by unfold frD; simp
theorem ix_co {n R k : Nat} {r : Rw} (h : Ok n R r) (hk : k ≤ n) {S : Store} : opIx (.d (lnD r.ln)) (.d (.int (k : Nat))) S = .ok (.d (frD (co r k))) S := by
  have hl := h.ll
  show optR S (atI (r.ln.map frD) (k : Int)) = _
  rw [atIn, List.getElem?_map, List.getElem?_eq_getElem (by omega), co_get h hk]
  rfl
theorem str_eqs {g : Sg} : (sgS g = ("=" : Str)) = (g = .eq) := by
  have := sgS_inj (a := g) (b := .eq)
  exact this
theorem str_les {g : Sg} : (sgS g = ("<=" : Str)) = (g = .le) := by
  have := sgS_inj (a := g) (b := .le)
  exact this
theorem str_lts {g : Sg} : (sgS g = ("<" : Str)) = (g = .lt) := by
  have := sgS_inj (a := g) (b := .lt)
  exact this
theorem in_pair {a b : Sg} {S : Store} : opIn false (.d (.str "<")) (.d (.tup [.str (sgS a), .str (sgS b)])) S = .ok (.d (.bl (decide (a = .lt ∨ b = .lt)))) S := by
  have h1 : inOk (.str "<") [.str (sgS a), .str (sgS b)] = true := by
    unfold inOk
    have q : ∀ g : Sg, (D.str (sgS g)).shp = true := fun g => pl_shp (k := 0) (sgS_ok g) (by decide)
    have q0 : (D.str "<").shp = true := q .lt
    have q1 : (D.tup [.str (sgS a), .str (sgS b)]).shp = true := pl_shp (k := 1) (by simp [pl, sgS_ok]) (by decide)
    rw [q0, q1]
    simp
  have h2 : inSeq (.str "<") [.str (sgS a), .str (sgS b)] = decide (a = .lt ∨ b = .lt) := by
    unfold inSeq
    cases a <;> cases b <;> decide
  simp [opIn, h1, h2]
theorem over_ng {a b : Int × Int} {V B V' B' : Nat} (h : Sz V B a) (h' : Sz V' B' b) (h0 : b.1 ≠ 0) (hk : V + B + (V' + B') ≤ 2500) {S : Store} : F__law_over [.d (frD a), .d (.tup [.int (-b.1), .int b.2])] S = .ok (.d (frD (ovF a (ngF b)))) S := by
  have := lover_ok h h'.ng (show (0 - b.1 : Int) ≠ 0 by omega) hk (S := S)
  rw [← this]
  unfold frD ngF
  rw [Int.zero_sub]
theorem ng_over {a b : Int × Int} {V B V' B' : Nat} (h : Sz V B a) (h' : Sz V' B' b) (h0 : b.1 ≠ 0) (hk : V + B + (V' + B') ≤ 2500) {S : Store} : F__law_over [.d (.tup [.int (-a.1), .int a.2]), .d (frD b)] S = .ok (.d (frD (ovF (ngF a) b))) S := by
  have := lover_ok h.ng h' h0 hk (S := S)
  rw [← this]
  unfold frD ngF
  rw [Int.zero_sub]
section
variable {n R V B k : Nat} {rows : List Rw} {w0 : Wt} {S0 S : Store}
/-- all that is known of the rows -/
structure Rs (n R V B : Nat) (rows : List Rw) : Prop where
  ok : ∀ r ∈ rows, Ok n R r
  sz : ∀ r ∈ rows, SzR V B r
  n1 : n ≤ 1000
  R1 : R ≤ 1000
  big : 4 * V + 4 * B ≤ 1000
  len : rows.length ≤ 2000
theorem Rs.cx (h : Rs n R V B rows) {r : Rw} (hr : r ∈ rows) (hk : k ≤ n) {S : Store} : opIx (.d (lnD r.ln)) (.d (.int (k : Nat))) S = .ok (.d (frD (co r k))) S := ix_co (h.ok r hr) hk
theorem iv_held {l : List D} {σ : Ev} {T : Store} (hw : Held w0 l S0 S) (e : σ[0]? = some (some w0)) : iVal (eVar 0) σ (S ++ T) = .ok l (S ++ T) := by
  simp [e, hw.fz' T]
theorem same_ok (h : Rs n R V B rows) (hk : k ≤ n) (hw : Held w0 (rows.map rwD) S0 S) {v2 v4 v5 v6 v7 v8 v9 v10 v11 v12 v13 : Option Wt} :
    (eLc (iVal (eVar 0)) (gN 3) (tAnd (tBl (eOp (opEq false) (eOp opIx (eVar 3) (eC (.int 1))) (eC (.str "=")))) (tBl (eOp (opEq true) (eOp opIx (eOp opIx (eOp opIx (eVar 3) (eC (.int 0))) (eVar 1)) (eC (.int 0))) (eC (.int 0))))) (eVar 3) [3]) [some w0, some (.d (.int (k : Nat))), v2, none, v4, v5, v6, v7, v8, v9, v10, v11, v12, v13] S0 = .ok (.d (.lst ((rows.filter (isS k)).map rwD))) S := by
  refine eLc_filterA rwD rwD (isS k) (by simp [hw.fz]) (by have := h.len; rw [lim_eq]; omega) ?_
  intro r hr acc
  have c := fun S => h.cx hr hk (S := S)
  refine ⟨_, by simp [wipeD]; rfl, ?_, fun _ => by simp [wipeD]⟩
  simp [wipeD, row_0, row_1, c, fr_0, str_eqs, isS]
  by_cases q : r.sg = .eq <;> simp [q]
theorem part_ok (h : Rs n R V B rows) (hk : k ≤ n) (hw : Held w0 (rows.map rwD) S0 S) {T : Store} (q : Rw → Bool) {t : TM} {σ : Ev} (e0 : σ[0]? = some (some w0)) (e3 : (wipeD σ [3]).length = 14)
    (ht : ∀ r ∈ rows, ∀ acc, t ((wipeD σ [3]).set 3 (some (.d (rwD r)))) (S ++ T ++ [.lst acc]) = .ok (q r) (S ++ T ++ [.lst acc])) :
    eLc (iVal (eVar 0)) (gN 3) t (eVar 3) [3] σ (S ++ T) = .ok (.d (.lst ((rows.filter q).map rwD))) (S ++ T) := by
  refine eLc_filterA rwD rwD q (iv_held hw e0) (by have := h.len; rw [lim_eq]; omega) ?_
  intro r hr acc
  refine ⟨_, by simp, ht r hr acc, fun _ => ?_⟩
  have : ((wipeD σ [3]).set 3 (some (.d (rwD r))))[3]? = some (some (.d (rwD r))) := List.getElem?_set_self (by omega)
  simp only [eVar_ap, this]
theorem Rs.col (h : Rs n R V B rows) {r : Rw} (hr : r ∈ rows) (hk : k ≤ n) : Sz V B (co r k) := co_sz (h.ok r hr) (h.sz r hr) hk
theorem cell_at {S : Store} {c : Cell} : (S ++ [c])[S.length]? = some c := by simp
theorem cell_set {S : Store} {c c' : Cell} : (S ++ [c]).set S.length c' = S ++ [c'] := by
  rw [List.set_append_right _ _ (Nat.le_refl _), Nat.sub_self]
  rfl
theorem stepA (h : Rs n R V B rows) (hk : k ≤ n) {s r : Rw} (hs : s ∈ rows) (h0 : (co s k).1 ≠ 0) (hr : r ∈ rows) {F : List Rw} (hF : F.length < 5000000) {L : List D} {b0 : Nat} {v5 v8 v9 v10 v11 v12 v13 : Option Wt} :
    ∃ v8', (sIf (tBl (eOp (opEq true) (eVar 3) (eOp opIx (eVar 2) (eC (.int 0)))))
  (sSeq (sSet 8 (eB F__law_over (aCons (eTup (aCons (eOp opSubB (eC (.int 0)) (eOp opIx (eOp opIx (eOp opIx (eVar 3) (eC (.int 0))) (eVar 1)) (eC (.int 0)))) (aCons (eOp opIx (eOp opIx (eOp opIx (eVar 3) (eC (.int 0))) (eVar 1)) (eC (.int 1))) (aNil)))) (aCons (eOp opIx (eVar 4) (eVar 1)) (aNil)))))
  (sExpr (eM isLst mApp (eVar 7) (aCons (eTup (aCons (eB F__law_line_plus (aCons (eOp opIx (eVar 3) (eC (.int 0))) (aCons (eVar 4) (aCons (eVar 8) (aNil))))) (aCons (eOp opIx (eVar 3) (eC (.int 1))) (aCons (eB F__law_line_plus (aCons (eOp opIx (eVar 3) (eC (.int 2))) (aCons (eVar 6) (aCons (eVar 8) (aNil))))) (aNil))))) aNil))))
  (sNext)) b0 [some w0, some (.d (.int (k : Nat))), some (.d (.lst (rwD s :: L))), some (.d (rwD r)), some (.d (lnD s.ln)), v5, some (.d (lnD s.tk)), some (.loc S.length), v8, v9, v10, v11, v12, v13] (S ++ [.lst (F.map rwD)])
      = .nx [some w0, some (.d (.int (k : Nat))), some (.d (.lst (rwD s :: L))), some (.d (rwD r)), some (.d (lnD s.ln)), v5, some (.d (lnD s.tk)), some (.loc S.length), v8', v9, v10, v11, v12, v13] (S ++ [.lst ((if r = s then F else F ++ [subst s k r]).map rwD)]) := by
  by_cases e : r = s
  · refine ⟨v8, ?_⟩
    simp [eq_rw, e]
  · have c1 := fun S => h.cx hr hk (S := S)
    have c2 := fun S => h.cx hs hk (S := S)
    have hb := h.big
    have ov := fun S => ng_over (h.col hr hk) (h.col hs hk) h0 (by omega) (S := S)
    have so : Sz (V + B) (B + (V + B)) (ovF (ngF (co r k)) (co s k)) := (h.col hr hk).ng.ov (h.col hs hk) h0
    have l1 := fun S => lineplus_ok so (h.sz r hr).l (h.sz s hs).l (by rw [(h.ok r hr).ll]; have := h.n1; omega) (by omega) (S := S)
    have l2 := fun S => lineplus_ok so (h.sz r hr).t (h.sz s hs).t (by rw [(h.ok r hr).tl]; have := h.R1; omega) (by omega) (S := S)
    have ec := cell_at (S := S) (c := .lst (F.map rwD))
    have ap := fun d => app_loc (d := d) ec (by simp; omega)
    have il := isLst_loc ec
    simp only [cell_set] at ap
    refine ⟨some (.d (frD (ovF (ngF (co r k)) (co s k)))), ?_⟩
    have fin : (F ++ [subst s k r]).map rwD = F.map rwD ++ [.tup [lnD (lpF r.ln s.ln (ovF (ngF (co r k)) (co s k))), .str (sgS r.sg), lnD (lpF r.tk s.tk (ovF (ngF (co r k)) (co s k)))]] := by
      rw [List.map_append]
      rfl
    rw [if_neg e, fin]
    generalize F.map rwD = FD at *
    simp [eq_rw, e, row_0, row_1, row_2, c1, c2, fr_0, fr_1, ov, l1, l2, ap, il]
theorem loopA (h : Rs n R V B rows) (hk : k ≤ n) {s : Rw} (hs : s ∈ rows) (h0 : (co s k).1 ≠ 0) {L : List D} {b0 : Nat} {v5 v9 v10 v11 v12 v13 : Option Wt} : ∀ (rest F : List Rw) (v3 v8 : Option Wt), (∀ r ∈ rest, r ∈ rows) → F.length + rest.length < 5000000 →
    ∃ v3' v8', forN (gN 3) (sIf (tBl (eOp (opEq true) (eVar 3) (eOp opIx (eVar 2) (eC (.int 0)))))
  (sSeq (sSet 8 (eB F__law_over (aCons (eTup (aCons (eOp opSubB (eC (.int 0)) (eOp opIx (eOp opIx (eOp opIx (eVar 3) (eC (.int 0))) (eVar 1)) (eC (.int 0)))) (aCons (eOp opIx (eOp opIx (eOp opIx (eVar 3) (eC (.int 0))) (eVar 1)) (eC (.int 1))) (aNil)))) (aCons (eOp opIx (eVar 4) (eVar 1)) (aNil)))))
  (sExpr (eM isLst mApp (eVar 7) (aCons (eTup (aCons (eB F__law_line_plus (aCons (eOp opIx (eVar 3) (eC (.int 0))) (aCons (eVar 4) (aCons (eVar 8) (aNil))))) (aCons (eOp opIx (eVar 3) (eC (.int 1))) (aCons (eB F__law_line_plus (aCons (eOp opIx (eVar 3) (eC (.int 2))) (aCons (eVar 6) (aCons (eVar 8) (aNil))))) (aNil))))) aNil))))
  (sNext)) (rest.map rwD) b0 [some w0, some (.d (.int (k : Nat))), some (.d (.lst (rwD s :: L))), v3, some (.d (lnD s.ln)), v5, some (.d (lnD s.tk)), some (.loc S.length), v8, v9, v10, v11, v12, v13] (S ++ [.lst (F.map rwD)])
      = .nx [some w0, some (.d (.int (k : Nat))), some (.d (.lst (rwD s :: L))), v3', some (.d (lnD s.ln)), v5, some (.d (lnD s.tk)), some (.loc S.length), v8', v9, v10, v11, v12, v13] (S ++ [.lst ((F ++ (rest.filter fun r => decide (r ≠ s)).map (subst s k)).map rwD)])
  | [], F, v3, v8, _, _ => ⟨v3, v8, by simp [forN]⟩
  | r :: rest, F, v3, v8, hm, hl => by
    rw [List.length_cons] at hl
    obtain ⟨v8', e1⟩ := stepA (w0 := w0) (S := S) (b0 := b0) (L := L) (v5 := v5) (v8 := v8) (v9 := v9) (v10 := v10) (v11 := v11) (v12 := v12) (v13 := v13) h hk hs h0 (hm r (List.mem_cons_self ..)) (F := F) (by omega)
    obtain ⟨v3', v8'', e2⟩ := loopA h hk hs h0 (L := L) (b0 := b0) (v5 := v5) (v9 := v9) (v10 := v10) (v11 := v11) (v12 := v12) (v13 := v13) rest (if r = s then F else F ++ [subst s k r]) (some (.d (rwD r))) v8' (fun x hx => hm x (List.mem_cons_of_mem _ hx)) (by split <;> (try simp only [List.length_append, List.length_singleton]) <;> omega)
    refine ⟨v3', v8'', ?_⟩
    have fin : F ++ ((r :: rest).filter fun r => decide (r ≠ s)).map (subst s k) = (if r = s then F else F ++ [subst s k r]) ++ (rest.filter fun r => decide (r ≠ s)).map (subst s k) := by
      by_cases e : r = s <;> simp [e]
    rw [fin, ← e2]
    simp only [List.map_cons, forN, gN_ap, ok_toS, List.set_cons_succ, List.set_cons_zero, e1]
theorem stepB (h : Rs n R V B rows) (hk : k ≤ n) {a b : Rw} (ha : a ∈ rows) (hb : b ∈ rows) (h1 : (co a k).1 > 0) (h2 : (co b k).1 < 0) {F : List Rw} (hF : F.length < 5000000) {b0 : Nat} {v2 v3 v4 v5 v6 v8 v11 v12 : Option Wt} :
    ∃ v5' v8' v11' v12', (sSeq (sPar 8 5 (aCons (eB F__law_over (aCons (eOp opIx (eOp opIx (eVar 9) (eC (.int 0))) (eVar 1)) (aCons (eTup (aCons (eOp opSubB (eC (.int 0)) (eOp opIx (eOp opIx (eOp opIx (eVar 10) (eC (.int 0))) (eVar 1)) (eC (.int 0)))) (aCons (eOp opIx (eOp opIx (eOp opIx (eVar 10) (eC (.int 0))) (eVar 1)) (eC (.int 1))) (aNil)))) (aNil)))) (aCons (eIf (tBl (eOp (opIn false) (eC (.str "<")) (eTup (aCons (eOp opIx (eVar 9) (eC (.int 1))) (aCons (eOp opIx (eVar 10) (eC (.int 1))) (aNil)))))) (eC (.str "<")) (eC (.str "<="))) (aNil))))
  (sSeq (sSet 11 (eTup (aCons (eB F__law_line_plus (aCons (eOp opIx (eVar 9) (eC (.int 0))) (aCons (eOp opIx (eVar 10) (eC (.int 0))) (aCons (eVar 8) (aNil))))) (aCons (eVar 5) (aCons (eB F__law_line_plus (aCons (eOp opIx (eVar 9) (eC (.int 2))) (aCons (eOp opIx (eVar 10) (eC (.int 2))) (aCons (eVar 8) (aNil))))) (aNil))))))
  (sSeq (sSet 12 (eAnd (eB F__law_alone (aCons (eOp opIx (eVar 11) (eC (.int 0))) (aNil))) (eOr (eOp opLt (eOp opIx (eOp opIx (eOp opIx (eVar 11) (eC (.int 0))) (eUn opNeg (eC (.int 1)))) (eC (.int 0))) (eC (.int 0))) (eAnd (eOp (opEq false) (eOp opIx (eOp opIx (eOp opIx (eVar 11) (eC (.int 0))) (eUn opNeg (eC (.int 1)))) (eC (.int 0))) (eC (.int 0))) (eOp (opEq false) (eVar 5) (eC (.str "<=")))))))
  (sIf (tAnd (tNot (tTru (eVar 12))) (tNot (tTru (eB bAny (aCons (eLcK (eVar 7) (gN 13) (tYs) (eOp (opEq false) (eSl opSl (eVar 13) (oNone) (oSome (eC (.int 2)))) (eSl opSl (eVar 11) (oNone) (oSome (eC (.int 2))))) [13]) (aNil))))))
  (sExpr (eM isLst mApp (eVar 7) (aCons (eVar 11) aNil)))
  (sNext))))) b0 [some w0, some (.d (.int (k : Nat))), v2, v3, v4, v5, v6, some (.loc S.length), v8, some (.d (rwD a)), some (.d (rwD b)), v11, v12, none] (S ++ [.lst (F.map rwD)])
      = .nx [some w0, some (.d (.int (k : Nat))), v2, v3, v4, v5', v6, some (.loc S.length), v8', some (.d (rwD a)), some (.d (rwD b)), v11', v12', none] (S ++ [.lst ((addR F (pairR k a b)).map rwD)]) := by
  have c1 := fun S => h.cx ha hk (S := S)
  have c2 := fun S => h.cx hb hk (S := S)
  have hB := h.big
  have n0 : (co b k).1 ≠ 0 := by omega
  have ov := fun S => over_ng (h.col ha hk) (h.col hb hk) n0 (by omega) (S := S)
  have so : Sz (V + B) (B + (V + B)) (ovF (co a k) (ngF (co b k))) := (h.col ha hk).ov (h.col hb hk).ng (show (0 - (co b k).1 : Int) ≠ 0 by omega)
  have l1 := fun S => lineplus_ok so (h.sz a ha).l (h.sz b hb).l (by rw [(h.ok a ha).ll]; have := h.n1; omega) (by omega) (S := S)
  have l2 := fun S => lineplus_ok so (h.sz a ha).t (h.sz b hb).t (by rw [(h.ok a ha).tl]; have := h.R1; omega) (by omega) (S := S)
  have ok := ok_mix (g := sgT a.sg b.sg) (h.ok a ha) (h.ok b hb) (pair_pos2 (h.ok a ha) hk h2)
  have e0 : pairR k a b = ⟨lpF a.ln b.ln (ovF (co a k) (ngF (co b k))), sgT a.sg b.sg, lpF a.tk b.tk (ovF (co a k) (ngF (co b k)))⟩ := rfl
  have es : (if a.sg = .lt ∨ b.sg = .lt then ("<" : Str) else "<=") = sgS (sgT a.sg b.sg) := by
    unfold sgT
    by_cases q : a.sg = .lt ∨ b.sg = .lt
    · rw [if_pos q, if_pos q]; rfl
    · rw [if_neg q, if_neg q]; rfl
  have s1 : (sPar 8 5 (aCons (eB F__law_over (aCons (eOp opIx (eOp opIx (eVar 9) (eC (.int 0))) (eVar 1)) (aCons (eTup (aCons (eOp opSubB (eC (.int 0)) (eOp opIx (eOp opIx (eOp opIx (eVar 10) (eC (.int 0))) (eVar 1)) (eC (.int 0)))) (aCons (eOp opIx (eOp opIx (eOp opIx (eVar 10) (eC (.int 0))) (eVar 1)) (eC (.int 1))) (aNil)))) (aNil)))) (aCons (eIf (tBl (eOp (opIn false) (eC (.str "<")) (eTup (aCons (eOp opIx (eVar 9) (eC (.int 1))) (aCons (eOp opIx (eVar 10) (eC (.int 1))) (aNil)))))) (eC (.str "<")) (eC (.str "<="))) (aNil)))) b0 [some w0, some (.d (.int (k : Nat))), v2, v3, v4, v5, v6, some (.loc S.length), v8, some (.d (rwD a)), some (.d (rwD b)), v11, v12, none] (S ++ [.lst (F.map rwD)])
      = .nx [some w0, some (.d (.int (k : Nat))), v2, v3, v4, some (.d (.str (sgS (sgT a.sg b.sg)))), v6, some (.loc S.length), some (.d (frD (ovF (co a k) (ngF (co b k))))), some (.d (rwD a)), some (.d (rwD b)), v11, v12, none] (S ++ [.lst (F.map rwD)]) := by
    rw [← es]
    generalize F.map rwD = FD
    by_cases q : a.sg = .lt ∨ b.sg = .lt
    · simp [row_0, row_1, c1, c2, fr_0, fr_1, ov, in_pair, q]
    · simp [row_0, row_1, c1, c2, fr_0, fr_1, ov, in_pair, q]
  have s2 : (sSet 11 (eTup (aCons (eB F__law_line_plus (aCons (eOp opIx (eVar 9) (eC (.int 0))) (aCons (eOp opIx (eVar 10) (eC (.int 0))) (aCons (eVar 8) (aNil))))) (aCons (eVar 5) (aCons (eB F__law_line_plus (aCons (eOp opIx (eVar 9) (eC (.int 2))) (aCons (eOp opIx (eVar 10) (eC (.int 2))) (aCons (eVar 8) (aNil))))) (aNil)))))) b0 [some w0, some (.d (.int (k : Nat))), v2, v3, v4, some (.d (.str (sgS (sgT a.sg b.sg)))), v6, some (.loc S.length), some (.d (frD (ovF (co a k) (ngF (co b k))))), some (.d (rwD a)), some (.d (rwD b)), v11, v12, none] (S ++ [.lst (F.map rwD)])
      = .nx [some w0, some (.d (.int (k : Nat))), v2, v3, v4, some (.d (.str (sgS (sgT a.sg b.sg)))), v6, some (.loc S.length), some (.d (frD (ovF (co a k) (ngF (co b k))))), some (.d (rwD a)), some (.d (rwD b)), some (.d (rwD (pairR k a b))), v12, none] (S ++ [.lst (F.map rwD)]) := by
    have e1 : rwD (pairR k a b) = .tup [lnD (lpF a.ln b.ln (ovF (co a k) (ngF (co b k)))), .str (sgS (sgT a.sg b.sg)), lnD (lpF a.tk b.tk (ovF (co a k) (ngF (co b k))))] := rfl
    rw [e1]
    generalize F.map rwD = FD
    generalize sgS (sgT a.sg b.sg) = z
    simp [row_0, row_2, l1, l2]
  have eg : (pairR k a b).sg = sgT a.sg b.sg := rfl
  rw [← eg] at s1 s2
  have okE : Ok n R (pairR k a b) := ok

  generalize pairR k a b = E at *
  generalize ovF (co a k) (ngF (co b k)) = W at *
  have lE : E.ln ≠ [] := ln_ne okE
  have la := fun S => last_ix lE (S := S)
  have al := fun S => alone_ok (l := E.ln) (by rw [okE.ll]; have := h.n1; omega) (S := S)
  have s3 : (sSet 12 (eAnd (eB F__law_alone (aCons (eOp opIx (eVar 11) (eC (.int 0))) (aNil))) (eOr (eOp opLt (eOp opIx (eOp opIx (eOp opIx (eVar 11) (eC (.int 0))) (eUn opNeg (eC (.int 1)))) (eC (.int 0))) (eC (.int 0))) (eAnd (eOp (opEq false) (eOp opIx (eOp opIx (eOp opIx (eVar 11) (eC (.int 0))) (eUn opNeg (eC (.int 1)))) (eC (.int 0))) (eC (.int 0))) (eOp (opEq false) (eVar 5) (eC (.str "<="))))))) b0 [some w0, some (.d (.int (k : Nat))), v2, v3, v4, some (.d (.str (sgS E.sg))), v6, some (.loc S.length), some (.d (frD W)), some (.d (rwD a)), some (.d (rwD b)), some (.d (rwD E)), v12, none] (S ++ [.lst (F.map rwD)])
      = .nx [some w0, some (.d (.int (k : Nat))), v2, v3, v4, some (.d (.str (sgS E.sg))), v6, some (.loc S.length), some (.d (frD W)), some (.d (rwD a)), some (.d (rwD b)), some (.d (rwD E)), some (.d (.bl (idle E))), none] (S ++ [.lst (F.map rwD)]) := by
    generalize F.map rwD = FD
    unfold idle
    cases q1 : aloneB E.ln
    · simp [row_0, la, al, fr_0, q1]
    · by_cases q2 : (lastF E.ln).1 < 0
      · simp [row_0, la, al, fr_0, q1, q2]
      · by_cases q3 : (lastF E.ln).1 = 0
        · simp [row_0, la, al, fr_0, q1, q3, str_les]
        · simp [row_0, la, al, fr_0, q1, q2, q3]
  have ec := cell_at (S := S) (c := .lst (F.map rwD))
  have sr : ∀ (r : Rw) (S : Store), opSl (.d (rwD r)) none (some 2) S = .ok (.d (twD r)) S := fun r S => by
    have := cut_to [lnD r.ln, .str (sgS r.sg), lnD r.tk] 2
    unfold rwD twD
    rw [Y.sl_tup]
    have this : Y.cutD [lnD r.ln, .str (sgS r.sg), lnD r.tk] none (some 2) = _ := this
    rw [this]
    rfl
  have an : (eLcK (eVar 7) (gN 13) (tYs) (eOp (opEq false) (eSl opSl (eVar 13) (oNone) (oSome (eC (.int 2)))) (eSl opSl (eVar 11) (oNone) (oSome (eC (.int 2))))) [13]) [some w0, some (.d (.int (k : Nat))), v2, v3, v4, some (.d (.str (sgS E.sg))), v6, some (.loc S.length), some (.d (frD W)), some (.d (rwD a)), some (.d (rwD b)), some (.d (rwD E)), some (.d (.bl (idle E))), none] (S ++ [.lst (F.map rwD)])
      = .ok (.d (.lst (F.map fun o => .bl (same2 o E)))) (S ++ [.lst (F.map rwD)]) := by
    refine eLcK_map (c := S.length) rwD _ (by simp) ec (by rw [lim_eq]; omega) ?_
    intro o ho acc
    exact ⟨_, by simp [wipeD]; rfl, by simp, by simp [wipeD, sr, eq_tw]⟩
  have an2 := fun S => any_map_ok (l := F) (q := fun o => same2 o E) (S := S)
  have s4 : (sIf (tAnd (tNot (tTru (eVar 12))) (tNot (tTru (eB bAny (aCons (eLcK (eVar 7) (gN 13) (tYs) (eOp (opEq false) (eSl opSl (eVar 13) (oNone) (oSome (eC (.int 2)))) (eSl opSl (eVar 11) (oNone) (oSome (eC (.int 2))))) [13]) (aNil))))))
  (sExpr (eM isLst mApp (eVar 7) (aCons (eVar 11) aNil)))
  (sNext)) b0 [some w0, some (.d (.int (k : Nat))), v2, v3, v4, some (.d (.str (sgS E.sg))), v6, some (.loc S.length), some (.d (frD W)), some (.d (rwD a)), some (.d (rwD b)), some (.d (rwD E)), some (.d (.bl (idle E))), none] (S ++ [.lst (F.map rwD)])
      = .nx [some w0, some (.d (.int (k : Nat))), v2, v3, v4, some (.d (.str (sgS E.sg))), v6, some (.loc S.length), some (.d (frD W)), some (.d (rwD a)), some (.d (rwD b)), some (.d (rwD E)), some (.d (.bl (idle E))), none] (S ++ [.lst ((addR F E).map rwD)]) := by
    have ap := fun d => app_loc (d := d) ec (by simp; omega)
    have il := isLst_loc ec
    simp only [cell_set] at ap
    have fin : (F ++ [E]).map rwD = F.map rwD ++ [rwD E] := by
      rw [List.map_append]
      rfl
    unfold addR
    generalize (F.map fun o => D.bl (same2 o E)) = FB at an an2
    cases q1 : idle E
    · rw [q1] at an
      cases q2 : F.any fun o => same2 o E
      · rw [if_pos (by decide), fin]
        rw [q2] at an2
        generalize F.map rwD = FD at *
        simp [an, an2, ap, il]
      · rw [if_neg (by decide)]
        rw [q2] at an2
        generalize F.map rwD = FD at *
        simp [an, an2]
    · rw [if_neg (by simp)]
      generalize F.map rwD = FD at *
      simp
  exact ⟨some (.d (.str (sgS E.sg))), some (.d (frD W)), some (.d (rwD E)), some (.d (.bl (idle E))), by simp only [sSeq_ap, s1, s2, s3, s4]⟩
theorem loopL (h : Rs n R V B rows) (hk : k ≤ n) {a : Rw} (ha : a ∈ rows) (h1 : (co a k).1 > 0) {b0 : Nat} {v2 v3 v4 v6 : Option Wt} : ∀ (rest F : List Rw) (v5 v8 v10 v11 v12 : Option Wt), (∀ r ∈ rest, r ∈ rows ∧ (co r k).1 < 0) → F.length + rest.length < 5000000 →
    ∃ v5' v8' v10' v11' v12', forN (gN 10) (sSeq (sPar 8 5 (aCons (eB F__law_over (aCons (eOp opIx (eOp opIx (eVar 9) (eC (.int 0))) (eVar 1)) (aCons (eTup (aCons (eOp opSubB (eC (.int 0)) (eOp opIx (eOp opIx (eOp opIx (eVar 10) (eC (.int 0))) (eVar 1)) (eC (.int 0)))) (aCons (eOp opIx (eOp opIx (eOp opIx (eVar 10) (eC (.int 0))) (eVar 1)) (eC (.int 1))) (aNil)))) (aNil)))) (aCons (eIf (tBl (eOp (opIn false) (eC (.str "<")) (eTup (aCons (eOp opIx (eVar 9) (eC (.int 1))) (aCons (eOp opIx (eVar 10) (eC (.int 1))) (aNil)))))) (eC (.str "<")) (eC (.str "<="))) (aNil))))
  (sSeq (sSet 11 (eTup (aCons (eB F__law_line_plus (aCons (eOp opIx (eVar 9) (eC (.int 0))) (aCons (eOp opIx (eVar 10) (eC (.int 0))) (aCons (eVar 8) (aNil))))) (aCons (eVar 5) (aCons (eB F__law_line_plus (aCons (eOp opIx (eVar 9) (eC (.int 2))) (aCons (eOp opIx (eVar 10) (eC (.int 2))) (aCons (eVar 8) (aNil))))) (aNil))))))
  (sSeq (sSet 12 (eAnd (eB F__law_alone (aCons (eOp opIx (eVar 11) (eC (.int 0))) (aNil))) (eOr (eOp opLt (eOp opIx (eOp opIx (eOp opIx (eVar 11) (eC (.int 0))) (eUn opNeg (eC (.int 1)))) (eC (.int 0))) (eC (.int 0))) (eAnd (eOp (opEq false) (eOp opIx (eOp opIx (eOp opIx (eVar 11) (eC (.int 0))) (eUn opNeg (eC (.int 1)))) (eC (.int 0))) (eC (.int 0))) (eOp (opEq false) (eVar 5) (eC (.str "<=")))))))
  (sIf (tAnd (tNot (tTru (eVar 12))) (tNot (tTru (eB bAny (aCons (eLcK (eVar 7) (gN 13) (tYs) (eOp (opEq false) (eSl opSl (eVar 13) (oNone) (oSome (eC (.int 2)))) (eSl opSl (eVar 11) (oNone) (oSome (eC (.int 2))))) [13]) (aNil))))))
  (sExpr (eM isLst mApp (eVar 7) (aCons (eVar 11) aNil)))
  (sNext))))) (rest.map rwD) b0 [some w0, some (.d (.int (k : Nat))), v2, v3, v4, v5, v6, some (.loc S.length), v8, some (.d (rwD a)), v10, v11, v12, none] (S ++ [.lst (F.map rwD)])
      = .nx [some w0, some (.d (.int (k : Nat))), v2, v3, v4, v5', v6, some (.loc S.length), v8', some (.d (rwD a)), v10', v11', v12', none] (S ++ [.lst (((rest.map fun l => pairR k a l).foldl addR F).map rwD)])
  | [], F, v5, v8, v10, v11, v12, _, _ => ⟨v5, v8, v10, v11, v12, by simp [forN]⟩
  | r :: rest, F, v5, v8, v10, v11, v12, hm, hl => by
    rw [List.length_cons] at hl
    obtain ⟨m1, m2⟩ := hm r (List.mem_cons_self ..)
    obtain ⟨q5, q8, q11, q12, e1⟩ := stepB (w0 := w0) (S := S) (b0 := b0) (v2 := v2) (v3 := v3) (v4 := v4) (v5 := v5) (v6 := v6) (v8 := v8) (v11 := v11) (v12 := v12) h hk ha m1 h1 m2 (F := F) (by omega)
    obtain ⟨p5, p8, p10, p11, p12, e2⟩ := loopL h hk ha h1 (b0 := b0) (v2 := v2) (v3 := v3) (v4 := v4) (v6 := v6) rest (addR F (pairR k a r)) q5 q8 (some (.d (rwD r))) q11 q12 (fun x hx => hm x (List.mem_cons_of_mem _ hx)) (by
      have := add_len [pairR k a r] F
      simp only [List.foldl_cons, List.foldl_nil, List.length_singleton] at this
      omega)
    refine ⟨p5, p8, p10, p11, p12, ?_⟩
    rw [show ((r :: rest).map fun l => pairR k a l).foldl addR F = (rest.map fun l => pairR k a l).foldl addR (addR F (pairR k a r)) from rfl, ← e2]
    simp only [List.map_cons, forN, gN_ap, ok_toS, List.set_cons_succ, List.set_cons_zero, e1]
theorem low_comp (h : Rs n R V B rows) (hk : k ≤ n) (hw : Held w0 (rows.map rwD) S0 S) {T : Store} {v2 v3 v4 v5 v6 v7 v8 v9 v10 v11 v12 v13 : Option Wt} :
    iVal (eLc (iVal (eVar 0)) (gN 3) (tBl (eOp opLt (eOp opIx (eOp opIx (eOp opIx (eVar 3) (eC (.int 0))) (eVar 1)) (eC (.int 0))) (eC (.int 0)))) (eVar 3) [3]) [some w0, some (.d (.int (k : Nat))), v2, v3, v4, v5, v6, v7, v8, v9, v10, v11, v12, v13] (S ++ T) = .ok ((lows rows k).map rwD) (S ++ T) := by
  have e := part_ok (T := T) h hk hw (fun r => decide ((co r k).1 < 0)) (t := (tBl (eOp opLt (eOp opIx (eOp opIx (eOp opIx (eVar 3) (eC (.int 0))) (eVar 1)) (eC (.int 0))) (eC (.int 0))))) (σ := [some w0, some (.d (.int (k : Nat))), v2, v3, v4, v5, v6, v7, v8, v9, v10, v11, v12, v13]) rfl rfl (by
    intro r hr acc
    have c := fun S => h.cx hr hk (S := S)
    simp [wipeD, row_0, c, fr_0])
  show (eLc _ _ _ _ _ _ _).bind _ = _
  rw [e]
  rfl
theorem high_comp (h : Rs n R V B rows) (hk : k ≤ n) (hw : Held w0 (rows.map rwD) S0 S) {T : Store} {v2 v3 v4 v5 v6 v7 v8 v9 v10 v11 v12 v13 : Option Wt} :
    iVal (eLc (iVal (eVar 0)) (gN 3) (tBl (eOp opGt (eOp opIx (eOp opIx (eOp opIx (eVar 3) (eC (.int 0))) (eVar 1)) (eC (.int 0))) (eC (.int 0)))) (eVar 3) [3]) [some w0, some (.d (.int (k : Nat))), v2, v3, v4, v5, v6, v7, v8, v9, v10, v11, v12, v13] (S ++ T) = .ok ((highs rows k).map rwD) (S ++ T) := by
  have e := part_ok (T := T) h hk hw (fun r => decide ((co r k).1 > 0)) (t := (tBl (eOp opGt (eOp opIx (eOp opIx (eOp opIx (eVar 3) (eC (.int 0))) (eVar 1)) (eC (.int 0))) (eC (.int 0))))) (σ := [some w0, some (.d (.int (k : Nat))), v2, v3, v4, v5, v6, v7, v8, v9, v10, v11, v12, v13]) rfl rfl (by
    intro r hr acc
    have c := fun S => h.cx hr hk (S := S)
    simp [wipeD, row_0, c, fr_0])
  show (eLc _ _ _ _ _ _ _).bind _ = _
  rw [e]
  rfl
theorem zero_comp (h : Rs n R V B rows) (hk : k ≤ n) (hw : Held w0 (rows.map rwD) S0 S) {v2 v4 v5 v6 v7 v8 v9 v10 v11 v12 v13 : Option Wt} :
    (eLcL (iVal (eVar 0)) (gN 3) (tBl (eOp (opEq false) (eOp opIx (eOp opIx (eOp opIx (eVar 3) (eC (.int 0))) (eVar 1)) (eC (.int 0))) (eC (.int 0)))) (eVar 3) [3]) [some w0, some (.d (.int (k : Nat))), v2, none, v4, v5, v6, v7, v8, v9, v10, v11, v12, v13] S = .ok (.loc S.length) (S ++ [.lst ((zeros rows k).map rwD)]) := by
  refine eLcL_filterA rwD rwD (fun r => decide ((co r k).1 = 0)) (by
    have := iv_held (T := []) hw (σ := [some w0, some (.d (.int (k : Nat))), v2, none, v4, v5, v6, v7, v8, v9, v10, v11, v12, v13]) rfl
    rw [List.append_nil] at this
    exact this) (by have := h.len; rw [lim_eq]; omega) ?_
  intro r hr acc
  have c := fun S => h.cx hr hk (S := S)
  exact ⟨_, by simp [wipeD]; rfl, by simp [wipeD, row_0, c, fr_0], fun _ => by simp [wipeD]⟩
theorem loopH (h : Rs n R V B rows) (hk : k ≤ n) (hw : Held w0 (rows.map rwD) S0 S) {b0 : Nat} {v2 v3 v4 v6 : Option Wt} : ∀ (rest F : List Rw) (v5 v8 v9 v10 v11 v12 : Option Wt), (∀ r ∈ rest, r ∈ rows ∧ (co r k).1 > 0) → F.length + rest.length * rows.length < 5000000 →
    ∃ v5' v8' v9' v10' v11' v12', forN (gN 9) (sFor (iVal (eLc (iVal (eVar 0)) (gN 3) (tBl (eOp opLt (eOp opIx (eOp opIx (eOp opIx (eVar 3) (eC (.int 0))) (eVar 1)) (eC (.int 0))) (eC (.int 0)))) (eVar 3) [3])) (gN 10)
  (sSeq (sPar 8 5 (aCons (eB F__law_over (aCons (eOp opIx (eOp opIx (eVar 9) (eC (.int 0))) (eVar 1)) (aCons (eTup (aCons (eOp opSubB (eC (.int 0)) (eOp opIx (eOp opIx (eOp opIx (eVar 10) (eC (.int 0))) (eVar 1)) (eC (.int 0)))) (aCons (eOp opIx (eOp opIx (eOp opIx (eVar 10) (eC (.int 0))) (eVar 1)) (eC (.int 1))) (aNil)))) (aNil)))) (aCons (eIf (tBl (eOp (opIn false) (eC (.str "<")) (eTup (aCons (eOp opIx (eVar 9) (eC (.int 1))) (aCons (eOp opIx (eVar 10) (eC (.int 1))) (aNil)))))) (eC (.str "<")) (eC (.str "<="))) (aNil))))
  (sSeq (sSet 11 (eTup (aCons (eB F__law_line_plus (aCons (eOp opIx (eVar 9) (eC (.int 0))) (aCons (eOp opIx (eVar 10) (eC (.int 0))) (aCons (eVar 8) (aNil))))) (aCons (eVar 5) (aCons (eB F__law_line_plus (aCons (eOp opIx (eVar 9) (eC (.int 2))) (aCons (eOp opIx (eVar 10) (eC (.int 2))) (aCons (eVar 8) (aNil))))) (aNil))))))
  (sSeq (sSet 12 (eAnd (eB F__law_alone (aCons (eOp opIx (eVar 11) (eC (.int 0))) (aNil))) (eOr (eOp opLt (eOp opIx (eOp opIx (eOp opIx (eVar 11) (eC (.int 0))) (eUn opNeg (eC (.int 1)))) (eC (.int 0))) (eC (.int 0))) (eAnd (eOp (opEq false) (eOp opIx (eOp opIx (eOp opIx (eVar 11) (eC (.int 0))) (eUn opNeg (eC (.int 1)))) (eC (.int 0))) (eC (.int 0))) (eOp (opEq false) (eVar 5) (eC (.str "<=")))))))
  (sIf (tAnd (tNot (tTru (eVar 12))) (tNot (tTru (eB bAny (aCons (eLcK (eVar 7) (gN 13) (tYs) (eOp (opEq false) (eSl opSl (eVar 13) (oNone) (oSome (eC (.int 2)))) (eSl opSl (eVar 11) (oNone) (oSome (eC (.int 2))))) [13]) (aNil))))))
  (sExpr (eM isLst mApp (eVar 7) (aCons (eVar 11) aNil)))
  (sNext)))))) (rest.map rwD) b0 [some w0, some (.d (.int (k : Nat))), v2, v3, v4, v5, v6, some (.loc S.length), v8, v9, v10, v11, v12, none] (S ++ [.lst (F.map rwD)])
      = .nx [some w0, some (.d (.int (k : Nat))), v2, v3, v4, v5', v6, some (.loc S.length), v8', v9', v10', v11', v12', none] (S ++ [.lst (((rest.flatMap fun a => (lows rows k).map fun l => pairR k a l).foldl addR F).map rwD)])
  | [], F, v5, v8, v9, v10, v11, v12, _, _ => ⟨v5, v8, v9, v10, v11, v12, by simp [forN]⟩
  | a :: rest, F, v5, v8, v9, v10, v11, v12, hm, hl => by
    rw [List.length_cons, Nat.succ_mul] at hl
    obtain ⟨m1, m2⟩ := hm a (List.mem_cons_self ..)
    have ll : (lows rows k).length ≤ rows.length := List.length_filter_le _ _
    obtain ⟨q5, q8, q10, q11, q12, e1⟩ := loopL (w0 := w0) (S := S) (b0 := b0) (v2 := v2) (v3 := v3) (v4 := v4) (v6 := v6) h hk m1 m2 (lows rows k) F v5 v8 v10 v11 v12 (fun x hx => by
      obtain ⟨z1, z2⟩ := List.mem_filter.mp hx
      exact ⟨z1, by simpa using z2⟩) (by omega)
    obtain ⟨p5, p8, p9, p10, p11, p12, e2⟩ := loopH h hk hw (b0 := b0) (v2 := v2) (v3 := v3) (v4 := v4) (v6 := v6) rest (((lows rows k).map fun l => pairR k a l).foldl addR F) q5 q8 (some (.d (rwD a))) q10 q11 q12 (fun x hx => hm x (List.mem_cons_of_mem _ hx)) (by
      have := add_len ((lows rows k).map fun l => pairR k a l) F
      rw [List.length_map] at this
      omega)
    refine ⟨p5, p8, p9, p10, p11, p12, ?_⟩
    rw [List.flatMap_cons, List.foldl_append, ← e2]
    have lc := low_comp h hk hw (T := [.lst (F.map rwD)]) (v2 := v2) (v3 := v3) (v4 := v4) (v5 := v5) (v6 := v6) (v7 := some (.loc S.length)) (v8 := v8) (v9 := some (.d (rwD a))) (v10 := v10) (v11 := v11) (v12 := v12) (v13 := none)
    simp only [List.map_cons, forN, gN_ap, ok_toS, List.set_cons_succ, List.set_cons_zero, sFor_ap, lc, e1]
/-- the law's def -/
theorem gT_row {r : Rw} {hh : GMs} {σ : Ev} {S : Store} : gT 3 hh (.d (rwD r)) σ S = hh [.d (lnD r.ln), .d (.str (sgS r.sg)), .d (lnD r.tk)] σ S := by
  unfold rwD
  simp
theorem without_ok (h : Rs n R V B rows) (hk : k ≤ n) (hw : Held w0 (rows.map rwD) S0 S) : F__law_without [w0, .d (.int (k : Nat))] S0 = .ok (.loc S0.length) (S ++ [.lst ((without rows k).map rwD)]) := by
  have e1 := same_ok h hk hw (v2 := none) (v4 := none) (v5 := none) (v6 := none) (v7 := none) (v8 := none) (v9 := none) (v10 := none) (v11 := none) (v12 := none) (v13 := none)
  have en := fun S => eq_nil (pl_rws (rows.filter (isS k))) (by decide) (neg := true) (S := S)
  have iv := fun σ (e : σ[0]? = some (some w0)) T => iv_held (T := T) hw (σ := σ) e
  have hl := h.len
  have hsq : rows.length * rows.length ≤ 2000 * 2000 := Nat.mul_le_mul hl hl
  have m0 : F__law_without [w0, .d (.int (k : Nat))] S0 = finish S.length (b__law_without S.length [some w0, some (.d (.int (k : Nat))), none, none, none, none, none, none, none, none, none, none, none, none] S0) := by
    rw [hw.len]
    rfl
  rw [m0, ← hw.len]
  unfold b__law_without
  cases hf : rows.filter (isS k) with
  | cons s t =>
    have ew : without rows k = (rows.filter fun r => decide (r ≠ s)).map (subst s k) := by
      unfold without
      rw [hf]
    have hm : s ∈ rows.filter (isS k) := by rw [hf]; exact List.mem_cons_self ..
    obtain ⟨hs, m2⟩ := List.mem_filter.mp hm
    simp only [isS, Bool.and_eq_true, decide_eq_true_eq] at m2
    rw [hf] at e1 en
    obtain ⟨q3, q8, lp⟩ := loopA (w0 := w0) (S := S) h hk hs m2.2 (L := t.map rwD) (b0 := S.length) (v5 := some (.d (.str (sgS s.sg)))) (v9 := none) (v10 := none) (v11 := none) (v12 := none) (v13 := none) rows [] none none (fun _ h => h) (by rw [List.length_nil]; omega)
    rw [List.nil_append, ← ew] at lp
    have iv2 := iv [some w0, some (.d (.int (k : Nat))), some (.d (.lst (rwD s :: t.map rwD))), none, some (.d (lnD s.ln)), some (.d (.str (sgS s.sg))), some (.d (lnD s.tk)), some (.loc S.length), none, none, none, none, none, none] rfl [.lst []]
    simp only [List.map_cons, List.map_nil, List.isEmpty_cons, Bool.not_false, if_true] at e1 en lp
    generalize (without rows k).map rwD = WD at *
    generalize rows.map rwD = RD at *
    generalize t.map rwD = TD at *
    simp [-iVal_ap, e1, en, gT_row, iv2, lp]
  | nil =>
    have ew : without rows k = (prs rows k).foldl addR (zeros rows k) := by
      unfold without
      rw [hf]
    rw [hf] at e1 en
    have zl : (zeros rows k).length ≤ rows.length := List.length_filter_le _ _
    have hl2 : (highs rows k).length * rows.length ≤ rows.length * rows.length := Nat.mul_le_mul_right _ (List.length_filter_le _ _)
    obtain ⟨q5, q8, q9, q10, q11, q12, lp⟩ := loopH h hk hw (b0 := S.length) (v2 := some (.d (.lst []))) (v3 := none) (v4 := none) (v6 := none) (highs rows k) (zeros rows k) none none none none none none (fun x hx => by
      obtain ⟨z1, z2⟩ := List.mem_filter.mp hx
      exact ⟨z1, by simpa using z2⟩) (by omega)
    have ep : ((highs rows k).flatMap fun a => (lows rows k).map fun l => pairR k a l) = prs rows k := rfl
    rw [ep, ← ew] at lp
    have zc := zero_comp h hk hw (v2 := some (.d (.lst []))) (v4 := none) (v5 := none) (v6 := none) (v7 := none) (v8 := none) (v9 := none) (v10 := none) (v11 := none) (v12 := none) (v13 := none)
    have hc := high_comp h hk hw (T := [.lst ((zeros rows k).map rwD)]) (v2 := some (.d (.lst []))) (v3 := none) (v4 := none) (v5 := none) (v6 := none) (v7 := some (.loc S.length)) (v8 := none) (v9 := none) (v10 := none) (v11 := none) (v12 := none) (v13 := none)
    simp only [List.map_nil, List.isEmpty_nil, Bool.not_true, if_true] at e1 en
    generalize (without rows k).map rwD = WD at *
    generalize (highs rows k).map rwD = HD at *
    generalize (zeros rows k).map rwD = ZD at *
    generalize rows.map rwD = RD at *
    simp [-iVal_ap, e1, en, zc, hc, lp]
end
end K42
end
section
/-! what bars rows, as the law's def tells it -/
namespace K42
open PySem PySem.Spec PyProof.Rows L2 Y
theorem num_map {α : Type} (c : α → D) : ∀ (l : List α) (i : Nat), Y.numbered i (l.map c) = (l.zipIdx i).map fun z => .tup [.int ((z.2 : Nat) : Int), c z.1]
  | [], i => rfl
  | a :: l, i => by
    show .tup [.int ((i : Nat) : Int), c a] :: Y.numbered (i + 1) (l.map c) = _
    rw [num_map c l (i + 1)]
    rfl
theorem asRows_zip (os : List Og) : asRows os = (os.zipIdx 0).map fun z => (⟨lineOf z.1.1, z.1.2, unitL os.length z.2⟩ : Rw) := by
  unfold asRows
  rw [List.mapIdx_eq_zipIdx_map]
theorem unit_comp {L : List D} {k : Nat} (hl : L.length ≤ 1000) {v3 : Option Wt} {S : Store} : (eLc (iRng1 (aCons (eB bLen (aCons (eVar 0) (aNil))) (aNil))) (gN 1) (tYs) (eTup (aCons (eB bInt (aCons (eOp (opEq false) (eVar 1) (eVar 2)) (aNil))) (aCons (eC (.int 1)) (aNil)))) [1]) [some (.d (.lst L)), none, some (.d (.int (k : Nat))), v3] S = .ok (.d (.lst ((unitL L.length k).map frD))) S := by
  have e : (eLc (iRng1 (aCons (eB bLen (aCons (eVar 0) (aNil))) (aNil))) (gN 1) (tYs) (eTup (aCons (eB bInt (aCons (eOp (opEq false) (eVar 1) (eVar 2)) (aNil))) (aCons (eC (.int 1)) (aNil)))) [1]) [some (.d (.lst L)), none, some (.d (.int (k : Nat))), v3] S = .ok (.d (.lst ((List.range L.length).map fun j => frD (if j = k then 1 else 0, 1)))) S := by
    refine eLc_mapA (fun j : Nat => .int (0 + (j : Nat) : Int)) _ ?_ (by rw [lim_eq, List.length_range]; omega) ?_
    · have := rg1_nat (S := S) (j := L.length) (by omega)
      simp [this, rng]
    · intro j hj acc
      refine ⟨_, by simp [wipeD]; rfl, by simp, ?_⟩
      by_cases q : j = k
      · subst q
        simp [wipeD, frD]
      · have : ¬ ((j : Nat) : Int) = ((k : Nat) : Int) := by omega
        simp [wipeD, frD, q, this]
  rw [e]
  unfold unitL
  rw [List.map_map]
  rfl
theorem asrows_ok {os : List Og} (hl : os.length ≤ 1000) {S : Store} : F__law_as_rows [.d (.lst (os.map wsD))] S = .ok (.d (.lst ((asRows os).map rwD))) S := by
  have e : (eLc (iEnu (aCons (eVar 0) (aNil))) (gT 2 (gN1 (gN 2) (gN1 (gN 3) (gN0)))) (tYs) (eTup (aCons (eOp opIx (eVar 3) (eC (.int 0))) (aCons (eOp opIx (eVar 3) (eC (.int 1))) (aCons (eB bTuple (aCons (eLc (iRng1 (aCons (eB bLen (aCons (eVar 0) (aNil))) (aNil))) (gN 1) (tYs) (eTup (aCons (eB bInt (aCons (eOp (opEq false) (eVar 1) (eVar 2)) (aNil))) (aCons (eC (.int 1)) (aNil)))) [1]) (aNil))) (aNil))))) [2, 3]) [some (.d (.lst (os.map wsD))), none, none, none] S = .ok (.d (.lst ((os.zipIdx 0).map fun z => rwD ⟨lineOf z.1.1, z.1.2, unitL os.length z.2⟩))) S := by
    refine eLc_mapA (fun z : Og × Nat => .tup [.int ((z.2 : Nat) : Int), wsD z.1]) _ ?_ (by rw [lim_eq, List.length_zipIdx]; omega) ?_
    · rw [← num_map]
      simp [iEnu, optE]
    · rintro ⟨o, k⟩ hz acc
      have u := fun v3 S => unit_comp (L := os.map wsD) (k := k) (by simpa using hl) (v3 := v3) (S := S)
      rw [List.length_map] at u
      refine ⟨_, by simp [wipeD]; rfl, by simp, ?_⟩
      generalize os.map wsD = W at *
      simp [wipeD, wsD, u, rwD, lnD]
  unfold F__law_as_rows b__law_as_rows
  rw [asRows_zip, List.map_map]
  have e2 : (rwD ∘ fun z : Og × Nat => (⟨lineOf z.1.1, z.1.2, unitL os.length z.2⟩ : Rw)) = fun z => rwD ⟨lineOf z.1.1, z.1.2, unitL os.length z.2⟩ := rfl
  rw [e2]
  generalize (os.zipIdx 0).map (fun z : Og × Nat => rwD ⟨lineOf z.1.1, z.1.2, unitL os.length z.2⟩) = Z at *
  generalize os.map wsD = W at *
  simp [mkFn_eq, e]
theorem st_small : ∀ k, k ≤ 2 → 4 * (stV k).1 + 4 * (stV k).2 ≤ 1000 ∧ stL k ≤ 2000 := by
  intro k hk
  have : k = 0 ∨ k = 1 ∨ k = 2 := by omega
  rcases this with rfl | rfl | rfl <;> decide
theorem st_last : ∀ k, k ≤ 3 → stL k ≤ 900000 ∧ (stV k).1 ≤ 72 ∧ (stV k).2 ≤ 123 := by
  intro k hk
  have : k = 0 ∨ k = 1 ∨ k = 2 ∨ k = 3 := by omega
  rcases this with rfl | rfl | rfl | rfl <;> decide
theorem lv_loop {n : Nat} {os : List Og} (h : ∀ o ∈ os, Og1 n o) (hl : os.length ≤ 5) (hn : n ≤ 3) {v0 v1 v4 v5 v6 v7 : Option Wt} {b0 : Nat} {S : Store} : ∀ (m k : Nat) (w : Wt) (v3 : Option Wt) (J J' : Store), k + m = n → Held w ((levels os k).map rwD) (S ++ J) (S ++ J') →
    ∃ w' v3' K K', forN (gN 3) (sSet 2 (eB F__law_without (aCons (eVar 2) (aCons (eVar 3) (aNil))))) ((List.range' k m).map fun i => .int ((i : Nat) : Int)) b0 [v0, v1, some w, v3, v4, v5, v6, v7] (S ++ J) = .nx [v0, v1, some w', v3', v4, v5, v6, v7] (S ++ K) ∧ Held w' ((levels os n).map rwD) (S ++ K) (S ++ K')
  | 0, k, w, v3, J, J', hk, hw => ⟨w, v3, J, J', rfl, by rw [← hk]; exact hw⟩
  | m + 1, k, w, v3, J, J', hk, hw => by
    have L := lv_all h hl k (by omega)
    have st := st_small k (by omega)
    have rs : Rs n os.length (stV k).1 (stV k).2 (levels os k) := ⟨L.ok, L.sz, by omega, by omega, st.1, by have := L.ln; omega⟩
    have e1 := without_ok rs (k := k) (by omega) hw
    rw [← levels_succ] at e1
    have hw' := held_loc ((levels os (k + 1)).map rwD) (S ++ J')
    rw [hw.len] at hw'
    rw [List.append_assoc, List.append_assoc] at hw'
    rw [List.append_assoc] at e1
    obtain ⟨w', v3', K, K', e2, hk2⟩ := lv_loop h hl hn (v0 := v0) (v1 := v1) (v4 := v4) (v5 := v5) (v6 := v6) (v7 := v7) (b0 := b0) m (k + 1) _ (some (.d (.int (k : Nat)))) _ _ (by omega) hw'
    refine ⟨w', v3', K, K', ?_, hk2⟩
    rw [← e2]
    generalize (levels os (k + 1)).map rwD = L1 at *
    simp [List.range'_succ, forN, e1]
theorem find_loop {n R : Nat} {v0 v1 v2 v3 : Option Wt} {b0 : Nat} {S : Store} : ∀ (l : List Rw) (v4 v5 v6 v7 : Option Wt), (∀ r ∈ l, Ok n R r) → (∃ r, l.find? barsB = some r ∧ forN (gT 3 (gN1 (gN 4) (gN1 (gN 5) (gN1 (gN 6) (gN0))))) (sSeq (sSet 7 (eB F__law_sign (aCons (eOp opIx (eVar 4) (eUn opNeg (eC (.int 1)))) (aNil))))
  (sIf (tOr (tBl (eOp opGt (eVar 7) (eC (.int 0)))) (tOr (tAnd (tBl (eOp (opEq false) (eVar 7) (eC (.int 0)))) (tBl (eOp (opEq false) (eVar 5) (eC (.str "<"))))) (tAnd (tBl (eOp opLt (eVar 7) (eC (.int 0)))) (tBl (eOp (opEq false) (eVar 5) (eC (.str "=")))))))
  (sRet (eVar 6))
  (sNext))) (l.map rwD) b0 [v0, v1, v2, v3, v4, v5, v6, v7] S = .rt (.d (lnD r.tk)) S) ∨
    (l.find? barsB = none ∧ ∃ σ', forN (gT 3 (gN1 (gN 4) (gN1 (gN 5) (gN1 (gN 6) (gN0))))) (sSeq (sSet 7 (eB F__law_sign (aCons (eOp opIx (eVar 4) (eUn opNeg (eC (.int 1)))) (aNil))))
  (sIf (tOr (tBl (eOp opGt (eVar 7) (eC (.int 0)))) (tOr (tAnd (tBl (eOp (opEq false) (eVar 7) (eC (.int 0)))) (tBl (eOp (opEq false) (eVar 5) (eC (.str "<"))))) (tAnd (tBl (eOp opLt (eVar 7) (eC (.int 0)))) (tBl (eOp (opEq false) (eVar 5) (eC (.str "=")))))))
  (sRet (eVar 6))
  (sNext))) (l.map rwD) b0 [v0, v1, v2, v3, v4, v5, v6, v7] S = .nx σ' S)
  | [], v4, v5, v6, v7, _ => .inr ⟨rfl, _, rfl⟩
  | r :: l, v4, v5, v6, v7, hm => by
    have ok := hm r (List.mem_cons_self ..)
    have la := fun S => last_ix (ln_ne ok) (S := S)
    have sg := fun S => sign_ok (p := lastF r.ln) (S := S)
    have key : (sSeq (sSet 7 (eB F__law_sign (aCons (eOp opIx (eVar 4) (eUn opNeg (eC (.int 1)))) (aNil))))
  (sIf (tOr (tBl (eOp opGt (eVar 7) (eC (.int 0)))) (tOr (tAnd (tBl (eOp (opEq false) (eVar 7) (eC (.int 0)))) (tBl (eOp (opEq false) (eVar 5) (eC (.str "<"))))) (tAnd (tBl (eOp opLt (eVar 7) (eC (.int 0)))) (tBl (eOp (opEq false) (eVar 5) (eC (.str "=")))))))
  (sRet (eVar 6))
  (sNext))) b0 [v0, v1, v2, v3, some (.d (lnD r.ln)), some (.d (.str (sgS r.sg))), some (.d (lnD r.tk)), v7] S = if barsB r = true then .rt (.d (lnD r.tk)) S else .nx [v0, v1, v2, v3, some (.d (lnD r.ln)), some (.d (.str (sgS r.sg))), some (.d (lnD r.tk)), some (.d (.int (b2i (decide ((lastF r.ln).1 > 0)) - b2i (decide ((lastF r.ln).1 < 0)))))] S := by
      by_cases c1 : (lastF r.ln).1 > 0
      · have c2 : ¬ (lastF r.ln).1 < 0 := by omega
        have c3 : ¬ (lastF r.ln).1 = 0 := by omega
        simp [la, sg, barsB, c1, c2, c3, b2i]
      · by_cases c2 : (lastF r.ln).1 < 0
        · have c3 : ¬ (lastF r.ln).1 = 0 := by omega
          by_cases q : r.sg = .eq
          · simp [la, sg, barsB, c1, c2, c3, b2i, str_eqs, q]
          · simp [la, sg, barsB, c1, c2, c3, b2i, str_eqs, q]
        · have c3 : (lastF r.ln).1 = 0 := by omega
          by_cases q : r.sg = .lt
          · simp [la, sg, barsB, c3, b2i, str_lts, q]
          · simp [la, sg, barsB, c3, b2i, str_lts, q]
    cases hb : barsB r with
    | true =>
      rw [hb, if_pos rfl] at key
      refine .inl ⟨r, by simp [hb], ?_⟩
      simp only [List.map_cons, forN, gT_row, gN1_ap, gN_ap, gN0_ap, ok_bind, ok_toS, List.set_cons_succ, List.set_cons_zero, key]
    | false =>
      rw [hb, if_neg Bool.false_ne_true] at key
      have ih := find_loop (v0 := v0) (v1 := v1) (v2 := v2) (v3 := v3) (b0 := b0) (S := S) l (some (.d (lnD r.ln))) (some (.d (.str (sgS r.sg)))) (some (.d (lnD r.tk))) (some (.d (.int (b2i (decide ((lastF r.ln).1 > 0)) - b2i (decide ((lastF r.ln).1 < 0)))))) (fun x hx => hm x (List.mem_cons_of_mem _ hx))
      have ef : (r :: l).find? barsB = l.find? barsB := by simp [hb]
      rw [ef]
      simp only [List.map_cons, forN, gT_row, gN1_ap, gN_ap, gN0_ap, ok_bind, ok_toS, List.set_cons_succ, List.set_cons_zero, key]
      exact ih
def optD (o : Option (List Fr)) : D := match o with
  | some t => lnD t
  | none => .non
theorem bars_ok {n : Nat} {os : List Og} (h : ∀ o ∈ os, Og1 n o) (hl : os.length ≤ 5) (hn : n ≤ 3) {S : Store} : F__law_bars [.d (.lst (os.map wsD)), .d (.int (n : Nat))] S = .ok (.d (K42.optD (bars os n))) S := by
  have e0 := fun S => asrows_ok (os := os) (by omega) (S := S)
  have hw : Held (.d (.lst ((levels os 0).map rwD))) ((levels os 0).map rwD) (S ++ []) (S ++ []) := held_d _ _
  obtain ⟨w', v3', K, K', e1, hw'⟩ := lv_loop h hl hn (v0 := some (.d (.lst (os.map wsD)))) (v1 := some (.d (.int (n : Nat)))) (v4 := none) (v5 := none) (v6 := none) (v7 := none) (b0 := S.length) n 0 _ none _ _ (by omega) hw
  have er : ∀ S : Store, rg1 [.d (.int (n : Nat))] S = .ok ((List.range' 0 n).map fun i => .int ((i : Nat) : Int)) S := fun S => by
    rw [rg1_nat (by omega)]
    unfold rng
    rw [List.range_eq_range']
    simp
  have L := lv_all h hl n (by omega)
  have tk : ∀ T : Store, (S ++ T).take S.length = S := fun T => by simp
  rw [List.append_nil] at e1
  have z : (asRows os).map rwD = (levels os 0).map rwD := rfl
  have fz := hw'.fz
  rcases find_loop (v0 := some (.d (.lst (os.map wsD)))) (v1 := some (.d (.int (n : Nat)))) (v2 := some w') (v3 := v3') (b0 := S.length) (S := S ++ K') (levels os n) none none none none L.ok with ⟨r, hf, e2⟩ | ⟨hf, σ', e2⟩
  · have eb : bars os n = some r.tk := by
      unfold bars
      rw [hf]
      rfl
    rw [eb]
    unfold F__law_bars b__law_bars
    rw [z] at e0
    show _ = Res.ok (Wt.d (lnD r.tk)) S
    generalize (levels os n).map rwD = L1 at *
    generalize (levels os 0).map rwD = L0 at *
    generalize os.map wsD = W at *
    generalize lnD r.tk = X at *
    simp [mkFn_eq, e0, er, e1, fz, e2]
  · have eb : bars os n = none := by
      unfold bars
      rw [hf]
      rfl
    rw [eb]
    unfold F__law_bars b__law_bars
    rw [z] at e0
    show _ = Res.ok (Wt.d D.non) S
    generalize (levels os n).map rwD = L1 at *
    generalize (levels os 0).map rwD = L0 at *
    generalize os.map wsD = W at *
    simp [mkFn_eq, e0, er, e1, fz, e2]
end K42
end
section
/-! FRACTIONs, and such that are none; ROWS are let -/
namespace K42
open PySem PySem.Spec PyProof.Rows L2 Y
theorem whole_int {i : Int} {S : Store} : F_is_whole [.d (.int i)] S = .ok (.d (.bl true)) S := by
  unfold F_is_whole b_is_whole
  simp [mkFn_eq]
theorem whole_str {i : Str} {S : Store} : F_is_whole [.d (.str i)] S = .ok (.d (.bl false)) S := by
  unfold F_is_whole b_is_whole
  simp [mkFn_eq]
theorem whole_bl {i : Bool} {S : Store} : F_is_whole [.d (.bl i)] S = .ok (.d (.bl false)) S := by
  unfold F_is_whole b_is_whole
  simp [mkFn_eq]
theorem lwhole_int {i : Int} {S : Store} : F__law_whole [.d (.int i)] S = .ok (.d (.bl true)) S := by
  unfold F__law_whole b__law_whole
  simp [mkFn_eq]
theorem lwhole_str {i : Str} {S : Store} : F__law_whole [.d (.str i)] S = .ok (.d (.bl false)) S := by
  unfold F__law_whole b__law_whole
  simp [mkFn_eq]
theorem lwhole_bl {i : Bool} {S : Store} : F__law_whole [.d (.bl i)] S = .ok (.d (.bl false)) S := by
  unfold F__law_whole b__law_whole
  simp [mkFn_eq]
theorem tuple_of {l : List D} {n : Int} {S : Store} : F_is_tuple_of [.d (.tup l), .d (.int n)] S = .ok (.d (.bl (decide ((l.length : Int) = n)))) S := by
  unfold F_is_tuple_of b_is_tuple_of
  simp [mkFn_eq]
theorem between_int {x lo hi : Int} {S : Store} : F_is_between [.d (.int x), .d (.int lo), .d (.int hi)] S = .ok (.d (.bl (decide (lo ≤ x ∧ x ≤ hi)))) S := by
  unfold F_is_between b_is_between
  by_cases h : lo ≤ x <;> simp [mkFn_eq, whole_int, h]
/-- told the same by both looks -/
def Both (d : D) (b : Bool) : Prop := ∀ S, F_is_fraction_by [.d d] S = .ok (.d (.bl b)) S ∧ F__law_is_part [.d d] S = .ok (.d (.bl b)) S
/-- no tuple -/
theorem tof_non {n : Int} {S : Store} : F_is_tuple_of [.d .non, .d (.int n)] S = .ok (.d (.bl false)) S := by
  unfold F_is_tuple_of b_is_tuple_of
  simp [mkFn_eq]
theorem tof_lst {n : Int} {l : List D} {S : Store} : F_is_tuple_of [.d (.lst l), .d (.int n)] S = .ok (.d (.bl false)) S := by
  unfold F_is_tuple_of b_is_tuple_of
  simp [mkFn_eq]
theorem tof_int {n i : Int} {S : Store} : F_is_tuple_of [.d (.int i), .d (.int n)] S = .ok (.d (.bl false)) S := by
  unfold F_is_tuple_of b_is_tuple_of
  simp [mkFn_eq]
theorem both_non : Both .non false := fun S => by
  constructor
  · unfold F_is_fraction_by b_is_fraction_by
    simp [mkFn_eq, tof_non]
  · unfold F__law_is_part b__law_is_part
    simp [mkFn_eq]
theorem both_lst {l : List D} : Both (.lst l) false := fun S => by
  constructor
  · unfold F_is_fraction_by b_is_fraction_by
    simp [mkFn_eq, tof_lst]
  · unfold F__law_is_part b__law_is_part
    simp [mkFn_eq]
theorem both_int {i : Int} : Both (.int i) false := fun S => by
  constructor
  · unfold F_is_fraction_by b_is_fraction_by
    simp [mkFn_eq, tof_int]
  · unfold F__law_is_part b__law_is_part
    simp [mkFn_eq]
theorem both_len {l : List D} (h : l.length ≠ 2) : Both (.tup l) false := fun S => by
  have h' : ¬ ((l.length : Nat) : Int) = 2 := by omega
  constructor
  · have := tuple_of (l := l) (n := 2) (S := S)
    rw [decide_eq_false h'] at this
    unfold F_is_fraction_by b_is_fraction_by
    simp [mkFn_eq, this]
  · unfold F__law_is_part b__law_is_part
    simp [mkFn_eq, h']
theorem both_str {x : Str} {i : Int} : Both (.tup [.str x, .int i]) false := fun S => by
  have := fun S => tuple_of (l := [.str x, .int i]) (n := 2) (S := S)
  constructor
  · unfold F_is_fraction_by b_is_fraction_by
    simp [mkFn_eq, this, whole_str]
  · unfold F__law_is_part b__law_is_part
    simp [mkFn_eq, lwhole_str]
theorem both_bl {x : Bool} {i : Int} : Both (.tup [.bl x, .int i]) false := fun S => by
  have := fun S => tuple_of (l := [.bl x, .int i]) (n := 2) (S := S)
  constructor
  · unfold F_is_fraction_by b_is_fraction_by
    simp [mkFn_eq, this, whole_bl]
  · unfold F__law_is_part b__law_is_part
    simp [mkFn_eq, lwhole_bl]
theorem both_neg {p : Fr} (h : p.2 ≤ 0) : Both (frD p) false := fun S => by
  have := fun S => tuple_of (l := [.int p.1, .int p.2]) (n := 2) (S := S)
  have h' : ¬ p.2 > 0 := by omega
  constructor
  · unfold F_is_fraction_by b_is_fraction_by
    simp [mkFn_eq, frD, this, whole_int, h]
  · unfold F__law_is_part b__law_is_part
    simp [mkFn_eq, frD, lwhole_int, h']
theorem nrm_self {p q : Int} (hq : 0 < q) : decide (nrm p q = (p, q)) = decide (Nat.gcd p.natAbs q.natAbs = 1) := by
  by_cases e : Nat.gcd p.natAbs q.natAbs = 1
  · have : nrm p q = (p, q) := by
      unfold nrm
      rw [e]
      simp
    simp [this, e]
  · have : ¬ nrm p q = (p, q) := fun c => by
      obtain ⟨g, a, b, hg, h1, h2, hb, e2, e3⟩ := nrm_parts (p := p) hq
      rw [c] at e2
      cases e2
      have : g = 1 := by
        have h2 : (g : Int) * q = 1 * q := by omega
        have := Int.eq_of_mul_eq_mul_right (by omega) h2
        omega
      exact e (by omega)
    simp [this, e]
theorem both_fr {p : Fr} {k : Nat} (h : 0 < p.2) (h2 : p.2.natAbs ≤ 2 ^ k) (hk : k ≤ 2500) : Both (frD p) (decide (Nat.gcd p.1.natAbs p.2.natAbs = 1)) := fun S => by
  have t := fun S => tuple_of (l := [.int p.1, .int p.2]) (n := 2) (S := S)
  have h' : ¬ p.2 ≤ 0 := by omega
  have po := fun S => ratio_big (p := p.1) h h2 hk (S := S)
  have eq : ∀ S, opEq false (.d (frD (nrm p.1 p.2))) (.d (frD p)) S = .ok (.d (.bl (decide (Nat.gcd p.1.natAbs p.2.natAbs = 1)))) S := fun S => by
    refine eq_of (pl_eqOk (pl_fr _) (pl_fr _) (by decide)) ?_
    rw [deq_fr]
    exact nrm_self h
  constructor
  · unfold F_is_fraction_by b_is_fraction_by
    simp [mkFn_eq, frD, t, whole_int, h']
    congr 1
    by_cases c : Nat.gcd p.1.natAbs p.2.natAbs = 1
    · simp [c]
    · have c' : ¬ ((Nat.gcd p.1.natAbs p.2.natAbs : Nat) : Int) = 1 := by omega
      simp [c, c']
  · unfold F__law_is_part b__law_is_part
    unfold frD at eq po ⊢
    simp [mkFn_eq, lwhole_int, h, po, eq]
theorem both_gd {V B : Nat} {p : Fr} (h : Gd p) (s : Sz V B p) (hB : B ≤ 2500) : Both (frD p) true := by
  have := both_fr h.pos s.den hB
  rw [decide_eq_true h.red] at this
  exact this
/-! ROWS -/
theorem in_signs {g : Sg} {S : Store} : opIn false (.d (.str (sgS g))) (.d K_SIGNS) S = .ok (.d (.bl true)) S := by
  have q : ∀ g : Sg, (D.str (sgS g)).shp = true := fun g => pl_shp (k := 0) (sgS_ok g) (by decide)
  have h1 : inOk (.str (sgS g)) [.str "<", .str "<=", .str "="] = true := by
    unfold inOk
    have q1 : (D.tup [.str "<", .str "<=", .str "="]).shp = true := pl_shp (k := 1) (by decide +kernel) (by decide)
    rw [q, q1]
    simp
  have h2 : inSeq (.str (sgS g)) [.str "<", .str "<=", .str "="] = true := by
    unfold inSeq
    cases g <;> decide
  unfold K_SIGNS
  simp [opIn, h1, h2]
theorem row_ok {n : Nat} {o : Og} (h : Og1 n o) (hn : n ≤ 1000) {S : Store} : F_is_row [.d (.int (n : Nat)), .d (ogD o)] S = .ok (.d (.bl true)) S := by
  have e : eLc (iVal (eOp opIx (eVar 1) (eC (.int 0)))) (gN 2) (tYs) (eB F_is_whole (aCons (eVar 2) (aNil))) [2] [some (.d (.int (n : Nat))), some (.d (ogD o)), none] S = .ok (.d (.lst (o.1.map fun _ => .bl true))) S := by
    refine eLc_mapA D.int _ (by simp [ogD]) (by have := h.l; rw [lim_eq]; omega) ?_
    intro x hx acc
    exact ⟨_, by simp [wipeD]; rfl, by simp, by simp [wipeD, whole_int]⟩
  have a := fun S => all_map (l := o.1) (q := fun _ => true) (S := S)
  have a2 : (o.1.all fun _ => true) = true := by simp
  rw [a2] at a
  have t1 := fun S => tuple_of (l := [.tup (o.1.map D.int), .str (sgS o.2)]) (n := 2) (S := S)
  have t2 := fun S => tuple_of (l := o.1.map D.int) (n := (n : Int) + 1) (S := S)
  have hl : (((o.1.map D.int).length : Nat) : Int) = (n : Int) + 1 := by rw [List.length_map, h.l]; omega
  rw [decide_eq_true hl] at t2
  have si := fun S => in_signs (g := o.2) (S := S)
  unfold F_is_row b_is_row
  unfold ogD at *
  generalize o.1.map (fun _ => D.bl true) = X at *
  generalize o.1.map D.int = Y at *
  simp [mkFn_eq, t1, t2, e, a, si]
theorem rows_ok {n : Nat} {os : List Og} (h : ∀ o ∈ os, Og1 n o) (hl : os.length ≤ 5) (hn : n ≤ 3) {S : Store} : F_check_rows [.d (osD os), .d (.int (n : Nat))] S = .ok (.d .non) S := by
  have e : eLc (iVal (eVar 1)) (gN 2) (tYs) (eB F_is_row (aCons (eVar 0) (aCons (eVar 2) (aNil)))) [2] [some (.d (.int (n : Nat))), some (.d (.tup (os.map ogD))), none] S = .ok (.d (.lst (os.map fun _ => .bl true))) S := by
    refine eLc_mapA ogD _ (by simp) (by rw [lim_eq]; omega) ?_
    intro o ho acc
    have r := fun S => row_ok (h o ho) (by omega) (S := S)
    exact ⟨_, by simp [wipeD]; rfl, by simp, by simp [wipeD, r]⟩
  have a := fun S => all_map (l := os) (q := fun _ => true) (S := S)
  have a2 : (os.all fun _ => true) = true := by simp
  rw [a2] at a
  have ar : ∀ S', S' = S → F_are_rows_by [.d (.int (n : Nat)), .d (.tup (os.map ogD))] S' = .ok (.d (.bl true)) S' := fun S' hS => by
    subst hS
    unfold F_are_rows_by b_are_rows_by
    have l2 : ((os.length : Nat) : Int) ≤ 200 := by omega
    generalize os.map (fun _ => D.bl true) = X at *
    have l3 : (os.map ogD).length = os.length := List.length_map ..
    generalize os.map ogD = Y at *
    simp [mkFn_eq, l3, K_MOST_ROWS, l2, e, a]
  have ar := ar S rfl
  have b := fun S => between_int (x := (n : Int)) (lo := 0) (hi := 5) (S := S)
  have hb : (0 : Int) ≤ (n : Int) ∧ (n : Int) ≤ 5 := by omega
  rw [decide_eq_true hb] at b
  have cm : F_check_many [.d (.int (n : Nat))] S = .ok (.d .non) S := by
    unfold F_check_many b_check_many
    simp [mkFn_eq, K_MOST_NUMBERS, b]
  unfold F_check_rows b_check_rows
  unfold osD
  generalize os.map ogD = Y at *
  simp [mkFn_eq, cm, ar]
end K42
end
section
/-! whether multiples bar: the package's -/
namespace K42
open PySem PySem.Spec PyProof.Rows L2 Y
/-- a value's item, with what it is worth if it is a FRACTION -/
structure ItOk (V B : Nat) (z : D × Option Fr) : Prop where
  both : Both z.1 z.2.isSome
  fr : ∀ p, z.2 = some p → z.1 = frD p ∧ Gd p ∧ Sz V B p
def mulB (o : Og) (z : D × Option Fr) : Bool := match z.2 with
  | some p => decide (o.2 = .eq) || decide (p.1 ≥ 0)
  | none => false
theorem mul_ok {V B : Nat} {o : Og} {z : D × Option Fr} (h : ItOk V B z) {S : Store} : F_is_multiple [.d (ogD o), .d z.1] S = .ok (.d (.bl (mulB o z))) S := by
  obtain ⟨d, p⟩ := z
  have b := fun S => (h.both S).1
  unfold F_is_multiple b_is_multiple
  cases p with
  | none =>
    simp only [Option.isSome_none] at b
    simp [mkFn_eq, b, mulB]
  | some p =>
    obtain ⟨e, _, _⟩ := h.fr p rfl
    have e : d = frD p := e
    subst e
    simp only [Option.isSome_some] at b
    by_cases q : o.2 = .eq
    · simp [mkFn_eq, b, mulB, ogD, K_EQUAL, str_eqs, q]
    · simp [mkFn_eq, b, mulB, ogD, K_EQUAL, str_eqs, q, fr_0]
theorem muls_ok {V B : Nat} {os : List Og} {zs : List (D × Option Fr)} (h : ∀ z ∈ zs, ItOk V B z) (hl : os.length ≤ 5) {S : Store} : F_are_multiples [.d (osD os), .d (.tup (zs.map (·.1)))] S = .ok (.d (.bl (decide (zs.length = os.length) && (os.zip zs).all fun x => mulB x.1 x.2))) S := by
  have e : (eLc (iZipX (aCons (eVar 0) (aCons (eVar 1) (aNil)))) (gT 2 (gN1 (gN 2) (gN1 (gN 3) (gN0)))) (tYs) (eB F_is_multiple (aCons (eVar 2) (aCons (eVar 3) (aNil)))) [2, 3]) [some (.d (.tup (os.map ogD))), some (.d (.tup (zs.map (·.1)))), none, none] S = .ok (.d (.lst ((os.zip zs).map fun x => .bl (mulB x.1 x.2)))) S := by
    refine eLc_mapA (fun x : Og × D × Option Fr => .tup [ogD x.1, x.2.1]) _ (by simp [zip_map]) (by rw [lim_eq, List.length_zip]; omega) ?_
    intro x hx acc
    obtain ⟨m1, m2⟩ := List.of_mem_zip hx
    have r := fun S => mul_ok (o := x.1) (h _ m2) (S := S)
    exact ⟨_, by simp [wipeD]; rfl, by simp, by simp [wipeD, r]⟩
  have a := fun S => all_map (l := os.zip zs) (q := fun x => mulB x.1 x.2) (S := S)
  have t := fun S => tuple_of (l := zs.map (·.1)) (n := (os.length : Nat)) (S := S)
  have hd : (decide ((((zs.map (·.1)).length : Nat) : Int) = ((os.length : Nat) : Int))) = decide (zs.length = os.length) := by
    rw [List.length_map]
    by_cases q : zs.length = os.length
    · simp [q]
    · have : ¬ ((zs.length : Nat) : Int) = ((os.length : Nat) : Int) := by omega
      simp [q, this]
  rw [hd] at t
  have lo : (os.map ogD).length = os.length := List.length_map ..
  unfold F_are_multiples b_are_multiples
  unfold osD
  generalize (os.zip zs).map (fun x => D.bl (mulB x.1 x.2)) = X at *
  generalize ((os.zip zs).all fun x => mulB x.1 x.2) = Y at *
  generalize os.map ogD = O at *
  generalize zs.map (fun x => x.1) = Z at *
  by_cases q : zs.length = os.length
  · rw [decide_eq_true q] at t ⊢
    simp [mkFn_eq, lo, t, e, a]
  · rw [decide_eq_false q] at t ⊢
    simp [mkFn_eq, lo, t]
theorem lp_line (acc : List Fr) (f : List Int) (v : Fr) : (acc.zip f).map (fun z => frD (plF z.1 (tmF v (z.2, 1)))) = (lpF acc (lineOf f) v).map frD := by
  unfold lpF lineOf
  induction acc generalizing f with
  | nil => simp
  | cons p a ih =>
    cases f with
    | nil => rfl
    | cons q b =>
      have := ih (f := b)
      simp only [List.zip_cons_cons, List.map_cons, List.zipWith_cons_cons, this]
theorem int_sz {n : Nat} {o : Og} (h : Og1 n o) : ∀ x ∈ o.1, Sz 4 0 (x, 1) := fun x hx => ⟨show (0 : Int) < 1 by decide, by simpa using h.b x hx, show (1 : Int).natAbs ≤ 2 ^ 0 by decide⟩
theorem line_sz {n : Nat} {o : Og} (h : Og1 n o) : ∀ p ∈ lineOf o.1, Sz 4 0 p := fun p hp => by
  obtain ⟨x, hx, rfl⟩ := List.mem_map.mp hp
  exact int_sz h x hx
theorem inner_ok {n V B : Nat} {o : Og} (h : Og1 n o) {v : Fr} (hv : Sz V B v) {acc : List Fr} {Va Ba : Nat} (ha : ∀ p ∈ acc, Sz Va Ba p) (hl : acc.length = n + 1) (hn : n ≤ 3) (hk : Va + Ba + (V + 4 + B) ≤ 2500) {w0 w1 w2 v4 v7 v8 : Option Wt} {S : Store} :
    (eLc (iZipX (aCons (eVar 3) (aCons (eOp opIx (eVar 5) (eC (.int 0))) (aNil)))) (gT 2 (gN1 (gN 7) (gN1 (gN 8) (gN0)))) (tYs) (eB F_sum_of (aCons (eVar 7) (aCons (eB F_times (aCons (eVar 6) (aCons (eB F_whole (aCons (eVar 8) (aNil))) (aNil)))) (aNil)))) [7, 8]) [w0, w1, w2, some (.d (.lst (acc.map frD))), v4, some (.d (ogD o)), some (.d (frD v)), v7, v8] S = .ok (.d (.lst ((lpF acc (lineOf o.1) v).map frD))) S := by
  rw [← lp_line]
  refine eLc_mapA (fun z : Fr × Int => .tup [frD z.1, .int z.2]) _ (by simp [wipeD, ogD, zip_map]) (by rw [lim_eq, List.length_zip]; omega) ?_
  intro z hz acc2
  obtain ⟨m1, m2⟩ := List.of_mem_zip hz
  have w := fun S : Store => show F_whole [.d (.int z.2)] S = .ok (.d (frD (z.2, 1))) S by
    unfold F_whole b_whole
    simp [mkFn_eq, frD]
  have t1 := fun S => times_ok hv (int_sz h _ m2) (by omega) (S := S)
  have t2 := fun S => sum_ok (ha _ m1) (hv.tm (int_sz h _ m2)) (by omega) (S := S)
  exact ⟨_, by simp [wipeD]; rfl, by simp, by simp [wipeD, w, t1, t2]⟩
theorem acc_sz {n j : Nat} {o : Og} (h : Og1 n o) {v : Fr} (hv : Sz 80 130 v) {acc : List Fr} (ha : ∀ p ∈ acc, Sz (85 + j) (130 * j) p) : ∀ p ∈ lpF acc (lineOf o.1) v, Sz (85 + (j + 1)) (130 * (j + 1)) p :=
  fun p hp => (lp_sz hv ha (line_sz h) p hp).mono (by omega) (by omega)
theorem add_loop {n : Nat} (hn : n ≤ 3) {w0 w1 w2 v4 : Option Wt} {b0 : Nat} {S : Store} : ∀ (l : List (Og × Fr)) (j : Nat) (acc : List Fr) (v5 v6 v7 v8 : Option Wt), (∀ x ∈ l, Og1 n x.1 ∧ Sz 80 130 x.2) → j + l.length ≤ 5 → acc.length = n + 1 → (∀ p ∈ acc, Sz (85 + j) (130 * j) p) →
    ∃ v5' v6', forN (gT 2 (gN1 (gN 5) (gN1 (gN 6) (gN0)))) (sSet 3 (eLc (iZipX (aCons (eVar 3) (aCons (eOp opIx (eVar 5) (eC (.int 0))) (aNil)))) (gT 2 (gN1 (gN 7) (gN1 (gN 8) (gN0)))) (tYs) (eB F_sum_of (aCons (eVar 7) (aCons (eB F_times (aCons (eVar 6) (aCons (eB F_whole (aCons (eVar 8) (aNil))) (aNil)))) (aNil)))) [7, 8])) (l.map fun x => .tup [ogD x.1, frD x.2]) b0 [w0, w1, w2, some (.d (.lst (acc.map frD))), v4, v5, v6, v7, v8] S = .nx [w0, w1, w2, some (.d (.lst ((sumF acc l).map frD))), v4, v5', v6', v7, v8] S
  | [], j, acc, v5, v6, v7, v8, _, _, _, _ => ⟨v5, v6, by simp [forN, sumF]⟩
  | x :: l, j, acc, v5, v6, v7, v8, hm, hj, hl, ha => by
    rw [List.length_cons] at hj
    obtain ⟨m1, m2⟩ := hm x (List.mem_cons_self ..)
    have e := inner_ok m1 m2 ha hl hn (by omega) (w0 := w0) (w1 := w1) (w2 := w2) (v4 := v4) (v7 := v7) (v8 := v8) (S := S)
    obtain ⟨p5, p6, e2⟩ := add_loop hn (w0 := w0) (w1 := w1) (w2 := w2) (v4 := v4) (b0 := b0) (S := S) l (j + 1) (lpF acc (lineOf x.1.1) x.2) (some (.d (ogD x.1))) (some (.d (frD x.2))) v7 v8 (fun y hy => hm y (List.mem_cons_of_mem _ hy)) (by omega) (by rw [lp_len (by rw [hl]; simp [lineOf, m1.l]), hl]) (acc_sz m1 m2 ha)
    refine ⟨p5, p6, ?_⟩
    rw [show sumF acc (x :: l) = sumF (lpF acc (lineOf x.1.1) x.2) l from rfl, ← e2]
    generalize (lpF acc (lineOf x.1.1) x.2).map frD = Y at *
    simp [forN, e]
theorem nought_ok {n : Nat} (hn : n ≤ 3) {w0 w2 v3 v5 v6 v7 v8 : Option Wt} {S : Store} : (eLc (iRng1 (aCons (eOp opAdd (eVar 1) (eC (.int 1))) (aNil))) (gN 4) (tYs) (eC K_NOUGHT) [4]) [w0, some (.d (.int (n : Nat))), w2, v3, none, v5, v6, v7, v8] S = .ok (.d (.lst ((List.replicate (n + 1) ((0, 1) : Fr)).map frD))) S := by
  have : (List.replicate (n + 1) ((0, 1) : Fr)).map frD = (List.range (n + 1)).map fun _ => K_NOUGHT := by
    rw [List.map_replicate]
    refine List.ext_getElem (by simp) fun i h1 h2 => ?_
    simp [K_NOUGHT, frD]
  rw [this]
  refine eLc_mapA (fun j : Nat => .int (0 + (j : Nat) : Int)) _ ?_ (by rw [lim_eq, List.length_range]; omega) ?_
  · have := rg1_nat (S := S) (j := n + 1) (by omega)
    have e : (((n + 1 : Nat) : Nat) : Int) = (n : Int) + 1 := by omega
    rw [e] at this
    simp [this, rng]
  · intro j hj acc
    exact ⟨_, by simp [wipeD]; rfl, by simp, by simp [wipeD]⟩
theorem sz_nought {n : Nat} : ∀ p ∈ List.replicate (n + 1) ((0, 1) : Fr), Sz (85 + 0) (130 * 0) p := fun p hp => by
  rw [List.eq_of_mem_replicate hp]
  exact ⟨by decide, by decide, by decide⟩
theorem zips_ok {n : Nat} {os : List Og} {vs : List Fr} (h : ∀ o ∈ os, Og1 n o) (hv : ∀ v ∈ vs, Sz 80 130 v) : ∀ x ∈ os.zip vs, Og1 n x.1 ∧ Sz 80 130 x.2 := fun x hx => by
  obtain ⟨m1, m2⟩ := List.of_mem_zip hx
  exact ⟨h _ m1, hv _ m2⟩
theorem added_ok {n : Nat} (hn : n ≤ 3) {os : List Og} {vs : List Fr} (h : ∀ o ∈ os, Og1 n o) (hv : ∀ v ∈ vs, Sz 80 130 v) (hl : os.length ≤ 5) {S : Store} : F_added_up [.d (osD os), .d (.int (n : Nat)), .d (lnD vs)] S = .ok (.d (.lst ((sumF (List.replicate (n + 1) (0, 1)) (os.zip vs)).map frD))) S := by
  have e1 := nought_ok hn (w0 := some (.d (.tup (os.map ogD)))) (w2 := some (.d (.tup (vs.map frD)))) (v3 := none) (v5 := none) (v6 := none) (v7 := none) (v8 := none) (S := S)
  obtain ⟨p5, p6, e2⟩ := add_loop hn (w0 := some (.d (.tup (os.map ogD)))) (w1 := some (.d (.int (n : Nat)))) (w2 := some (.d (.tup (vs.map frD)))) (v4 := none) (b0 := S.length) (S := S) (os.zip vs) 0 (List.replicate (n + 1) (0, 1)) none none none none (zips_ok h hv) (by rw [List.length_zip]; omega) (by simp) sz_nought
  have z := zip_map ogD frD os vs
  unfold F_added_up b_added_up
  unfold osD lnD
  rw [← z] at e2
  generalize (sumF (List.replicate (n + 1) (0, 1)) (os.zip vs)).map frD = Y at *
  generalize (List.replicate (n + 1) ((0, 1) : Fr)).map frD = N at *
  generalize os.map ogD = O at *
  generalize vs.map frD = W at *
  simp [mkFn_eq, e1, e2]
theorem ne_nought {neg : Bool} {p : Fr} {S : Store} : opEq neg (.d (frD p)) (.d K_NOUGHT) S = .ok (.d (.bl (if neg then !decide (p = (0, 1)) else decide (p = (0, 1))))) S :=
  eq_of (B := frD (0, 1)) (pl_eqOk (pl_fr _) (pl_fr _) (by decide)) (deq_fr p (0, 1))
theorem in_words {g : Sg} {neg : Bool} {ws : List Sg} {S : Store} : opIn neg (.d (.str (sgS g))) (.d (.lst (ws.map fun w => .str (sgS w)))) S = .ok (.d (.bl (if neg then !decide (g ∈ ws) else decide (g ∈ ws)))) S := by
  have q : ∀ g : Sg, (D.str (sgS g)).shp = true := fun g => pl_shp (k := 0) (sgS_ok g) (by decide)
  have h1 : inOk (.str (sgS g)) (ws.map fun w => .str (sgS w)) = true := by
    unfold inOk
    have q1 : (D.tup (ws.map fun w => .str (sgS w))).shp = true := pl_shp (k := 1) (by
      show (ws.map fun w => D.str (sgS w)).all (pl 0) = true
      rw [List.all_map]
      exact List.all_eq_true.mpr fun w _ => sgS_ok w) (by decide)
    rw [q, q1]
    simp
  have h2 : inSeq (.str (sgS g)) (ws.map fun w => .str (sgS w)) = decide (g ∈ ws) := by
    unfold inSeq
    induction ws with
    | nil => rfl
    | cons w ws ih =>
      rw [List.map_cons, List.any_cons]
      have ih := ih (by
        unfold inOk
        have q1 : (D.tup (ws.map fun w => .str (sgS w))).shp = true := pl_shp (k := 1) (by
          show (ws.map fun w => D.str (sgS w)).all (pl 0) = true
          rw [List.all_map]
          exact List.all_eq_true.mpr fun w _ => sgS_ok w) (by decide)
        rw [q, q1]
        simp)
      rw [ih, deq_str]
      simp only [sgS_inj]
      by_cases e : w = g
      · simp [e]
      · have : ¬ g = w := fun c => e c.symm
        simp [e, this]
  simp [opIn, h1, h2]
theorem last_ixL {l : List Fr} (h : l ≠ []) {S : Store} : opIx (.d (.lst (l.map frD))) (.d (.int (-1))) S = .ok (.d (frD (lastF l))) S := last_ix h
def okV (p : Fr) : D × Option Fr := (frD p, some p)
theorem mul_neg (os : List Og) (vs : List Fr) : ((os.zip (vs.map okV)).all fun x => mulB x.1 x.2) = !negF (os.zip vs) := by
  unfold negF
  rw [List.zip_map_right, List.all_map, Bool.eq_iff_iff]
  simp only [Bool.not_eq_true', List.all_eq_true, List.any_eq_false]
  have key : ∀ x : Og × Fr, ((fun x : Og × D × Option Fr => mulB x.1 x.2) ∘ Prod.map id okV) x = true ↔ ¬ (decide (x.2.1 < 0) && decide (x.1.2 ≠ .eq)) = true := fun x => by
    show mulB x.1 (frD x.2, some x.2) = true ↔ _
    simp only [mulB, Bool.or_eq_true, Bool.and_eq_true, decide_eq_true_eq]
    by_cases q : x.1.2 = .eq
    · simp [q]
    · simp [q]
  constructor
  · intro h x hx
    exact (key x).mp (h x hx)
  · intro h x hx
    exact (key x).mpr (h x hx)
theorem gd0 {p : Fr} (h : Gd p) : decide (p = (0, 1)) = decide (p.1 = 0) := by
  by_cases e : p.1 = 0
  · rw [decide_eq_true e, decide_eq_true (gd_zero h e)]
  · have : ¬ p = (0, 1) := fun c => e (by rw [c])
    rw [decide_eq_false e, decide_eq_false this]
theorem dobarby_ok {n : Nat} (hn : n ≤ 3) {os : List Og} {vs : List Fr} (h : ∀ o ∈ os, Og1 n o) (hg : ∀ v ∈ vs, Gd v) (hv : ∀ v ∈ vs, Sz 80 130 v) (hl : os.length ≤ 5) (he : vs.length = os.length) {S : Store} : F_do_bar_by [.d (osD os), .d (.int (n : Nat)), .d (lnD vs)] S = .ok (.d (.bl (barV n os vs))) S := by
  have m := fun S => muls_ok (V := 80) (B := 130) (os := os) (zs := vs.map okV) (by
    intro z hz
    obtain ⟨p, hp, rfl⟩ := List.mem_map.mp hz
    exact ⟨both_gd (hg p hp) (hv p hp) (by omega), fun q hq => by cases hq; exact ⟨rfl, hg p hp, hv p hp⟩⟩) hl (S := S)
  rw [mul_neg, List.map_map, List.length_map, decide_eq_true he] at m
  have m1 : (fun x : D × Option Fr => x.1) ∘ okV = frD := rfl
  rw [m1] at m
  have ad := fun S => added_ok hn h hv hl (S := S)
  have zl : ∀ x ∈ os.zip vs, Og1 n x.1 ∧ Sz 80 130 x.2 ∧ Gd x.2 := fun x hx => by
    obtain ⟨m1, m2⟩ := List.of_mem_zip hx
    exact ⟨h _ m1, hv _ m2, hg _ m2⟩
  have sl := sum_len (os.zip vs) (List.replicate (n + 1) ((0, 1) : Fr)) (by simp) (fun x hx => (zl x hx).1)
  have sg := sum_gd (n := n) (os.zip vs) (List.replicate (n + 1) ((0, 1) : Fr)) (fun p hp => by rw [List.eq_of_mem_replicate hp]; exact gd_one 0) (fun x hx => (zl x hx).2.2.pos)
  unfold barV
  generalize sumF (List.replicate (n + 1) ((0, 1) : Fr)) (os.zip vs) = T at *
  have tn : T ≠ [] := fun c => by rw [c] at sl; simp at sl
  have an : (eLc (iVal (eSl opSl (eVar 3) (oNone) (oSome (eUn opNeg (eC (.int 1)))))) (gN 4) (tYs) (eOp (opEq true) (eVar 4) (eC K_NOUGHT)) [4]) [some (.d (.tup (os.map ogD))), some (.d (.int (n : Nat))), some (.d (.tup (vs.map frD))), some (.d (.lst (T.map frD))), none, none, none, none] S = .ok (.d (.lst (T.dropLast.map fun p => .bl (!decide (p.1 = 0))))) S := by
    have q : Y.cutD (T.map frD) none (some (-1)) = T.dropLast.map frD := by rw [cut_init, dropLast_map]
    refine eLc_mapA frD _ (by simp [q, -List.map_dropLast]) (by rw [lim_eq, List.length_dropLast]; omega) ?_
    intro p hp acc
    have z := gd0 (sg p ((List.dropLast_sublist T).subset hp))
    exact ⟨_, by simp [wipeD]; rfl, by simp, by simp [wipeD, ne_nought, z]⟩
  have a2 := fun S => any_map_ok (l := T.dropLast) (q := fun p => !decide (p.1 = 0)) (S := S)
  have a3 : (T.dropLast.any fun p => !decide (p.1 = 0)) = !aloneB T := by
    unfold aloneB
    rw [List.not_all_eq_any_not]
  rw [a3] at a2
  have sg2 : (eLc (iZipX (aCons (eVar 0) (aCons (eVar 2) (aNil)))) (gT 2 (gN1 (gN 6) (gN1 (gN 7) (gN0)))) (tBl (eOp (opEq true) (eVar 7) (eC K_NOUGHT))) (eOp opIx (eVar 6) (eC (.int 1))) [6, 7]) [some (.d (.tup (os.map ogD))), some (.d (.int (n : Nat))), some (.d (.tup (vs.map frD))), some (.d (.lst (T.map frD))), none, none, none, none] S = .ok (.d (.lst ((wordsF (os.zip vs)).map fun w => .str (sgS w)))) S := by
    have := eLc_filterA (g := (gT 2 (gN1 (gN 6) (gN1 (gN 7) (gN0))))) (t := (tBl (eOp (opEq true) (eVar 7) (eC K_NOUGHT)))) (e := (eOp opIx (eVar 6) (eC (.int 1)))) (w := (iZipX (aCons (eVar 0) (aCons (eVar 2) (aNil))))) (vs := [6, 7]) (σ := [some (.d (.tup (os.map ogD))), some (.d (.int (n : Nat))), some (.d (.tup (vs.map frD))), some (.d (.lst (T.map frD))), none, none, none, none]) (S0 := S) (S := S) (xs := os.zip vs)
      (fun x => .tup [ogD x.1, frD x.2]) (fun x => .str (sgS x.1.2)) (fun x => decide (x.2.1 ≠ 0)) (by simp [zip_map]) (by rw [lim_eq, List.length_zip]; omega) (by
      intro x hx acc
      have z := gd0 (zl x hx).2.2
      exact ⟨_, by simp [wipeD]; rfl, by simp [wipeD, ne_nought, z], fun _ => by simp [wipeD, ogD]⟩)
    rw [this]
    unfold wordsF
    rw [List.map_map]
    rfl
  have i1 := fun S => in_words (g := .lt) (neg := false) (ws := wordsF (os.zip vs)) (S := S)
  have i2 := fun S => in_words (g := .le) (neg := true) (ws := wordsF (os.zip vs)) (S := S)
  have la := fun S => last_ixL tn (S := S)
  have le : ∀ ws : List Sg, .lt ∉ ws → (ws.all fun g => decide (g = .eq)) = !decide (.le ∈ ws) := fun ws hw => by
    rw [Bool.eq_iff_iff]
    simp only [List.all_eq_true, decide_eq_true_eq, Bool.not_eq_true', decide_eq_false_iff_not]
    constructor
    · intro q c
      exact absurd (q _ c) (by decide)
    · intro q g hg
      cases g
      · exact absurd hg hw
      · exact absurd hg q
      · rfl
  have le := le (wordsF (os.zip vs))
  have lt2 : ∀ ws : List Sg, .lt ∈ ws → (ws.all fun g => decide (g = .eq)) = false := fun ws hw => by
    rw [List.all_eq_false]
    exact ⟨_, hw, by decide⟩
  have lt2 := lt2 (wordsF (os.zip vs))
  unfold endF
  unfold F_do_bar_by b_do_bar_by
  simp only [K_BELOW, K_AT_MOST] at *
  unfold osD lnD at *
  change ∀ S, opIn false (.d (.str "<")) _ S = _ at i1
  change ∀ S, opIn true (.d (.str "<=")) _ S = _ at i2
  generalize (wordsF (os.zip vs)).map (fun w => D.str (sgS w)) = WD at *
  generalize wordsF (os.zip vs) = W at *
  generalize T.dropLast.map (fun p : Fr => D.bl (!decide (p.1 = 0))) = AD at *
  generalize T.map frD = TD at *
  generalize os.map ogD = OD at *
  generalize vs.map frD = VD at *
  cases q1 : negF (os.zip vs)
  · cases q2 : aloneB T
    · rw [q1] at m
      rw [q2] at a2
      simp [mkFn_eq, m, ad, an, a2]
    · rw [q1] at m
      rw [q2] at a2
      by_cases q3 : .lt ∈ W
      · have l2 := lt2 q3
        rw [decide_eq_true q3] at i1
        rw [l2]
        simp [mkFn_eq, m, ad, an, a2, sg2, i1, la, fr_0, q3]
        by_cases c : 0 < (lastF T).1
        · have : (0 : Int) ≤ (lastF T).1 := by omega
          simp [c, this]
        · by_cases c2 : (lastF T).1 = 0
          · simp [c2]
          · have : ¬ (0 : Int) ≤ (lastF T).1 := by omega
            simp [c, c2, this]
      · have l2 := le q3
        rw [decide_eq_false q3] at i1
        rw [l2]
        by_cases c : 0 < (lastF T).1
        · simp [mkFn_eq, m, ad, an, a2, sg2, i1, i2, la, fr_0, q3, c]
        · by_cases q4 : .le ∈ W
          · rw [decide_eq_true q4] at i2
            simp [mkFn_eq, m, ad, an, a2, sg2, i1, i2, la, fr_0, q3, c, q4]
          · rw [decide_eq_false q4] at i2
            simp [mkFn_eq, m, ad, an, a2, sg2, i1, i2, la, fr_0, q3, c, q4]
  · rw [q1] at m
    simp [mkFn_eq, m]
/-- with one that is none -/
theorem dobarby_no {V B : Nat} {n : Nat} {os : List Og} {zs : List (D × Option Fr)} (h : ∀ z ∈ zs, ItOk V B z) (hl : os.length ≤ 5) (hn : zs.length ≠ os.length ∨ ∃ z ∈ zs, z.2 = none) {S : Store} : F_do_bar_by [.d (osD os), .d (.int (n : Nat)), .d (.tup (zs.map (·.1)))] S = .ok (.d (.bl false)) S := by
  have m := fun S => muls_ok h hl (S := S)
  have mf : (decide (zs.length = os.length) && (os.zip zs).all fun x => mulB x.1 x.2) = false := by
    by_cases q : zs.length = os.length
    · rcases hn with hn | ⟨z, hz, e⟩
      · exact absurd q hn
      · rw [decide_eq_true q, Bool.true_and, List.all_eq_false]
        obtain ⟨i, hi, rfl⟩ := List.getElem_of_mem hz
        refine ⟨(os[i], zs[i]), List.mem_iff_getElem.mpr ⟨i, by rw [List.length_zip]; omega, List.getElem_zip⟩, ?_⟩
        show ¬ mulB os[i] zs[i] = true
        unfold mulB
        rw [e]
        simp
    · rw [decide_eq_false q, Bool.false_and]
  rw [mf] at m
  unfold F_do_bar_by b_do_bar_by
  generalize zs.map (fun x => x.1) = Z at *
  unfold osD at *
  generalize os.map ogD = OD at *
  simp [mkFn_eq, m]
/-- no tuple -/
theorem dobarby_nt {n : Nat} {os : List Og} {d : D} (hd : ∀ (n : Int) (S : Store), F_is_tuple_of [.d d, .d (.int n)] S = .ok (.d (.bl false)) S) {S : Store} : F_do_bar_by [.d (osD os), .d (.int (n : Nat)), .d d] S = .ok (.d (.bl false)) S := by
  have m : ∀ S, F_are_multiples [.d (.tup (os.map ogD)), .d d] S = .ok (.d (.bl false)) S := fun S => by
    unfold F_are_multiples b_are_multiples
    simp [mkFn_eq, hd]
  unfold F_do_bar_by b_do_bar_by
  unfold osD
  generalize os.map ogD = OD at *
  simp [mkFn_eq, m]
end K42
end
section
/-! whether multiples bar: the law's own adding -/
namespace K42
open PySem PySem.Spec PyProof.Rows L2 Y
theorem zip_rng (os : List Og) (vs : List Fr) (h : vs.length = os.length) : os.zip vs = (List.range os.length).map fun k => (os.getD k ([], .le), vs.getD k (0, 1)) := by
  refine List.ext_getElem (by simp [h]) fun i h1 h2 => ?_
  rw [List.length_zip] at h1
  rw [List.getElem_zip, List.getElem_map, List.getElem_range, List.getD_eq_getElem?_getD, List.getD_eq_getElem?_getD, List.getElem?_eq_getElem (by omega), List.getElem?_eq_getElem (by omega)]
  rfl
theorem parts_ok {V B : Nat} {zs : List (D × Option Fr)} (h : ∀ z ∈ zs, ItOk V B z) (hl : zs.length ≤ 1000) {v0 v1 v4 v5 v6 v7 : Option Wt} {S : Store} : (eLc (iVal (eVar 2)) (gN 3) (tYs) (eB F__law_is_part (aCons (eVar 3) (aNil))) [3]) [v0, v1, some (.d (.tup (zs.map (·.1)))), none, v4, v5, v6, v7] S = .ok (.d (.lst (zs.map fun z => .bl z.2.isSome))) S := by
  refine eLc_mapA (fun z : D × Option Fr => z.1) _ (by simp) (by rw [lim_eq]; omega) ?_
  intro z hz acc
  have b := fun S => ((h z hz).both S).2
  exact ⟨_, by simp [wipeD]; rfl, by simp, by simp [wipeD, b]⟩
theorem ix_os {os : List Og} {k : Nat} (hk : k < os.length) {S : Store} : opIx (.d (.lst (os.map wsD))) (.d (.int (k : Nat))) S = .ok (.d (wsD (os.getD k ([], .le)))) S := by
  show optR S (atI (os.map wsD) (k : Int)) = _
  rw [atIn, List.getElem?_map, List.getElem?_eq_getElem hk, getD_in hk]
  rfl
theorem ix_vs {vs : List Fr} {k : Nat} (hk : k < vs.length) {S : Store} : opIx (.d (.tup (vs.map frD))) (.d (.int (k : Nat))) S = .ok (.d (frD (vs.getD k (0, 1)))) S := by
  show optR S (atI (vs.map frD) (k : Int)) = _
  rw [atIn, List.getElem?_map, List.getElem?_eq_getElem hk, List.getD_eq_getElem?_getD, List.getElem?_eq_getElem hk]
  rfl
theorem rng_map {L : Nat} (h : L ≤ 1000) {S : Store} : rg1 [.d (.int (L : Nat))] S = .ok ((List.range L).map fun k => .int ((k : Nat) : Int)) S := by
  rw [rg1_nat (by omega)]
  unfold rng
  simp
theorem negs_ok {os : List Og} {vs : List Fr} (he : vs.length = os.length) (hl : os.length ≤ 5) {v1 v3 v5 v6 v7 : Option Wt} {S : Store} : (eLc (iRng1 (aCons (eB bLen (aCons (eVar 0) (aNil))) (aNil))) (gN 4) (tYs) (eAnd (eOp opLt (eOp opIx (eOp opIx (eVar 2) (eVar 4)) (eC (.int 0))) (eC (.int 0))) (eOp (opEq true) (eOp opIx (eOp opIx (eVar 0) (eVar 4)) (eC (.int 1))) (eC (.str "=")))) [4]) [some (.d (.lst (os.map wsD))), v1, some (.d (.tup (vs.map frD))), v3, none, v5, v6, v7] S
    = .ok (.d (.lst ((os.zip vs).map fun ov => .bl (decide (ov.2.1 < 0) && decide (ov.1.2 ≠ .eq))))) S := by
  rw [zip_rng os vs he, List.map_map]
  refine eLc_mapA (fun k : Nat => .int ((k : Nat) : Int)) _ (by
    have := rng_map (L := os.length) (by omega) (S := S)
    simp [this]) (by rw [lim_eq, List.length_range]; omega) ?_
  intro k hk acc
  have hk := List.mem_range.mp hk
  have i1 := fun S => ix_os hk (S := S)
  have i2 := fun S => ix_vs (vs := vs) (k := k) (by omega) (S := S)
  generalize os.map wsD = OD at *
  generalize vs.map frD = VD at *
  refine ⟨_, by simp [wipeD]; rfl, by simp, ?_⟩
  dsimp only [Function.comp_def]
  generalize os.getD k ([], .le) = O1 at *
  generalize vs.getD k (0, 1) = V1 at *
  by_cases c : V1.1 < 0
  · simp [wipeD, i1, i2, fr_0, c, wsD, str_eqs]
  · simp [wipeD, i1, i2, fr_0, c]
theorem lwords_ok {os : List Og} {vs : List Fr} (he : vs.length = os.length) (hl : os.length ≤ 5) {v1 v3 v4 v5 v6 v7 : Option Wt} {S : Store} : (eLc (iRng1 (aCons (eB bLen (aCons (eVar 0) (aNil))) (aNil))) (gN 4) (tBl (eOp (opEq true) (eOp opIx (eOp opIx (eVar 2) (eVar 4)) (eC (.int 0))) (eC (.int 0)))) (eOp opIx (eOp opIx (eVar 0) (eVar 4)) (eC (.int 1))) [4]) [some (.d (.lst (os.map wsD))), v1, some (.d (.tup (vs.map frD))), v3, v4, v5, v6, v7] S
    = .ok (.d (.lst ((wordsF (os.zip vs)).map fun w => .str (sgS w)))) S := by
  have e : (wordsF (os.zip vs)).map (fun w => D.str (sgS w)) = ((List.range os.length).filter fun k => decide ((vs.getD k (0, 1)).1 ≠ 0)).map fun k => .str (sgS (os.getD k ([], .le)).2) := by
    unfold wordsF
    rw [zip_rng os vs he, List.filter_map, List.map_map, List.map_map]
    rfl
  rw [e]
  refine eLc_filterA (fun k : Nat => .int ((k : Nat) : Int)) _ _ (by
    have := rng_map (L := os.length) (by omega) (S := S)
    simp [this]) (by rw [lim_eq, List.length_range]; omega) ?_
  intro k hk acc
  have hk := List.mem_range.mp hk
  have i1 := fun S => ix_os hk (S := S)
  have i2 := fun S => ix_vs (vs := vs) (k := k) (by omega) (S := S)
  generalize os.map wsD = OD at *
  generalize vs.map frD = VD at *
  exact ⟨_, by simp [wipeD]; rfl, by simp [wipeD, i1, i2, fr_0], fun _ => by simp [wipeD, i1, i2, wsD]⟩
theorem ladd_loop {n : Nat} (hn : n ≤ 3) {os : List Og} {vs : List Fr} (h : ∀ o ∈ os, Og1 n o) (hv : ∀ v ∈ vs, Sz 80 130 v) (he : vs.length = os.length) (hl : os.length ≤ 5) {v1 v3 v6 v7 : Option Wt} {b0 : Nat} {S : Store} : ∀ (m j : Nat) (acc : List Fr) (v4 : Option Wt), j + m = os.length → acc.length = n + 1 → (∀ p ∈ acc, Sz (85 + j) (130 * j) p) →
    ∃ v4', forN (gN 4) (sSet 5 (eB F__law_line_plus (aCons (eVar 5) (aCons (eOp opIx (eOp opIx (eVar 0) (eVar 4)) (eC (.int 0))) (aCons (eOp opIx (eVar 2) (eVar 4)) (aNil)))))) ((List.range' j m).map fun k => .int ((k : Nat) : Int)) b0 [some (.d (.lst (os.map wsD))), v1, some (.d (.tup (vs.map frD))), v3, v4, some (.d (lnD acc)), v6, v7] S
      = .nx [some (.d (.lst (os.map wsD))), v1, some (.d (.tup (vs.map frD))), v3, v4', some (.d (lnD (sumF acc ((List.range' j m).map fun k => (os.getD k ([], .le), vs.getD k (0, 1)))))), v6, v7] S
  | 0, j, acc, v4, _, _, _ => ⟨v4, rfl⟩
  | m + 1, j, acc, v4, hj, ha, hz => by
    have hk : j < os.length := by omega
    have i1 := fun S => ix_os hk (S := S)
    have i2 := fun S => ix_vs (vs := vs) (k := j) (by omega) (S := S)
    have ho : Og1 n (os.getD j ([], .le)) := by rw [getD_in hk]; exact h _ (List.getElem_mem hk)
    have hv1 : Sz 80 130 (vs.getD j (0, 1)) := by
      rw [List.getD_eq_getElem?_getD, List.getElem?_eq_getElem (by omega)]
      exact hv _ (List.getElem_mem _)
    have e := fun S => lineplus_ok hv1 hz (line_sz ho) (by omega) (by omega) (S := S)
    obtain ⟨q4, e2⟩ := ladd_loop hn h hv he hl (v1 := v1) (v3 := v3) (v6 := v6) (v7 := v7) (b0 := b0) (S := S) m (j + 1) (lpF acc (lineOf (os.getD j ([], .le)).1) (vs.getD j (0, 1))) (some (.d (.int (j : Nat)))) (by omega) (by rw [lp_len (by rw [ha]; simp only [lineOf, List.length_map, ho.l]), ha]) (acc_sz ho hv1 hz)
    refine ⟨q4, ?_⟩
    rw [List.range'_succ, List.map_cons, List.map_cons]
    rw [show ∀ x l, sumF acc (x :: l) = sumF (lpF acc (lineOf x.1.1) x.2) l from fun _ _ => rfl, ← e2]
    generalize os.map wsD = OD at *
    generalize vs.map frD = VD at *
    generalize lnD (lpF acc (lineOf (os.getD j ([], .le)).1) (vs.getD j (0, 1))) = X at *
    generalize lnD acc = AD at *
    generalize os.getD j ([], .le) = O1 at *
    generalize vs.getD j (0, 1) = V1 at *
    simp [forN, i1, i2, e, wsD]
theorem eq_words {ws : List Sg} {S : Store} : opEq false (.d (.lst (ws.map fun w => .str (sgS w)))) (.d (.lst (List.replicate ws.length [D.str "="]).flatten)) S = .ok (.d (.bl (ws.all fun g => decide (g = .eq)))) S := by
  have e : (List.replicate ws.length [D.str "="]).flatten = (List.replicate ws.length Sg.eq).map fun w => .str (sgS w) := by
    rw [List.map_replicate]
    generalize ws.length = m
    induction m with
    | zero => rfl
    | succ m ih => rw [List.replicate_succ, List.flatten_cons, ih]; rfl
  have p : ∀ ws : List Sg, pl 1 (.lst (ws.map fun w => .str (sgS w))) = true := fun ws => by
    show (ws.map fun w => D.str (sgS w)).all (pl 0) = true
    rw [List.all_map]
    exact List.all_eq_true.mpr fun w _ => sgS_ok w
  rw [e]
  refine eq_of (pl_eqOk (p _) (p _) (by decide)) ?_
  rw [deq_lst (p _) (p _)]
  rw [dqs_map (c := fun w => D.str (sgS w)) (fun a b => by rw [deq_str]; simp only [sgS_inj])]
  induction ws with
  | nil => rfl
  | cons w ws ih =>
    rw [List.length_cons, List.replicate_succ, List.all_cons, ← ih (by
      rw [List.map_replicate]
      generalize ws.length = m
      induction m with
      | zero => rfl
      | succ m ih => rw [List.replicate_succ, List.flatten_cons, ih]; rfl)]
    simp
theorem ldobar_ok {n : Nat} (hn : n ≤ 3) {os : List Og} {vs : List Fr} (h : ∀ o ∈ os, Og1 n o) (hg : ∀ v ∈ vs, Gd v) (hv : ∀ v ∈ vs, Sz 80 130 v) (hl : os.length ≤ 5) (he : vs.length = os.length) {S : Store} : F__law_do_bar [.d (.lst (os.map wsD)), .d (.int (n : Nat)), .d (lnD vs)] S = .ok (.d (.bl (barV n os vs))) S := by
  have pa := fun v0 v1 v4 v5 v6 v7 => parts_ok (V := 80) (B := 130) (zs := vs.map okV) (by
    intro z hz
    obtain ⟨p, hp, rfl⟩ := List.mem_map.mp hz
    exact ⟨both_gd (hg p hp) (hv p hp) (by omega), fun q hq => by cases hq; exact ⟨rfl, hg p hp, hv p hp⟩⟩) (by rw [List.length_map]; omega) (v0 := v0) (v1 := v1) (v4 := v4) (v5 := v5) (v6 := v6) (v7 := v7) (S := S)
  have m1 : (fun x : D × Option Fr => x.1) ∘ okV = frD := rfl
  have m2 : (vs.map okV).map (fun z => D.bl z.2.isSome) = vs.map fun _ => D.bl true := by rw [List.map_map]; rfl
  simp only [List.map_map, m1] at pa
  rw [← List.map_map, m2] at pa
  have a1 := fun S => all_map (l := vs) (q := fun _ => true) (S := S)
  have a2 : (vs.all fun _ => true) = true := by simp
  rw [a2] at a1
  have ng := fun v1 v3 v5 v6 v7 => negs_ok he hl (v1 := v1) (v3 := v3) (v5 := v5) (v6 := v6) (v7 := v7) (S := S)
  have ng2 := fun S => any_map_ok (l := os.zip vs) (q := fun ov => decide (ov.2.1 < 0) && decide (ov.1.2 ≠ .eq)) (S := S)
  have ng3 : ((os.zip vs).any fun ov => decide (ov.2.1 < 0) && decide (ov.1.2 ≠ .eq)) = negF (os.zip vs) := rfl
  rw [ng3] at ng2
  obtain ⟨q4, lp⟩ := ladd_loop hn h hv he hl (v1 := some (.d (.int (n : Nat)))) (v3 := none) (v6 := none) (v7 := none) (b0 := S.length) (S := S) os.length 0 (List.replicate (n + 1) (0, 1)) none (by omega) (by simp) sz_nought
  rw [← List.range_eq_range', ← zip_rng os vs he] at lp
  have mt : ∀ S, opMulT (.d (.tup [.tup [.int 0, .int 1]])) (.d (.int ((n : Int) + 1))) S = .ok (.d (lnD (List.replicate (n + 1) (0, 1)))) S := fun S => by
    rw [mulT_tup (by simp) (by simp) (by omega) (by omega)]
    have : ((n : Int) + 1).toNat = n + 1 := by omega
    rw [this]
    unfold lnD
    rw [List.map_replicate]
    congr 3
    generalize n + 1 = m
    induction m with
    | zero => rfl
    | succ m ih => rw [List.replicate_succ, List.flatten_cons, ih]; rfl
  have zl : ∀ x ∈ os.zip vs, Og1 n x.1 ∧ Sz 80 130 x.2 ∧ Gd x.2 := fun x hx => by
    obtain ⟨m1, m2⟩ := List.of_mem_zip hx
    exact ⟨h _ m1, hv _ m2, hg _ m2⟩
  have sl := sum_len (os.zip vs) (List.replicate (n + 1) ((0, 1) : Fr)) (by simp) (fun x hx => (zl x hx).1)
  unfold barV
  generalize sumF (List.replicate (n + 1) ((0, 1) : Fr)) (os.zip vs) = T at *
  have tn : T ≠ [] := fun c => by rw [c] at sl; simp at sl
  have al := fun S => alone_ok (l := T) (by omega) (S := S)
  have la := fun S => last_ix tn (S := S)
  have sg := fun S => sign_ok (p := lastF T) (S := S)
  have wd := fun v1 v3 v4 v5 v6 v7 => lwords_ok he hl (v1 := v1) (v3 := v3) (v4 := v4) (v5 := v5) (v6 := v6) (v7 := v7) (S := S)
  have ew := fun S => eq_words (ws := wordsF (os.zip vs)) (S := S)
  have iw := fun S => in_words (g := .lt) (neg := false) (ws := wordsF (os.zip vs)) (S := S)
  change ∀ S, opIn false (.d (.str "<")) _ S = _ at iw
  have wl : (wordsF (os.zip vs)).length ≤ 5 := by
    unfold wordsF
    rw [List.length_map]
    have := List.length_filter_le (fun ov : Og × Fr => decide (ov.2.1 ≠ 0)) (os.zip vs)
    rw [List.length_zip] at this
    omega
  have wl2 : ((wordsF (os.zip vs)).map fun w => D.str (sgS w)).length = (wordsF (os.zip vs)).length := List.length_map ..
  have rg := fun S => rng_map (L := os.length) (by omega) (S := S)
  have lo : (os.map wsD).length = os.length := List.length_map ..
  have lv : (vs.map frD).length = os.length := by rw [List.length_map]; exact he
  unfold endF
  unfold F__law_do_bar b__law_do_bar
  rw [show lnD vs = .tup (vs.map frD) from rfl]
  generalize (wordsF (os.zip vs)).map (fun w => D.str (sgS w)) = WD at *
  generalize wordsF (os.zip vs) = W at *
  generalize (os.zip vs).map (fun ov => D.bl (decide (ov.2.1 < 0) && decide (ov.1.2 ≠ .eq))) = ND at *
  generalize (vs.map fun _ => D.bl true) = PD at *
  generalize (List.range os.length).map (fun k => D.int ((k : Nat) : Int)) = RD at *
  generalize lnD (List.replicate (n + 1) (0, 1)) = ZD at *
  generalize lnD T = TD at *
  generalize os.map wsD = OD at *
  generalize vs.map frD = VD at *
  have mr : ∀ S, opMulT (.d (.lst [.str "="])) (.d (.int (W.length : Nat))) S = .ok (.d (.lst (List.replicate W.length [D.str "="]).flatten)) S := fun S => by
    rw [mulT_lst, if_pos ⟨by omega, by omega, by rw [lim_eq]; simp; omega⟩]
    simp
  generalize (List.replicate W.length [D.str "="]).flatten = ED at *
  cases q1 : negF (os.zip vs)
  · rw [q1] at ng2
    cases q2 : aloneB T
    · rw [q2] at al
      simp [mkFn_eq, lo, lv, pa, a1, ng, ng2, mt, rg, lp, al]
    · rw [q2] at al
      by_cases c1 : (lastF T).1 > 0
      · have c2 : ¬ (lastF T).1 < 0 := by omega
        simp [mkFn_eq, lo, lv, pa, a1, ng, ng2, mt, rg, lp, al, wd, la, sg, c1, c2, b2i]
      · by_cases c2 : (lastF T).1 < 0
        · have c3 : ¬ (lastF T).1 = 0 := by omega
          simp [mkFn_eq, lo, lv, pa, a1, ng, ng2, mt, rg, lp, al, wd, la, sg, c1, c2, c3, b2i, wl2, mr, ew]
        · have c3 : (lastF T).1 = 0 := by omega
          by_cases q3 : .lt ∈ W
          · rw [decide_eq_true q3] at iw
            simp [mkFn_eq, lo, lv, pa, a1, ng, ng2, mt, rg, lp, al, wd, la, sg, c3, b2i, wl2, mr, ew, iw, q3]
          · rw [decide_eq_false q3] at iw
            simp [mkFn_eq, lo, lv, pa, a1, ng, ng2, mt, rg, lp, al, wd, la, sg, c3, b2i, wl2, mr, ew, iw, q3]
  · rw [q1] at ng2
    simp [mkFn_eq, lo, lv, pa, a1, ng, ng2]
theorem ldobar_no {V B : Nat} {n : Nat} {os : List Og} {zs : List (D × Option Fr)} (h : ∀ z ∈ zs, ItOk V B z) (hz : zs.length ≤ 1000) (hn : zs.length ≠ os.length ∨ ∃ z ∈ zs, z.2 = none) {S : Store} : F__law_do_bar [.d (.lst (os.map wsD)), .d (.int (n : Nat)), .d (.tup (zs.map (·.1)))] S = .ok (.d (.bl false)) S := by
  have pa := fun v0 v1 v4 v5 v6 v7 => parts_ok h hz (v0 := v0) (v1 := v1) (v4 := v4) (v5 := v5) (v6 := v6) (v7 := v7) (S := S)
  have a1 := fun S => all_map (l := zs) (q := fun z => z.2.isSome) (S := S)
  have lo : (os.map wsD).length = os.length := List.length_map ..
  have lz : (zs.map (·.1)).length = zs.length := List.length_map ..
  unfold F__law_do_bar b__law_do_bar
  by_cases q : zs.length = os.length
  · rcases hn with hn | ⟨z, hz, e⟩
    · exact absurd q hn
    · have a2 : (zs.all fun z => z.2.isSome) = false := by
        rw [List.all_eq_false]
        exact ⟨z, hz, by rw [e]; simp⟩
      rw [a2] at a1
      generalize zs.map (fun z => D.bl z.2.isSome) = ZB at *
      generalize zs.map (fun x => x.1) = Z at *
      generalize os.map wsD = OD at *
      simp [mkFn_eq, lo, lz, q, pa, a1]
  · have q' : ¬ ((zs.length : Nat) : Int) = ((os.length : Nat) : Int) := by omega
    generalize zs.map (fun x => x.1) = Z at *
    generalize os.map wsD = OD at *
    simp [mkFn_eq, lo, lz, q']
theorem ldobar_non {n : Nat} {os : List Og} {S : Store} : F__law_do_bar [.d (.lst (os.map wsD)), .d (.int (n : Nat)), .d .non] S = .ok (.d (.bl false)) S := by
  unfold F__law_do_bar b__law_do_bar
  generalize os.map wsD = OD at *
  simp [mkFn_eq]
theorem ldobar_lst {n : Nat} {os : List Og} {l : List D} {S : Store} : F__law_do_bar [.d (.lst (os.map wsD)), .d (.int (n : Nat)), .d (.lst l)] S = .ok (.d (.bl false)) S := by
  unfold F__law_do_bar b__law_do_bar
  generalize os.map wsD = OD at *
  simp [mkFn_eq]
end K42
end
section
/-! values near multiples -/
namespace K42
open PySem PySem.Spec PyProof.Rows L2 Y
theorem dobar_of {n : Nat} (hn : n ≤ 3) {os : List Og} (h : ∀ o ∈ os, Og1 n o) (hl : os.length ≤ 5) {d : D} {b : Bool} (e : ∀ S, F_do_bar_by [.d (osD os), .d (.int (n : Nat)), .d d] S = .ok (.d (.bl b)) S) {S : Store} : F_do_bar [.d (osD os), .d (.int (n : Nat)), .d d] S = .ok (.d (.bl b)) S := by
  have r := fun S => rows_ok h hl hn (S := S)
  unfold F_do_bar b_do_bar
  generalize osD os = OD at *
  simp [mkFn_eq, r, e]
/-- both tell the same of a value -/
def Same (n : Nat) (os : List Og) (d : D) : Prop := ∃ b, (∀ S, F_do_bar [.d (osD os), .d (.int (n : Nat)), .d d] S = .ok (.d (.bl b)) S) ∧ ∀ S, F__law_do_bar [.d (.lst (os.map wsD)), .d (.int (n : Nat)), .d d] S = .ok (.d (.bl b)) S
section
variable {n : Nat} {os : List Og}
theorem all_some {V B : Nat} : ∀ {zs : List (D × Option Fr)}, (∀ z ∈ zs, ItOk V B z) → (¬ ∃ z ∈ zs, z.2 = none) → ∃ vs : List Fr, zs = vs.map okV ∧ (∀ v ∈ vs, Gd v) ∧ ∀ v ∈ vs, Sz V B v
  | [], _, _ => ⟨[], rfl, fun v h => absurd h List.not_mem_nil, fun v h => absurd h List.not_mem_nil⟩
  | z :: zs, h, hn => by
    obtain ⟨vs, e, g, s⟩ := all_some (zs := zs) (fun x hx => h x (List.mem_cons_of_mem _ hx)) (fun ⟨x, hx, e⟩ => hn ⟨x, List.mem_cons_of_mem _ hx, e⟩)
    have hz := h z (List.mem_cons_self ..)
    cases q : z.2 with
    | none => exact absurd ⟨z, List.mem_cons_self .., q⟩ hn
    | some p =>
      obtain ⟨e1, g1, s1⟩ := hz.fr p q
      refine ⟨p :: vs, ?_, fun v hv => ?_, fun v hv => ?_⟩
      · rw [List.map_cons, ← e]
        obtain ⟨a, b⟩ := z
        have e1 : a = frD p := e1
        have q : b = some p := q
        subst e1 q
        rfl
      · rcases List.mem_cons.mp hv with rfl | hv
        · exact g1
        · exact g v hv
      · rcases List.mem_cons.mp hv with rfl | hv
        · exact s1
        · exact s v hv
theorem same_it (hn : n ≤ 3) (h : ∀ o ∈ os, Og1 n o) (hl : os.length ≤ 5) {zs : List (D × Option Fr)} (hz : ∀ z ∈ zs, ItOk 80 130 z) (hzl : zs.length ≤ 1000) : Same n os (.tup (zs.map (·.1))) := by
  by_cases q : zs.length ≠ os.length ∨ ∃ z ∈ zs, z.2 = none
  · exact ⟨false, fun S => dobar_of hn h hl (fun S => dobarby_no hz hl q), fun S => ldobar_no hz hzl q⟩
  · have q1 : zs.length = os.length := by
      by_cases c : zs.length = os.length
      · exact c
      · exact absurd (.inl c) q
    obtain ⟨vs, rfl, g, s⟩ := all_some hz fun c => q (.inr c)
    have e : (vs.map okV).map (·.1) = vs.map frD := by rw [List.map_map]; rfl
    rw [List.length_map] at q1
    rw [e]
    exact ⟨barV n os vs, fun S => dobar_of hn h hl (fun S => dobarby_ok hn h g s hl q1), fun S => ldobar_ok hn h g s hl q1⟩
theorem it_fr {V B : Nat} {p : Fr} (g : Gd p) (s : Sz V B p) (hV : V ≤ 80) (hB : B ≤ 130) : ItOk 80 130 (okV p) := ⟨both_gd g s (by omega), fun q hq => by cases hq; exact ⟨rfl, g, s.mono hV hB⟩⟩
theorem it_no {d : D} (h : Both d false) : ItOk 80 130 (d, none) := ⟨h, fun p hp => nomatch hp⟩
theorem same_ln (hn : n ≤ 3) (h : ∀ o ∈ os, Og1 n o) (hl : os.length ≤ 5) {vs : List Fr} (g : ∀ v ∈ vs, Gd v) (s : ∀ v ∈ vs, Sz 80 130 v) (hv : vs.length ≤ 1000) : Same n os (lnD vs) := by
  have := same_it hn h hl (zs := vs.map okV) (fun z hz => by
    obtain ⟨p, hp, rfl⟩ := List.mem_map.mp hz
    exact it_fr (g p hp) (s p hp) (by omega) (by omega)) (by rw [List.length_map]; exact hv)
  have e : (vs.map okV).map (·.1) = vs.map frD := by rw [List.map_map]; rfl
  rw [e] at this
  exact this
theorem same_non (hn : n ≤ 3) (h : ∀ o ∈ os, Og1 n o) (hl : os.length ≤ 5) : Same n os .non := ⟨false, fun S => dobar_of hn h hl (fun S => dobarby_nt fun _ _ => tof_non), fun S => ldobar_non⟩
theorem same_lst (hn : n ≤ 3) (h : ∀ o ∈ os, Og1 n o) (hl : os.length ≤ 5) {l : List D} : Same n os (.lst l) := ⟨false, fun S => dobar_of hn h hl (fun S => dobarby_nt fun _ _ => tof_lst), fun S => ldobar_lst⟩
end
theorem whole_tup {i : List D} {S : Store} : F_is_whole [.d (.tup i)] S = .ok (.d (.bl false)) S := by
  unfold F_is_whole b_is_whole
  simp [mkFn_eq]
theorem lwhole_tup {i : List D} {S : Store} : F__law_whole [.d (.tup i)] S = .ok (.d (.bl false)) S := by
  unfold F__law_whole b__law_whole
  simp [mkFn_eq]
theorem both_ln (t : List Fr) : Both (lnD t) false := by
  by_cases h : t.length = 2
  · match t, h with
    | [a, b], _ =>
      intro S
      have t := fun S => tuple_of (l := [frD a, frD b]) (n := 2) (S := S)
      have w := fun S => whole_tup (i := [.int a.1, .int a.2]) (S := S)
      have w2 := fun S => lwhole_tup (i := [.int a.1, .int a.2]) (S := S)
      constructor
      · unfold F_is_fraction_by b_is_fraction_by
        simp only [lnD, List.map_cons, List.map_nil, frD] at *
        simp [mkFn_eq, t, w]
      · unfold F__law_is_part b__law_is_part
        simp only [lnD, List.map_cons, List.map_nil, frD] at *
        simp [mkFn_eq, w2]
  · exact both_len (by rw [List.length_map]; exact h)
theorem both_twice {V B : Nat} {p : Fr} (g : Gd p) (s : Sz V B p) (hB : B ≤ 2000) : Both (.tup [.int (2 * p.1), .int (2 * p.2)]) false := by
  have h0 := g.pos
  have h2 : (2 * p.2).natAbs ≤ 2 ^ (B + 1) := by
    rw [Nat.pow_succ, Int.natAbs_mul]
    have := s.den
    show 2 * _ ≤ _
    omega
  have := both_fr (p := (2 * p.1, 2 * p.2)) (k := B + 1) (show 0 < 2 * p.2 by omega) h2 (by omega)
  have e : ¬ Nat.gcd (2 * p.1).natAbs (2 * p.2).natAbs = 1 := by
    rw [Int.natAbs_mul, Int.natAbs_mul, Nat.gcd_mul_left]
    show ¬ 2 * _ = 1
    omega
  rw [decide_eq_false e] at this
  exact this
/-- a drawn one -/
def drV (p : Fr) : D × Option Fr := (frD p, if Nat.gcd p.1.natAbs p.2.natAbs = 1 then some p else none)
theorem it_dr {p : Fr} (h1 : p.1.natAbs ≤ 10) (h2 : 0 < p.2) (h3 : p.2 ≤ 2) : ItOk 80 130 (drV p) := by
  have b := both_fr (p := p) (k := 2) h2 (by omega) (by omega)
  unfold drV
  by_cases e : Nat.gcd p.1.natAbs p.2.natAbs = 1
  · rw [decide_eq_true e] at b
    rw [if_pos e]
    refine ⟨b, fun q hq => ?_⟩
    cases hq
    refine ⟨rfl, ⟨h2, e⟩, h2, ?_, ?_⟩
    · have : 2 ^ 4 ≤ 2 ^ 80 := Nat.pow_le_pow_right (by decide) (by decide)
      have : 2 ^ 80 * 1 ≤ 2 ^ 80 * p.2.natAbs := Nat.mul_le_mul_left _ (by omega)
      omega
    · have : 2 ^ 1 ≤ 2 ^ 130 := Nat.pow_le_pow_right (by decide) (by decide)
      omega
  · rw [decide_eq_false e] at b
    rw [if_neg e]
    exact ⟨b, fun q hq => nomatch hq⟩
theorem gd_ng {p : Fr} (g : Gd p) : Gd (ngF p) := ⟨g.pos, by show Nat.gcd (0 - p.1 : Int).natAbs _ = 1; rw [show (0 - p.1 : Int).natAbs = p.1.natAbs by omega]; exact g.red⟩
theorem sz_32 : Sz 1 1 (3, 2) := ⟨by decide, by decide, by decide⟩
theorem sz_11 : Sz 0 0 (1, 1) := ⟨by decide, by decide, by decide⟩
theorem sz_m12 : Sz 0 1 (-1, 2) := ⟨by decide, by decide, by decide⟩
theorem sz_01 {V B : Nat} : Sz V B (0, 1) := (show Sz 0 0 (0, 1) from ⟨by decide, by decide, by decide⟩).mono (by omega) (by omega)
theorem catL_loc {S : Store} {N : Nat} {l l' : List D} (e : S[N]? = some (.lst l)) (h : l.length + l'.length ≤ 10000000) : opCatL (.loc N) (.d (.lst l')) S = .ok (.loc S.length) (S ++ [.lst (l ++ l')]) := by
  simp [opCatL, deref, e, cellD, h]
theorem add_loc {S : Store} {N : Nat} {l l' : List D} (e : S[N]? = some (.lst l)) (h : l.length + l'.length ≤ 10000000) : opAdd (.loc N) (.d (.lst l')) S = .ok (.d (.lst (l ++ l'))) S := by
  simp [opAdd, deref, e, cellD, h]
section
variable {v0 v2 v3 v4 v5 v6 v7 : Option Wt} {S : Store}
theorem near_1 {t : List Fr} (hl : t.length ≤ 1000) (s : ∀ p ∈ t, Sz 72 123 p) : (eLc (iVal (eVar 1)) (gN 3) (tYs) (eB F__law_times (aCons (eTup (aCons (eC (.int 3)) (aCons (eC (.int 2)) (aNil)))) (aCons (eVar 3) (aNil)))) [3]) [v0, some (.d (lnD t)), v2, none, v4, v5, v6, v7] S = .ok (.d (.lst ((t.map (tmF (3, 2))).map frD))) S := by
  rw [List.map_map]
  refine eLc_mapA frD _ (by simp [lnD]) (by rw [lim_eq]; omega) ?_
  intro p hp acc
  have tm := fun S => ltimes_ok sz_32 (s p hp) (by omega) (S := S)
  rw [show frD (3, 2) = .tup [.int 3, .int 2] from rfl] at tm
  exact ⟨_, by simp [wipeD]; rfl, by simp, by simp [wipeD, tm]⟩
theorem near_2 {t : List Fr} (hl : t.length ≤ 1000) : (eLc (iVal (eVar 1)) (gN 3) (tYs) (eTup (aCons (eOp opSubB (eC (.int 0)) (eOp opIx (eVar 3) (eC (.int 0)))) (aCons (eOp opIx (eVar 3) (eC (.int 1))) (aNil)))) [3]) [v0, some (.d (lnD t)), v2, none, v4, v5, v6, v7] S = .ok (.d (.lst ((t.map ngF).map frD))) S := by
  rw [List.map_map]
  refine eLc_mapA frD _ (by simp [lnD]) (by rw [lim_eq]; omega) ?_
  intro p hp acc
  refine ⟨_, by simp [wipeD]; rfl, by simp, ?_⟩
  have : (frD ∘ ngF) p = .tup [.int (0 - p.1), .int p.2] := rfl
  rw [this, Int.zero_sub]
  simp [wipeD, fr_0, fr_1]
end
end K42
end
section
/-! values near multiples, drawn -/
namespace K42
open PySem PySem.Spec PyProof.Rows L2 Y
/-- one put in the place of another -/
def putD (t : List Fr) (k : Nat) (d : D) : D := .tup ((t.take k).map frD ++ [d] ++ (t.drop (k + 1)).map frD)
theorem put_loop {t : List Fr} {k : Nat} (ht : t.length ≤ 5) {v0 v3 v5 v6 : Option Wt} {b0 : Nat} {S : Store} {c1 : Cell} : ∀ (ds F : List D) (v7 : Option Wt), F.length + ds.length ≤ 1000 →
    ∃ v7', forN (gN 7) (sExpr (eM isLst mApp (eVar 2) (aCons (eOp opAdd (eOp opAdd (eSl opSl (eVar 1) (oNone) (oSome (eVar 4))) (eTup (aCons (eVar 7) (aNil)))) (eSl opSl (eVar 1) (oSome (eOp opAdd (eVar 4) (eC (.int 1)))) (oNone))) aNil))) ds b0 [v0, some (.d (lnD t)), some (.loc (S.length + 1)), v3, some (.d (.int (k : Nat))), v5, v6, v7] (S ++ [c1, .lst F])
      = .nx [v0, some (.d (lnD t)), some (.loc (S.length + 1)), v3, some (.d (.int (k : Nat))), v5, v6, v7'] (S ++ [c1, .lst (F ++ ds.map (putD t k))])
  | [], F, v7, _ => ⟨v7, by simp [forN]⟩
  | d :: ds, F, v7, hl => by
    rw [List.length_cons] at hl
    obtain ⟨q7, e⟩ := put_loop ht (v0 := v0) (v3 := v3) (v5 := v5) (v6 := v6) (b0 := b0) (S := S) (c1 := c1) (k := k) ds (F ++ [putD t k d]) (some (.d d)) (by rw [List.length_append, List.length_singleton]; omega)
    refine ⟨q7, ?_⟩
    have ec : (S ++ [c1, Cell.lst F])[S.length + 1]? = some (.lst F) := by
      rw [List.getElem?_append_right (by omega)]
      simp
    have cs : ∀ c, (S ++ [c1, Cell.lst F]).set (S.length + 1) c = S ++ [c1, c] := fun c => by
      rw [List.set_append_right _ _ (by omega)]
      simp
    have ap := fun d => app_loc (d := d) ec (by rw [lim_eq]; omega)
    simp only [cs] at ap
    have il := isLst_loc ec
    have k1 : ((k : Nat) : Int) + 1 = ((k + 1 : Nat) : Int) := by omega
    have c1' : ∀ S, opSl (.d (lnD t)) none (some ((k : Nat) : Int)) S = .ok (.d (.tup ((t.take k).map frD))) S := fun S => by
      show Res.ok (Wt.d (D.tup (Y.cutD (t.map frD) none (some ((k : Nat) : Int))))) S = _
      rw [cut_to, List.map_take]
    have c2' : ∀ S, opSl (.d (lnD t)) (some (((k : Nat) : Int) + 1)) none S = .ok (.d (.tup ((t.drop (k + 1)).map frD))) S := fun S => by
      rw [k1]
      show Res.ok (Wt.d (D.tup (Y.cutD (t.map frD) (some ((k + 1 : Nat) : Int)) none))) S = _
      rw [cut_from, List.map_drop]
    have l1 : ((t.take k).map frD).length ≤ 5 := by rw [List.length_map, List.length_take]; omega
    have l2 : ((t.drop (k + 1)).map frD).length ≤ 5 := by rw [List.length_map, List.length_drop]; omega
    have pd : putD t k d = .tup ((t.take k).map frD ++ [d] ++ (t.drop (k + 1)).map frD) := rfl
    have fin : F ++ (d :: ds).map (putD t k) = F ++ [putD t k d] ++ ds.map (putD t k) := by simp
    rw [fin, ← e, pd]
    generalize (t.take k).map frD = T1 at *
    generalize (t.drop (k + 1)).map frD = T2 at *
    generalize lnD t = TD at *
    have l3 : T1.length + 1 ≤ 10000000 := by omega
    have l4 : T1.length + 1 + T2.length ≤ 10000000 := by omega
    have l5 : T1.length ≤ 9999999 := by omega
    have l6 : T1.length + (T2.length + 1) ≤ 10000000 := by omega
    simp [forN, il, c1', c2', ap, l3, l4, l5, l6]
theorem add_assoc2 {S : Store} {a b : Cell} : S ++ [a] ++ [b] = S ++ [a, b] := by simp
theorem near_s1 {nn : Nat} {t : List Fr} (ht : t.length ≤ 5) (s : ∀ p ∈ t, Sz 72 123 p) {b0 : Nat} {S : Store} :
    (sSet 2 (eLstL (aCons (eVar 1) (aCons (eB bTuple (aCons (eLc (iVal (eVar 1)) (gN 3) (tYs) (eB F__law_times (aCons (eTup (aCons (eC (.int 3)) (aCons (eC (.int 2)) (aNil)))) (aCons (eVar 3) (aNil)))) [3]) (aNil))) (aCons (eB bTuple (aCons (eLc (iVal (eVar 1)) (gN 3) (tYs) (eTup (aCons (eOp opSubB (eC (.int 0)) (eOp opIx (eVar 3) (eC (.int 0)))) (aCons (eOp opIx (eVar 3) (eC (.int 1))) (aNil)))) [3]) (aNil))) (aCons (eB bList (aCons (eVar 1) (aNil))) (aCons (eRev (eVar 1)) (aCons (eOp opAdd (eVar 1) (eTup (aCons (eTup (aCons (eC (.int 0)) (aCons (eC (.int 1)) (aNil)))) (aNil)))) (aNil))))))))) b0 [some (.loc nn), some (.d (lnD t)), none, none, none, none, none, none] S
      = .nx [some (.loc nn), some (.d (lnD t)), some (.loc S.length), none, none, none, none, none] (S ++ [.lst [lnD t, lnD (t.map (tmF (3, 2))), lnD (t.map ngF), .lst (t.map frD), lnD t.reverse, lnD (t ++ [(0, 1)])]]) := by
  have e1 := near_1 (v0 := some (.loc nn)) (v2 := none) (v4 := none) (v5 := none) (v6 := none) (v7 := none) (S := S) (t := t) (by omega) s
  have e2 := near_2 (v0 := some (.loc nn)) (v2 := none) (v4 := none) (v5 := none) (v6 := none) (v7 := none) (S := S) (t := t) (by omega)
  have l : (t.map frD).length ≤ 5 := by rw [List.length_map]; exact ht
  have e3 : ∀ S, bList [.d (lnD t)] S = .ok (.d (.lst (t.map frD))) S := fun S => rfl
  have e4 : ∀ S, opRev (.d (lnD t)) S = .ok (.d (lnD t.reverse)) S := fun S => by
    show Res.ok (Wt.d (D.tup (t.map frD).reverse)) S = _
    rw [← List.map_reverse]
    rfl
  have e5 : ∀ S, opAdd (.d (lnD t)) (.d (.tup [.tup [.int 0, .int 1]])) S = .ok (.d (lnD (t ++ [(0, 1)]))) S := fun S => by
    unfold lnD
    rw [add_tup, if_pos (by rw [lim_eq]; simp; omega), List.map_append]
    rfl
  rw [show lnD (t.map (tmF (3, 2))) = .tup ((t.map (tmF (3, 2))).map frD) from rfl, show lnD (t.map ngF) = .tup ((t.map ngF).map frD) from rfl]
  generalize (t.map (tmF (3, 2))).map frD = X1 at *
  generalize (t.map ngF).map frD = X2 at *
  generalize t.map frD = X3 at *
  generalize lnD (t ++ [(0, 1)]) = X4 at *
  generalize lnD t.reverse = X5 at *
  generalize lnD t = X6 at *
  simp [e1, e2, e3, eRev_ap, e4, e5]
theorem near_s2 {nn : Nat} {t : List Fr} (h0 : t ≠ []) (ht : t.length ≤ 5) {b0 : Nat} {S : Store} {A : List D} (hA : A.length ≤ 100) :
    (sSet 2 (eOp opCatL (eVar 2) (eLst (aCons (eSl opSl (eVar 1) (oSome (eC (.int 1))) (oNone)) (aCons (eOp opMulT (eTup (aCons (eTup (aCons (eC (.int 0)) (aCons (eC (.int 1)) (aNil)))) (aNil))) (eB bLen (aCons (eVar 1) (aNil)))) (aCons (eC .non) (aCons (eTup (aNil)) (aCons (eTup (aCons (eVar 1) (aNil))) (aNil))))))))) b0 [some (.loc nn), some (.d (lnD t)), some (.loc S.length), none, none, none, none, none] (S ++ [.lst A])
      = .nx [some (.loc nn), some (.d (lnD t)), some (.loc (S.length + 1)), none, none, none, none, none] (S ++ [.lst A, .lst (A ++ [lnD (t.drop 1), lnD (List.replicate t.length (0, 1)), .non, lnD [], .tup [lnD t]])]) := by
  have e1 : ∀ S, opSl (.d (lnD t)) (some 1) none S = .ok (.d (lnD (t.drop 1))) S := fun S => by
    have := cut_from (t.map frD) 1
    show Res.ok (Wt.d (D.tup (Y.cutD (t.map frD) (some ((1 : Nat) : Int)) none))) S = _
    rw [this, ← List.map_drop]
    rfl
  have e2 : ∀ S, bLen [.d (lnD t)] S = .ok (.d (.int (t.length : Nat))) S := fun S => by
    show Res.ok (Wt.d (D.int ((t.map frD).length : Nat))) S = _
    rw [List.length_map]
  have e3 : ∀ S, opMulT (.d (.tup [.tup [.int 0, .int 1]])) (.d (.int (t.length : Nat))) S = .ok (.d (lnD (List.replicate t.length (0, 1)))) S := fun S => by
    rw [mulT_tup (by simp) (by simp) (by omega) (by omega)]
    unfold lnD
    rw [List.map_replicate, show (((t.length : Nat) : Int)).toNat = t.length by omega]
    congr 3
    generalize t.length = m
    induction m with
    | zero => rfl
    | succ m ih => rw [List.replicate_succ, List.flatten_cons, ih]; rfl
  have ec := cell_at (S := S) (c := .lst A)
  have ca := fun l' (hl : List.length l' ≤ 5) => catL_loc (l' := l') ec (by omega)
  rw [show (lnD [] : D) = .tup [] from rfl]
  have ca := ca [lnD (t.drop 1), lnD (List.replicate t.length (0, 1)), .non, .tup [], .tup [lnD t]] (by simp)
  rw [List.length_append, List.length_singleton, add_assoc2] at ca
  generalize lnD (t.drop 1) = X1 at *
  generalize lnD (List.replicate t.length (0, 1)) = X2 at *
  generalize lnD t = X6 at *
  simp [e1, e2, e3, ca]
end K42
end
section
/-! all values near multiples -/
namespace K42
open PySem PySem.Spec PyProof.Rows L2 Y
def od1 (p : Fr) : List D := [frD (plF p (1, 1)), frD (plF p (-1, 2)), frD (0, 1), frD (ngF p), .non, .int 1, .lst [.int 1, .int 1], .tup [.int (2 * p.1), .int (2 * p.2)]]
def od2 (p : Fr) : List D := [frD (p.1, 0 - p.2), .tup [.int p.1, .int p.2, .int 0], .tup [.str (toString p.1), .int 1], .tup [.bl true, .int 1]]
theorem log_pow2 {n k : Nat} (h : n ≤ 2 ^ k) (hk : k ≤ 1900) : n.log2 < 1920 := by
  by_cases e : n = 0
  · subst e; simp
  · have h2 : 2 ^ k < 2 ^ (k + 1) := Nat.pow_lt_pow_right (by decide) (by omega)
    have := (Nat.log2_lt e).mpr (show n < 2 ^ (k + 1) by omega)
    omega
section
variable {v0 v1 v2 v3 v4 v6 v7 : Option Wt} {b0 : Nat} {S : Store}
theorem odds_ok {p : Fr} (s : Sz 72 123 p) : (sSet 6 (eLst (aCons (eB F__law_plus (aCons (eVar 5) (aCons (eTup (aCons (eC (.int 1)) (aCons (eC (.int 1)) (aNil)))) (aNil)))) (aCons (eB F__law_plus (aCons (eVar 5) (aCons (eTup (aCons (eUn opNeg (eC (.int 1))) (aCons (eC (.int 2)) (aNil)))) (aNil)))) (aCons (eTup (aCons (eC (.int 0)) (aCons (eC (.int 1)) (aNil)))) (aCons (eTup (aCons (eOp opSubB (eC (.int 0)) (eOp opIx (eVar 5) (eC (.int 0)))) (aCons (eOp opIx (eVar 5) (eC (.int 1))) (aNil)))) (aCons (eC .non) (aCons (eC (.int 1)) (aCons (eLst (aCons (eC (.int 1)) (aCons (eC (.int 1)) (aNil)))) (aCons (eTup (aCons (eOp opMulT (eC (.int 2)) (eOp opIx (eVar 5) (eC (.int 0)))) (aCons (eOp opMulT (eC (.int 2)) (eOp opIx (eVar 5) (eC (.int 1)))) (aNil)))) (aNil))))))))))) b0 [v0, v1, v2, v3, v4, some (.d (frD p)), v6, v7] S = .nx [v0, v1, v2, v3, v4, some (.d (frD p)), some (.d (.lst (od1 p))), v7] S := by
  have p1 := fun S => lplus_ok s sz_11 (by omega) (S := S)
  have p2 := fun S => lplus_ok s sz_m12 (by omega) (S := S)
  rw [show frD (1, 1) = .tup [.int 1, .int 1] from rfl] at p1
  rw [show frD (-1, 2) = .tup [.int (-1), .int 2] from rfl] at p2
  have m1 : mulOk 2 p.1 = true := mul_pow (k := 1) (by decide) s.big (by decide) (by decide)
  have m2 : mulOk 2 p.2 = true := mul_pow (k := 1) (by decide) s.den (by decide) (by decide)
  have e1 : frD (ngF p) = .tup [.int (-p.1), .int p.2] := by
    unfold frD ngF
    rw [Int.zero_sub]
  unfold od1
  rw [e1, show frD (0, 1) = .tup [.int 0, .int 1] from rfl]
  simp [p1, p2, fr_0, fr_1, m1, m2]
theorem odds_it {p : Fr} (s : Sz 72 123 p) : (iVal (eOp opAdd (eVar 6) (eLst (aCons (eTup (aCons (eOp opIx (eVar 5) (eC (.int 0))) (aCons (eOp opSubB (eC (.int 0)) (eOp opIx (eVar 5) (eC (.int 1)))) (aNil)))) (aCons (eTup (aCons (eOp opIx (eVar 5) (eC (.int 0))) (aCons (eOp opIx (eVar 5) (eC (.int 1))) (aCons (eC (.int 0)) (aNil))))) (aCons (eTup (aCons (eB bStr (aCons (eOp opIx (eVar 5) (eC (.int 0))) (aNil))) (aCons (eC (.int 1)) (aNil)))) (aCons (eTup (aCons (eC (.bl true)) (aCons (eC (.int 1)) (aNil)))) (aNil)))))))) [v0, v1, v2, v3, v4, some (.d (frD p)), some (.d (.lst (od1 p))), v7] S = .ok (od1 p ++ od2 p) S := by
  have l1 : (od1 p).length = 8 := rfl
  have e1 : frD (p.1, 0 - p.2) = .tup [.int p.1, .int (-p.2)] := by
    unfold frD
    rw [Int.zero_sub]
  have st : p.1.natAbs.log2 < 1920 := log_pow2 s.big (by decide)
  unfold od2
  rw [e1]
  generalize od1 p = O at *
  have l2 : O.length ≤ 9999996 := by omega
  simp [fr_0, fr_1, st, l1]
end
theorem near_dr {g nn : Nat} {S S0 J : Store} {t : List Fr} (ht : t.length ≤ 5) (mv : Mv g nn S0 S) (hg : g ≤ 800000) {v2 v4 v5 v6 v7 : Option Wt} :
    ∃ (ps : List Fr) (S' : Store), (eLc (iVal (eVar 1)) (gN 3) (tYs) (eTup (aCons (eOp opSubB (eB F__law_take (aCons (eVar 0) (aCons (eC (.int 7)) (aNil)))) (eC (.int 2))) (aCons (eOp opAdd (eC (.int 1)) (eB F__law_take (aCons (eVar 0) (aCons (eC (.int 2)) (aNil))))) (aNil)))) [3]) [some (.loc nn), some (.d (lnD t)), v2, none, v4, v5, v6, v7] (S ++ J) = .ok (.d (.lst (ps.map frD))) (S' ++ J) ∧ Mv (g + 20) nn S0 S' ∧ ps.length = t.length ∧ ∀ p ∈ ps, p.1.natAbs ≤ 10 ∧ 0 < p.2 ∧ p.2 ≤ 2 := by
  obtain ⟨ys, S', e, l1, ⟨S2, gg, e2, mv2, hgg⟩, l2, hy⟩ := eLc_runN (g := gN 3) (t := tYs) (e := (eTup (aCons (eOp opSubB (eB F__law_take (aCons (eVar 0) (aCons (eC (.int 7)) (aNil)))) (eC (.int 2))) (aCons (eOp opAdd (eC (.int 1)) (eB F__law_take (aCons (eVar 0) (aCons (eC (.int 2)) (aNil))))) (aNil))))) (w := iVal (eVar 1)) (vs := [3]) (σ := [some (.loc nn), some (.d (lnD t)), v2, none, v4, v5, v6, v7]) (S0 := S ++ J) (S := S ++ J) (ds := t.map frD)
    (fun k T => ∃ S2 gg, T = S2 ++ J ∧ Mv gg nn S0 S2 ∧ gg + 4 * k ≤ g + 20) (fun y => ∃ p : Fr, y = frD p ∧ p.1.natAbs ≤ 10 ∧ 0 < p.2 ∧ p.2 ≤ 2) (by simp [lnD]) ⟨S, g, rfl, mv, by rw [List.length_map]; omega⟩ (by rw [List.length_map, lim_eq]; omega) (by
      rintro d hd k acc T hT ⟨S2, gg, rfl, mv2, hgg⟩
      obtain ⟨r1, T1, e1, m1, a1, b1⟩ := take_ok (mv2.pl.app (T := J ++ [.lst acc])) (by omega) (many := 7) (by decide) (by decide)
      obtain ⟨U1, rfl, m1'⟩ := m1.back mv2.pl.lt
      obtain ⟨r2, T2, e2, m2, a2, b2⟩ := take_ok (m1'.pl.app (T := J ++ [.lst acc])) (by omega) (many := 2) (by decide) (by decide)
      obtain ⟨U2, rfl, m2'⟩ := m2.back m1'.pl.lt
      refine ⟨_, frD (r1 - 2, 1 + r2), U2 ++ J, [], by simp [wipeD]; rfl, by simp, ?_, ?_, ⟨U2, gg + 2 + 2, rfl, mv2.trans (m1'.trans m2'), by omega⟩, _, rfl, ?_, ?_, ?_⟩
      · simp [wipeD, frD, e1, e2]
      · rw [List.length_append, m2'.length, m1'.length, ← List.length_append]
        exact hT
      · show (r1 - 2).natAbs ≤ 10
        omega
      · show 0 < 1 + r2
        omega
      · show 1 + r2 ≤ 2
        omega)
  subst e2
  have all : ∀ {ys : List D}, (∀ y ∈ ys, ∃ p : Fr, y = frD p ∧ p.1.natAbs ≤ 10 ∧ 0 < p.2 ∧ p.2 ≤ 2) → ∃ ps : List Fr, ys = ps.map frD ∧ ∀ p ∈ ps, p.1.natAbs ≤ 10 ∧ 0 < p.2 ∧ p.2 ≤ 2 := by
    intro ys
    induction ys with
    | nil => exact fun _ => ⟨[], rfl, fun p h => absurd h List.not_mem_nil⟩
    | cons y ys ih =>
      intro h
      obtain ⟨p, rfl, hp⟩ := h y (List.mem_cons_self ..)
      obtain ⟨ps, rfl, hps⟩ := ih fun y hy => h y (List.mem_cons_of_mem _ hy)
      exact ⟨p :: ps, rfl, fun q hq => by
        rcases List.mem_cons.mp hq with rfl | hq
        · exact hp
        · exact hps q hq⟩
  obtain ⟨ps, rfl, hps⟩ := all hy
  rw [List.length_map, List.length_map] at l2
  exact ⟨ps, S2, e, mv2.mono (by omega), l2, hps⟩
/-- what is told of values near multiples -/
structure Nr (n : Nat) (os : List Og) (l : List D) : Prop where
  all : ∀ d ∈ l, Same n os d
  len : l.length ≤ 100
theorem put_it {t : List Fr} {k : Nat} {d : D × Option Fr} (g : ∀ p ∈ t, Gd p) (s : ∀ p ∈ t, Sz 72 123 p) (ht : t.length ≤ 5) (hd : ItOk 80 130 d) : ∃ zs : List (D × Option Fr), putD t k d.1 = .tup (zs.map (·.1)) ∧ (∀ z ∈ zs, ItOk 80 130 z) ∧ zs.length ≤ 1000 := by
  refine ⟨(t.take k).map okV ++ [d] ++ (t.drop (k + 1)).map okV, ?_, ?_, ?_⟩
  · unfold putD
    rw [List.map_append, List.map_append, List.map_map, List.map_map]
    rfl
  · intro z hz
    rw [List.mem_append, List.mem_append] at hz
    rcases hz with (hz | hz) | hz
    · obtain ⟨p, hp, rfl⟩ := List.mem_map.mp hz
      exact it_fr (g p (List.mem_of_mem_take hp)) (s p (List.mem_of_mem_take hp)) (by omega) (by omega)
    · rw [List.mem_singleton.mp hz]
      exact hd
    · obtain ⟨p, hp, rfl⟩ := List.mem_map.mp hz
      exact it_fr (g p (List.mem_of_mem_drop hp)) (s p (List.mem_of_mem_drop hp)) (by omega) (by omega)
  · simp only [List.length_append, List.length_map, List.length_take, List.length_drop, List.length_singleton]
    omega
theorem odd_it {p : Fr} (g : Gd p) (s : Sz 72 123 p) : ∀ d ∈ od1 p ++ od2 p, ∃ z : D × Option Fr, z.1 = d ∧ ItOk 80 130 z := by
  intro d hd
  unfold od1 od2 at hd
  simp only [List.cons_append, List.nil_append, List.mem_cons, List.not_mem_nil, or_false] at hd
  rcases hd with rfl | rfl | rfl | rfl | rfl | rfl | rfl | rfl | rfl | rfl | rfl | rfl
  · exact ⟨okV _, rfl, it_fr (gd_pl g.pos (by decide)) (s.pl sz_11) (by decide) (by decide)⟩
  · exact ⟨okV _, rfl, it_fr (gd_pl g.pos (by decide)) (s.pl sz_m12) (by decide) (by decide)⟩
  · exact ⟨okV _, rfl, it_fr (V := 0) (B := 0) (gd_one 0) sz_01 (by decide) (by decide)⟩
  · exact ⟨okV _, rfl, it_fr (gd_ng g) s.ng (by decide) (by decide)⟩
  · exact ⟨_, rfl, it_no both_non⟩
  · exact ⟨_, rfl, it_no both_int⟩
  · exact ⟨_, rfl, it_no both_lst⟩
  · exact ⟨_, rfl, it_no (both_twice g s (by decide))⟩
  · exact ⟨_, rfl, it_no (both_neg (show 0 - p.2 ≤ 0 by have := g.pos; omega))⟩
  · exact ⟨_, rfl, it_no (both_len (by simp))⟩
  · exact ⟨_, rfl, it_no both_str⟩
  · exact ⟨_, rfl, it_no both_bl⟩
theorem near_ok {g nn n : Nat} {S : Store} {os : List Og} {t : List Fr} (hn : n ≤ 3) (h : ∀ o ∈ os, Og1 n o) (hl : os.length ≤ 5) (hp : Pl g nn S) (hg : g ≤ 700000) (h0 : t ≠ []) (ht : t.length ≤ 5) (gd : ∀ p ∈ t, Gd p) (s : ∀ p ∈ t, Sz 72 123 p) :
    ∃ l S', F__law_near [.loc nn, .d (lnD t)] S = .ok (.d (.lst l)) S' ∧ Mv (g + 30) nn S S' ∧ Nr n os l := by
  have e1 := near_s1 (nn := nn) ht s (b0 := S.length) (S := S)
  have e2 := near_s2 (nn := nn) h0 ht (b0 := S.length) (S := S) (A := [lnD t, lnD (t.map (tmF (3, 2))), lnD (t.map ngF), .lst (t.map frD), lnD t.reverse, lnD (t ++ [(0, 1)])]) (by simp)
  generalize hA : [lnD t, lnD (t.map (tmF (3, 2))), lnD (t.map ngF), .lst (t.map frD), lnD t.reverse, lnD (t ++ [(0, 1)])] = A at e1 e2
  generalize hF : A ++ [lnD (t.drop 1), lnD (List.replicate t.length (0, 1)), .non, lnD [], .tup [lnD t]] = F0 at e2
  have lt0 : 0 < t.length := List.length_pos_iff.mpr h0
  have en : ∀ S, opEq true (.d (lnD t)) (.d (.tup [])) S = .ok (.d (.bl true)) S := fun S => by
    have := eq_of (neg := true) (S := S) (pl_eqOk (pl_ln t) (pl_ln []) (by decide)) (deq_ln t [])
    rw [decide_eq_false h0] at this
    exact this
  have el : ∀ S, bLen [.d (lnD t)] S = .ok (.d (.int (t.length : Nat))) S := fun S => by
    show Res.ok (Wt.d (D.int ((t.map frD).length : Nat))) S = _
    rw [List.length_map]
  obtain ⟨r, T1, tk, m1, a1, b1⟩ := take_ok (hp.app (T := [.lst A, .lst F0])) (by omega) (many := (t.length : Nat)) (by omega) (by omega)
  obtain ⟨S1, rfl, m1'⟩ := m1.back hp.lt
  obtain ⟨k, rfl⟩ : ∃ k : Nat, r = (k : Int) := ⟨r.toNat, by omega⟩
  have hk : k < t.length := by omega
  have ip : ∀ S, opIx (.d (lnD t)) (.d (.int (k : Nat))) S = .ok (.d (frD t[k])) S := fun S => by
    show optR S (atI (t.map frD) (k : Int)) = _
    rw [atIn, List.getElem?_map, List.getElem?_eq_getElem hk]
    rfl
  have sk := s _ (List.getElem_mem hk)
  have gk := gd _ (List.getElem_mem hk)
  have o1 := odds_ok (v0 := some (.loc nn)) (v1 := some (.d (lnD t))) (v2 := some (.loc (S.length + 1))) (v3 := none) (v4 := some (.d (.int (k : Nat)))) (v6 := none) (v7 := none) (b0 := S.length) (S := S1 ++ [.lst A, .lst F0]) sk
  have o2 := odds_it (v0 := some (.loc nn)) (v1 := some (.d (lnD t))) (v2 := some (.loc (S.length + 1))) (v3 := none) (v4 := some (.d (.int (k : Nat)))) (v7 := none) (S := S1 ++ [.lst A, .lst F0]) sk
  have lo : (od1 t[k] ++ od2 t[k]).length = 12 := rfl
  have oi := odd_it gk sk
  have lF : F0.length ≤ 20 := by rw [← hF, ← hA]; simp
  obtain ⟨q7, pl⟩ := put_loop ht (v0 := some (.loc nn)) (v3 := none) (v5 := some (.d (frD t[k]))) (v6 := some (.d (.lst (od1 t[k])))) (b0 := S.length) (S := S1) (c1 := .lst A) (k := k) (od1 t[k] ++ od2 t[k]) F0 none (by omega)
  rw [m1'.length] at pl
  obtain ⟨ps, S2, dr, m2, lp, hps⟩ := near_dr (J := [.lst A, .lst (F0 ++ (od1 t[k] ++ od2 t[k]).map (putD t k))]) ht m1' (by omega) (v2 := some (.loc (S.length + 1))) (v4 := some (.d (.int (k : Nat)))) (v5 := some (.d (frD t[k]))) (v6 := some (.d (.lst (od1 t[k])))) (v7 := q7)
  have sif : (sIf (tBl (eOp (opEq true) (eVar 1) (eTup (aNil))))
  (sSeq (sSet 4 (eB F__law_take (aCons (eVar 0) (aCons (eB bLen (aCons (eVar 1) (aNil))) (aNil)))))
  (sSeq (sSet 5 (eOp opIx (eVar 1) (eVar 4)))
  (sSeq (sSet 6 (eLst (aCons (eB F__law_plus (aCons (eVar 5) (aCons (eTup (aCons (eC (.int 1)) (aCons (eC (.int 1)) (aNil)))) (aNil)))) (aCons (eB F__law_plus (aCons (eVar 5) (aCons (eTup (aCons (eUn opNeg (eC (.int 1))) (aCons (eC (.int 2)) (aNil)))) (aNil)))) (aCons (eTup (aCons (eC (.int 0)) (aCons (eC (.int 1)) (aNil)))) (aCons (eTup (aCons (eOp opSubB (eC (.int 0)) (eOp opIx (eVar 5) (eC (.int 0)))) (aCons (eOp opIx (eVar 5) (eC (.int 1))) (aNil)))) (aCons (eC .non) (aCons (eC (.int 1)) (aCons (eLst (aCons (eC (.int 1)) (aCons (eC (.int 1)) (aNil)))) (aCons (eTup (aCons (eOp opMulT (eC (.int 2)) (eOp opIx (eVar 5) (eC (.int 0)))) (aCons (eOp opMulT (eC (.int 2)) (eOp opIx (eVar 5) (eC (.int 1)))) (aNil)))) (aNil)))))))))))
  (sFor (iVal (eOp opAdd (eVar 6) (eLst (aCons (eTup (aCons (eOp opIx (eVar 5) (eC (.int 0))) (aCons (eOp opSubB (eC (.int 0)) (eOp opIx (eVar 5) (eC (.int 1)))) (aNil)))) (aCons (eTup (aCons (eOp opIx (eVar 5) (eC (.int 0))) (aCons (eOp opIx (eVar 5) (eC (.int 1))) (aCons (eC (.int 0)) (aNil))))) (aCons (eTup (aCons (eB bStr (aCons (eOp opIx (eVar 5) (eC (.int 0))) (aNil))) (aCons (eC (.int 1)) (aNil)))) (aCons (eTup (aCons (eC (.bl true)) (aCons (eC (.int 1)) (aNil)))) (aNil)))))))) (gN 7)
  (sExpr (eM isLst mApp (eVar 2) (aCons (eOp opAdd (eOp opAdd (eSl opSl (eVar 1) (oNone) (oSome (eVar 4))) (eTup (aCons (eVar 7) (aNil)))) (eSl opSl (eVar 1) (oSome (eOp opAdd (eVar 4) (eC (.int 1)))) (oNone))) aNil)))))))
  (sNext)) S.length [some (.loc nn), some (.d (lnD t)), some (.loc (S.length + 1)), none, none, none, none, none] (S ++ [.lst A, .lst F0]) = .nx [some (.loc nn), some (.d (lnD t)), some (.loc (S.length + 1)), none, some (.d (.int (k : Nat))), some (.d (frD t[k])), some (.d (.lst (od1 t[k]))), q7] (S1 ++ [.lst A, .lst (F0 ++ (od1 t[k] ++ od2 t[k]).map (putD t k))]) := by
    generalize frD t[k] = PD at *
    generalize (od1 t[k] ++ od2 t[k]).map (putD t k) = PT at *
    generalize od1 t[k] ++ od2 t[k] = O12 at *
    generalize od1 t[k] = O1 at *
    generalize lnD t = TD at *
    have ct : (tBl (eOp (opEq true) (eVar 1) (eTup (aNil)))) [some (.loc nn), some (.d TD), some (.loc (S.length + 1)), none, none, none, none, none] (S ++ [.lst A, .lst F0]) = .ok true (S ++ [.lst A, .lst F0]) := by
      simp [en]
    have i0 : (sSet 4 (eB F__law_take (aCons (eVar 0) (aCons (eB bLen (aCons (eVar 1) (aNil))) (aNil))))) S.length [some (.loc nn), some (.d TD), some (.loc (S.length + 1)), none, none, none, none, none] (S ++ [.lst A, .lst F0]) = .nx [some (.loc nn), some (.d TD), some (.loc (S.length + 1)), none, some (.d (.int (k : Nat))), none, none, none] (S1 ++ [.lst A, .lst F0]) := by
      simp [el, tk]
    have i1 : (sSet 5 (eOp opIx (eVar 1) (eVar 4))) S.length [some (.loc nn), some (.d TD), some (.loc (S.length + 1)), none, some (.d (.int (k : Nat))), none, none, none] (S1 ++ [.lst A, .lst F0]) = .nx [some (.loc nn), some (.d TD), some (.loc (S.length + 1)), none, some (.d (.int (k : Nat))), some (.d PD), none, none] (S1 ++ [.lst A, .lst F0]) := by
      simp [ip]
    simp only [sIf_ap, ct, ok_toS, if_true, sSeq_ap, i0, i1, o1, sFor_ap, o2, pl]
  have el2 : (S ++ [Cell.lst A, Cell.lst F0]).length = S.length + 2 := by simp
  have fin : (sRet (eOp opAdd (eVar 2) (eLst (aCons (eB bTuple (aCons (eLc (iVal (eVar 1)) (gN 3) (tYs) (eTup (aCons (eOp opSubB (eB F__law_take (aCons (eVar 0) (aCons (eC (.int 7)) (aNil)))) (eC (.int 2))) (aCons (eOp opAdd (eC (.int 1)) (eB F__law_take (aCons (eVar 0) (aCons (eC (.int 2)) (aNil))))) (aNil)))) [3]) (aNil))) (aNil))))) S.length [some (.loc nn), some (.d (lnD t)), some (.loc (S.length + 1)), none, some (.d (.int (k : Nat))), some (.d (frD t[k])), some (.d (.lst (od1 t[k]))), q7] (S1 ++ [.lst A, .lst (F0 ++ (od1 t[k] ++ od2 t[k]).map (putD t k))])
      = .rt (.d (.lst (F0 ++ (od1 t[k] ++ od2 t[k]).map (putD t k) ++ [lnD ps]))) (S2 ++ [.lst A, .lst (F0 ++ (od1 t[k] ++ od2 t[k]).map (putD t k))]) := by
    have lp2 : ((od1 t[k] ++ od2 t[k]).map (putD t k)).length = 12 := by rw [List.length_map]; exact lo
    have ec : (S2 ++ [Cell.lst A, Cell.lst (F0 ++ (od1 t[k] ++ od2 t[k]).map (putD t k))])[S.length + 1]? = some (.lst (F0 ++ (od1 t[k] ++ od2 t[k]).map (putD t k))) := by
      have := m2.length
      rw [List.getElem?_append_right (by omega)]
      simp [this]
    have ad := add_loc (l' := [lnD ps]) ec (by rw [List.length_append]; simp only [List.length_singleton]; omega)
    rw [show lnD ps = .tup (ps.map frD) from rfl] at ad ⊢
    generalize F0 ++ (od1 t[k] ++ od2 t[k]).map (putD t k) = FF at *
    generalize frD t[k] = PD at *
    generalize od1 t[k] = O1 at *
    generalize ps.map frD = PS at *
    generalize lnD t = TD at *
    simp [dr, ad]
  refine ⟨F0 ++ (od1 t[k] ++ od2 t[k]).map (putD t k) ++ [lnD ps], S2, ?_, m2.mono (by omega), ?_⟩
  rotate_left
  · have tl : ∀ d ∈ F0 ++ (od1 t[k] ++ od2 t[k]).map (putD t k) ++ [lnD ps], Same n os d := by
      intro d hd
      rw [List.mem_append, List.mem_append, ← hF, ← hA] at hd
      rcases hd with (hd | hd) | hd
      · simp only [List.cons_append, List.nil_append, List.mem_cons, List.not_mem_nil, or_false] at hd
        have sw : ∀ p ∈ t, Sz 80 130 p := fun p hp => (s p hp).mono (by decide) (by decide)
        rcases hd with rfl | rfl | rfl | rfl | rfl | rfl | rfl | rfl | rfl | rfl | rfl
        · exact same_ln hn h hl gd sw (by omega)
        · refine same_ln hn h hl (fun v hv => ?_) (fun v hv => ?_) (by rw [List.length_map]; omega)
          · obtain ⟨p, hp, rfl⟩ := List.mem_map.mp hv
            exact gd_tm (by decide) (gd p hp).pos
          · obtain ⟨p, hp, rfl⟩ := List.mem_map.mp hv
            exact (sz_32.tm (s p hp)).mono (by decide) (by decide)
        · refine same_ln hn h hl (fun v hv => ?_) (fun v hv => ?_) (by rw [List.length_map]; omega)
          · obtain ⟨p, hp, rfl⟩ := List.mem_map.mp hv
            exact gd_ng (gd p hp)
          · obtain ⟨p, hp, rfl⟩ := List.mem_map.mp hv
            exact (sw p hp).ng
        · exact same_lst hn h hl
        · exact same_ln hn h hl (fun v hv => gd v (List.mem_reverse.mp hv)) (fun v hv => sw v (List.mem_reverse.mp hv)) (by rw [List.length_reverse]; omega)
        · refine same_ln hn h hl (fun v hv => ?_) (fun v hv => ?_) (by rw [List.length_append, List.length_singleton]; omega)
          · rcases List.mem_append.mp hv with hv | hv
            · exact gd v hv
            · rw [List.mem_singleton.mp hv]; exact gd_one 0
          · rcases List.mem_append.mp hv with hv | hv
            · exact sw v hv
            · rw [List.mem_singleton.mp hv]; exact sz_01
        · exact same_ln hn h hl (fun v hv => gd v (List.mem_of_mem_drop hv)) (fun v hv => sw v (List.mem_of_mem_drop hv)) (by rw [List.length_drop]; omega)
        · exact same_ln hn h hl (fun v hv => by rw [List.eq_of_mem_replicate hv]; exact gd_one 0) (fun v hv => by rw [List.eq_of_mem_replicate hv]; exact sz_01) (by rw [List.length_replicate]; omega)
        · exact same_non hn h hl
        · exact same_ln hn h hl (fun v hv => absurd hv List.not_mem_nil) (fun v hv => absurd hv List.not_mem_nil) (by simp)
        · exact same_it hn h hl (zs := [(lnD t, none)]) (fun z hz => by rw [List.mem_singleton.mp hz]; exact it_no (both_ln t)) (by simp)
      · obtain ⟨x, hx, rfl⟩ := List.mem_map.mp hd
        obtain ⟨z, rfl, hz⟩ := oi x hx
        obtain ⟨zs, e, q1, q2⟩ := put_it (k := k) gd s ht hz
        rw [e]
        exact same_it hn h hl q1 q2
      · rw [List.mem_singleton.mp hd]
        have := same_it hn h hl (zs := ps.map drV) (fun z hz => by
          obtain ⟨p, hp, rfl⟩ := List.mem_map.mp hz
          obtain ⟨q1, q2, q3⟩ := hps p hp
          exact it_dr q1 q2 q3) (by rw [List.length_map]; omega)
        have e : (ps.map drV).map (·.1) = ps.map frD := by rw [List.map_map]; rfl
        rw [e] at this
        exact this
    exact ⟨tl, by simp only [List.length_append, List.length_map, List.length_singleton]; rw [← List.length_append, lo]; omega⟩
  · have tk2 : (S2 ++ [Cell.lst A, Cell.lst (F0 ++ (od1 t[k] ++ od2 t[k]).map (putD t k))]).take S.length = S2 := by
      rw [← m2.length]
      simp
    have m0 : F__law_near [.loc nn, .d (lnD t)] S = finish S.length (b__law_near S.length [some (.loc nn), some (.d (lnD t)), none, none, none, none, none, none] S) := rfl
    rw [m0]
    unfold b__law_near
    simp only [sSeq_ap, e1, e2, sif, fin, fin_d, tk2]
end K42
end
section
/-! rows put to that bar -/
namespace K42
theorem ev_app {x : Nat → Rat} : ∀ (a b : List Fr) (i : Nat), ev i (a ++ b) x = ev i a x + ev (i + a.length) b x
  | [], b, i => by
    show ev i b x = 0 + ev (i + 0) b x
    rw [Nat.add_zero]
    grind
  | p :: a, b, i => by
    show vl p * x i + ev (i + 1) (a ++ b) x = vl p * x i + ev (i + 1) a x + ev (i + (a.length + 1)) b x
    rw [ev_app a b (i + 1), show i + 1 + a.length = i + (a.length + 1) by omega]
    grind
theorem ev_sub {x : Nat → Rat} (f g : Nat → Int) : ∀ (l : List Nat) (i : Nat), ev i (lineOf (l.map fun k => f k - g k)) x = ev i (lineOf (l.map f)) x - ev i (lineOf (l.map g)) x
  | [], i => by
    show (0 : Rat) = 0 - 0
    grind
  | k :: l, i => by
    show vl (f k - g k, 1) * x i + ev (i + 1) (lineOf (l.map fun k => f k - g k)) x = vl (f k, 1) * x i + ev (i + 1) (lineOf (l.map f)) x - (vl (g k, 1) * x i + ev (i + 1) (lineOf (l.map g)) x)
    rw [ev_sub f g l (i + 1), vl_int, vl_int, vl_int, Rat.intCast_sub]
    grind
theorem as_range {n : Nat} {f : List Int} (h : f.length = n + 1) : (List.range (n + 1)).map (fun k => f.getD k 0) = f := by
  refine List.ext_getElem (by simp [h]) fun i h1 h2 => ?_
  rw [List.getElem_map, List.getElem_range, List.getD_eq_getElem?_getD, List.getElem?_eq_getElem h2]
  rfl
/-- less the sum of some columns -/
def colF (F : List Og) (k : Nat) : Int := 0 - (F.map fun o => o.1.getD k 0).sum
theorem col_up {n : Nat} {x : Nat → Rat} : ∀ (F : List Og), (∀ o ∈ F, o.1.length = n + 1 ∧ ev 0 (lineOf o.1) x ≤ 0) → 0 ≤ ev 0 (lineOf ((List.range (n + 1)).map (colF F))) x
  | [], _ => by
    have e : ∀ (l : List Nat) (i : Nat), ev i (lineOf (l.map (colF []))) x = 0 := fun l => by
      induction l with
      | nil => exact fun _ => rfl
      | cons k l ih =>
        intro i
        show vl (0 - 0, 1) * x i + ev (i + 1) (lineOf (l.map (colF []))) x = 0
        rw [ih, vl_int, show ((0 - 0 : Int) : Rat) = 0 by rfl]
        grind
    rw [e]
    exact (show (0 : Rat) ≤ 0 by decide)
  | o :: F, h => by
    have ih := col_up F fun q hq => h q (List.mem_cons_of_mem _ hq)
    obtain ⟨h1, h2⟩ := h o (List.mem_cons_self ..)
    have e : colF (o :: F) = fun k => colF F k - o.1.getD k 0 := by
      funext k
      unfold colF
      rw [List.map_cons, List.sum_cons]
      omega
    rw [e, ev_sub, as_range h1]
    grind
def nonE (os : List Og) : List Og := os.filter fun o => decide (o.2 ≠ .eq)
def totF (n : Nat) (os : List Og) : List Int := (List.range (n + 1)).map (colF (nonE os))
def barF (n : Nat) (os : List Og) (c : Int) : Og := ((List.range n).map (colF (nonE os)) ++ [colF (nonE os) n + c], .lt)
theorem unsat_bar {n : Nat} {os : List Og} (h : ∀ o ∈ os, o.1.length = n + 1) {c : Int} (hc : 0 ≤ c) : Unsat n (asRows (os ++ [barF n os c])) := by
  intro x hx
  by_cases con : ∃ r ∈ asRows (os ++ [barF n os c]), ¬ hold r.sg (ev 0 r.ln x)
  · exact con
  exfalso
  have al : ∀ o ∈ os ++ [barF n os c], hold o.2 (ev 0 (lineOf o.1) x) := fun o ho => by
    obtain ⟨k, hk, rfl⟩ := List.getElem_of_mem ho
    by_cases q : hold (os ++ [barF n os c])[k].2 (ev 0 (lineOf (os ++ [barF n os c])[k].1) x)
    · exact q
    · exact absurd ⟨_, List.mem_mapIdx.mpr ⟨k, hk, rfl⟩, q⟩ con
  have up := col_up (n := n) (x := x) (nonE os) fun o ho => by
    obtain ⟨m1, m2⟩ := List.mem_filter.mp ho
    refine ⟨h o m1, ?_⟩
    have := al o (List.mem_append_left _ m1)
    have m2 : o.2 ≠ .eq := by simpa using m2
    exact under_le ((hold_ne m2 _).mp this)
  have lt := al (barF n os c) (List.mem_append_right _ (List.mem_singleton.mpr rfl))
  have lt : ev 0 (lineOf ((List.range n).map (colF (nonE os)) ++ [colF (nonE os) n + c])) x < 0 := lt
  have l1 : ∀ l : List Int, lineOf (l ++ [colF (nonE os) n + c]) = lineOf l ++ [(colF (nonE os) n + c, 1)] := fun l => by unfold lineOf; rw [List.map_append]; rfl
  have l2 : ∀ l : List Int, lineOf (l ++ [colF (nonE os) n]) = lineOf l ++ [(colF (nonE os) n, 1)] := fun l => by unfold lineOf; rw [List.map_append]; rfl
  rw [l1, ev_app] at lt
  rw [List.range_succ, List.map_append, show List.map (colF (nonE os)) [n] = [colF (nonE os) n] from rfl, l2, ev_app] at up
  have ll : 0 + (lineOf ((List.range n).map (colF (nonE os)))).length = n := by simp [lineOf]
  rw [ll] at lt up
  have e1 : ev n [(colF (nonE os) n + c, 1)] x = vl (colF (nonE os) n + c, 1) * x n + 0 := rfl
  have e2 : ev n [(colF (nonE os) n, 1)] x = vl (colF (nonE os) n, 1) * x n + 0 := rfl
  rw [e1, vl_int, hx, Rat.intCast_add] at lt
  rw [e2, vl_int, hx] at up
  have c0 : (0 : Rat) ≤ (c : Rat) := by exact_mod_cast hc
  grind
/-- small forms -/
structure Og0 (n : Nat) (o : Og) : Prop where
  l : o.1.length = n + 1
  b : ∀ x ∈ o.1, x.natAbs ≤ 3
theorem Og0.og1 {n : Nat} {o : Og} (h : Og0 n o) : Og1 n o := ⟨h.l, fun x hx => by have := h.b x hx; omega⟩
theorem col_small {n k : Nat} (hk : k ≤ n) : ∀ (F : List Og), (∀ o ∈ F, Og0 n o) → (colF F k).natAbs ≤ 3 * F.length
  | [], _ => by simp [colF]
  | o :: F, h => by
    have ih := col_small hk F fun q hq => h q (List.mem_cons_of_mem _ hq)
    have ho := h o (List.mem_cons_self ..)
    have e : colF (o :: F) k = colF F k - o.1.getD k 0 := by
      unfold colF
      rw [List.map_cons, List.sum_cons]
      omega
    have := ho.b (o.1.getD k 0) (by
      rw [List.getD_eq_getElem?_getD, List.getElem?_eq_getElem (by rw [ho.l]; omega)]
      exact List.getElem_mem _)
    rw [e, List.length_cons]
    omega
theorem bar_og {n : Nat} {os : List Og} (h : ∀ o ∈ os, Og0 n o) (hl : os.length ≤ 4) {c : Int} (h0 : 0 ≤ c) (h1 : c ≤ 1) : Og1 n (barF n os c) := by
  have hF : ∀ o ∈ nonE os, Og0 n o := fun o ho => h o (List.mem_filter.mp ho).1
  have lF : (nonE os).length ≤ 4 := Nat.le_trans (List.length_filter_le _ _) hl
  refine ⟨by simp [barF], fun x hx => ?_⟩
  rcases List.mem_append.mp hx with hx | hx
  · obtain ⟨k, hk, rfl⟩ := List.mem_map.mp hx
    have := col_small (n := n) (k := k) (by have := List.mem_range.mp hk; omega) (nonE os) hF
    omega
  · rw [List.mem_singleton.mp hx]
    have := col_small (n := n) (k := n) (Nat.le_refl _) (nonE os) hF
    omega
end K42
end
section
/-! drawn ROWS, and the row put to that bar -/
namespace K42
open PySem PySem.Spec PyProof.Rows L2 Y
theorem all_ints {P : Int → Prop} : ∀ {ys : List D}, (∀ y ∈ ys, ∃ i : Int, y = .int i ∧ P i) → ∃ xs : List Int, ys = xs.map D.int ∧ ∀ x ∈ xs, P x
  | [], _ => ⟨[], rfl, fun _ h => absurd h List.not_mem_nil⟩
  | y :: ys, h => by
    obtain ⟨i, rfl, hp⟩ := h y (List.mem_cons_self ..)
    obtain ⟨xs, rfl, q⟩ := all_ints (ys := ys) fun z hz => h z (List.mem_cons_of_mem _ hz)
    exact ⟨i :: xs, rfl, fun x hx => by
      rcases List.mem_cons.mp hx with rfl | hx
      · exact hp
      · exact q x hx⟩
theorem form_ok {g nn n : Nat} {S S0 J : Store} (hn : n ≤ 3) (mv : Mv g nn S0 S) (hg : g ≤ 800000) {v0 v2 v3 v4 v5 : Option Wt} {b0 : Nat} :
    ∃ (f : List Int) (S' : Store), (sSet 5 (eOp opAdd (eLc (iRng1 (aCons (eVar 1) (aNil))) (gN 6) (tYs) (eOp opSubB (eB F__law_take (aCons (eVar 0) (aCons (eC (.int 5)) (aNil)))) (eC (.int 2))) [6]) (eLst (aCons (eOp opSubB (eB F__law_take (aCons (eVar 0) (aCons (eC (.int 7)) (aNil)))) (eC (.int 3))) (aNil))))) b0 [some (.loc nn), some (.d (.int (n : Nat))), v2, v3, v4, v5, none] (S ++ J) = .nx [some (.loc nn), some (.d (.int (n : Nat))), v2, v3, v4, some (.d (.lst (f.map D.int))), none] (S' ++ J) ∧ Mv (g + 8) nn S0 S' ∧ f.length = n + 1 ∧ ∀ x ∈ f, x.natAbs ≤ 3 := by
  obtain ⟨ys, S1, e, l1, ⟨S2, gg, e2, mv2, hgg⟩, l2, hy⟩ := eLc_runN (g := gN 6) (t := tYs) (e := (eOp opSubB (eB F__law_take (aCons (eVar 0) (aCons (eC (.int 5)) (aNil)))) (eC (.int 2)))) (w := iRng1 (aCons (eVar 1) (aNil))) (vs := [6]) (σ := [some (.loc nn), some (.d (.int (n : Nat))), v2, v3, v4, v5, none]) (S0 := S ++ J) (S := S ++ J) (ds := rng 0 n)
    (fun k T => ∃ S2 gg, T = S2 ++ J ∧ Mv gg nn S0 S2 ∧ gg + 2 * k ≤ g + 6) (fun y => ∃ i : Int, y = .int i ∧ i.natAbs ≤ 2) (by
      have := rg1_nat (S := S ++ J) (j := n) (by omega)
      simp [this]) ⟨S, g, rfl, mv, by rw [rng_length]; omega⟩ (by rw [rng_length, lim_eq]; omega) (by
      rintro d hd k acc T hT ⟨S2, gg, rfl, mv2, hgg⟩
      obtain ⟨r1, T1, e1, m1, a1, b1⟩ := take_ok (mv2.pl.app (T := J ++ [.lst acc])) (by omega) (many := 5) (by decide) (by decide)
      obtain ⟨U1, rfl, m1'⟩ := m1.back mv2.pl.lt
      refine ⟨_, .int (r1 - 2), U1 ++ J, [], by simp [wipeD]; rfl, by simp, ?_, ?_, ⟨U1, gg + 2, rfl, mv2.trans m1', by omega⟩, _, rfl, by omega⟩
      · simp [wipeD, e1]
      · rw [List.length_append, m1'.length, ← List.length_append]
        exact hT)
  subst e2
  obtain ⟨xs, rfl, hx⟩ := all_ints hy
  rw [List.length_map, rng_length] at l2
  obtain ⟨r, T, e3, m3, a3, b3⟩ := take_ok (mv2.pl.app (T := J)) (by omega) (many := 7) (by decide) (by decide)
  obtain ⟨U, rfl, m3'⟩ := m3.back mv2.pl.lt
  refine ⟨xs ++ [r - 3], U, ?_, (mv2.trans m3').mono (by omega), by simp [l2], ?_⟩
  · rw [List.map_append, show [r - 3].map D.int = [.int (r - 3)] from rfl]
    have l3 : (xs.map D.int).length ≤ 9999999 := by rw [List.length_map]; omega
    generalize xs.map D.int = XD at *
    simp [e, e3, l3]
  · intro x hx'
    rcases List.mem_append.mp hx' with hx' | hx'
    · have := hx x hx'
      omega
    · rw [List.mem_singleton.mp hx']
      omega
theorem sign_drawn {g nn : Nat} {S : Store} (hp : Pl g nn S) (hg : g ≤ 900000) : ∃ (s : Sg) (S' : Store), F__law_of [.loc nn, .d (.tup [.str "<", .str "<=", .str "<=", .str "="])] S = .ok (.d (.str (sgS s))) S' ∧ Mv (g + 2) nn S S' := by
  obtain ⟨d, hd, S', e, mv⟩ := of_ok hp hg (l := [.str "<", .str "<=", .str "<=", .str "="]) (by simp) (by simp)
  simp only [List.mem_cons, List.not_mem_nil, or_false] at hd
  rcases hd with rfl | rfl | rfl | rfl
  · exact ⟨.lt, S', e, mv⟩
  · exact ⟨.le, S', e, mv⟩
  · exact ⟨.le, S', e, mv⟩
  · exact ⟨.eq, S', e, mv⟩
theorem seq_nx {f h : SM} {b : Nat} {σ σ1 : Ev} {S S1 : Store} {r : SR} (h1 : f b σ S = .nx σ1 S1) (h2 : h b σ1 S1 = r) : sSeq f h b σ S = r := by
  rw [sSeq_ap, h1]
  exact h2
theorem drawn_loop {n nn : Nat} (hn : n ≤ 3) {v2 : Option Wt} {b0 : Nat} {S0 : Store} : ∀ (ds : List D) (g : Nat) (S : Store) (F : List Og) (v4 v5 : Option Wt), Mv g nn S0 S → g + 10 * ds.length ≤ 700000 → F.length + ds.length ≤ 100 → (∀ o ∈ F, Og0 n o) →
    ∃ (v4' v5' : Option Wt) (S' : Store) (F' : List Og), forN (gN 4) (sSeq (sSet 5 (eOp opAdd (eLc (iRng1 (aCons (eVar 1) (aNil))) (gN 6) (tYs) (eOp opSubB (eB F__law_take (aCons (eVar 0) (aCons (eC (.int 5)) (aNil)))) (eC (.int 2))) [6]) (eLst (aCons (eOp opSubB (eB F__law_take (aCons (eVar 0) (aCons (eC (.int 7)) (aNil)))) (eC (.int 3))) (aNil)))))
  (sExpr (eM isLst mApp (eVar 3) (aCons (eTup (aCons (eB bTuple (aCons (eVar 5) (aNil))) (aCons (eB F__law_of (aCons (eVar 0) (aCons (eTup (aCons (eC (.str "<")) (aCons (eC (.str "<=")) (aCons (eC (.str "<=")) (aCons (eC (.str "=")) (aNil)))))) (aNil)))) (aNil)))) aNil)))) ds b0 [some (.loc nn), some (.d (.int (n : Nat))), v2, some (.loc S0.length), v4, v5, none] (S ++ [.lst (F.map ogD)]) = .nx [some (.loc nn), some (.d (.int (n : Nat))), v2, some (.loc S0.length), v4', v5', none] (S' ++ [.lst (F'.map ogD)]) ∧
      Mv (g + 10 * ds.length) nn S0 S' ∧ F'.length = F.length + ds.length ∧ ∀ o ∈ F', Og0 n o
  | [], g, S, F, v4, v5, mv, _, _, hF => ⟨v4, v5, S, F, rfl, mv, rfl, hF⟩
  | d :: ds, g, S, F, v4, v5, mv, hg, hl, hF => by
    rw [List.length_cons] at hg hl
    obtain ⟨f, S1, e1, m1, lf, bf⟩ := form_ok (J := [.lst (F.map ogD)]) hn mv (by omega) (v0 := none) (v2 := v2) (v3 := some (.loc S0.length)) (v4 := some (.d d)) (v5 := v5) (b0 := b0)
    obtain ⟨s, T, e2, m2⟩ := sign_drawn (m1.pl.app (T := [.lst (F.map ogD)])) (by omega)
    obtain ⟨S2, rfl, m2'⟩ := m2.back m1.pl.lt
    have mm := m1.trans m2'
    have hF2 : ∀ o ∈ F ++ [(f, s)], Og0 n o := fun o ho => by
      rcases List.mem_append.mp ho with ho | ho
      · exact hF o ho
      · rw [List.mem_singleton.mp ho]
        exact ⟨lf, bf⟩
    obtain ⟨q4, q5, S', F', e3, m3, l3, h3⟩ := drawn_loop hn (v2 := v2) (b0 := b0) ds (g + 10) S2 (F ++ [(f, s)]) (some (.d d)) (some (.d (.lst (f.map D.int)))) (mm.mono (by omega)) (by omega) (by rw [List.length_append, List.length_singleton]; omega) hF2
    refine ⟨q4, q5, S', F', ?_, m3.mono (by rw [List.length_cons]; omega), by rw [l3, List.length_append, List.length_singleton, List.length_cons]; omega, h3⟩
    have ec := cell_at (S := S2) (c := .lst (F.map ogD))
    rw [mm.length] at ec
    have cs : ∀ c, (S2 ++ [Cell.lst (F.map ogD)]).set S0.length c = S2 ++ [c] := fun c => by
      rw [← mm.length]
      exact cell_set
    have ap := fun d => app_loc (d := d) ec (by rw [List.length_map, lim_eq]; omega)
    simp only [cs] at ap
    have il : ∀ T, isLst (.loc S0.length) (T ++ [Cell.lst (F.map ogD)]) = true ∨ T.length ≠ S0.length := fun T => by
      by_cases q : T.length = S0.length
      · left
        have := cell_at (S := T) (c := .lst (F.map ogD))
        rw [q] at this
        exact isLst_loc this
      · exact .inr q
    have il1 : isLst (.loc S0.length) (S1 ++ [Cell.lst (F.map ogD)]) = true := by
      rcases il S1 with h | h
      · exact h
      · exact absurd m1.length h
    have ea : (sExpr (eM isLst mApp (eVar 3) (aCons (eTup (aCons (eB bTuple (aCons (eVar 5) (aNil))) (aCons (eB F__law_of (aCons (eVar 0) (aCons (eTup (aCons (eC (.str "<")) (aCons (eC (.str "<=")) (aCons (eC (.str "<=")) (aCons (eC (.str "=")) (aNil)))))) (aNil)))) (aNil)))) aNil))) b0 [some (.loc nn), some (.d (.int (n : Nat))), v2, some (.loc S0.length), some (.d d), some (.d (.lst (f.map D.int))), none] (S1 ++ [.lst (F.map ogD)]) = .nx [some (.loc nn), some (.d (.int (n : Nat))), v2, some (.loc S0.length), some (.d d), some (.d (.lst (f.map D.int))), none] (S2 ++ [.lst ((F ++ [(f, s)]).map ogD)]) := by
      rw [List.map_append, show [(f, s)].map ogD = [.tup [.tup (f.map D.int), .str (sgS s)]] from rfl]
      generalize f.map D.int = FD at *
      generalize F.map ogD = GD at *
      simp [il1, e2, ap]
    have step : (sSeq (sSet 5 (eOp opAdd (eLc (iRng1 (aCons (eVar 1) (aNil))) (gN 6) (tYs) (eOp opSubB (eB F__law_take (aCons (eVar 0) (aCons (eC (.int 5)) (aNil)))) (eC (.int 2))) [6]) (eLst (aCons (eOp opSubB (eB F__law_take (aCons (eVar 0) (aCons (eC (.int 7)) (aNil)))) (eC (.int 3))) (aNil)))))
  (sExpr (eM isLst mApp (eVar 3) (aCons (eTup (aCons (eB bTuple (aCons (eVar 5) (aNil))) (aCons (eB F__law_of (aCons (eVar 0) (aCons (eTup (aCons (eC (.str "<")) (aCons (eC (.str "<=")) (aCons (eC (.str "<=")) (aCons (eC (.str "=")) (aNil)))))) (aNil)))) (aNil)))) aNil)))) b0 [some (.loc nn), some (.d (.int (n : Nat))), v2, some (.loc S0.length), some (.d d), v5, none] (S ++ [.lst (F.map ogD)]) = .nx [some (.loc nn), some (.d (.int (n : Nat))), v2, some (.loc S0.length), some (.d d), some (.d (.lst (f.map D.int))), none] (S2 ++ [.lst ((F ++ [(f, s)]).map ogD)]) := by
      exact seq_nx e1 ea
    rw [← e3]
    clear e1 ea e3 e2 ap il il1 cs ec
    generalize (F ++ [(f, s)]).map ogD = G1 at *
    generalize F.map ogD = G0 at *
    simp only [forN, gN_ap, ok_toS, List.set_cons_succ, List.set_cons_zero, step]
theorem drawn_ok {g nn n most : Nat} {S : Store} (hn : n ≤ 3) (hm : most ≤ 4) (hp : Pl g nn S) (hg : g ≤ 600000) : ∃ os S', F__law_drawn_rows [.loc nn, .d (.int (n : Nat)), .d (.int (most : Nat))] S = .ok (.d (osD os)) S' ∧ Mv (g + 50) nn S S' ∧ (∀ o ∈ os, Og0 n o) ∧ os.length ≤ 4 := by
  obtain ⟨r, T, e1, m1, a1, b1⟩ := take_ok (hp.app (T := [.lst []])) (by omega) (many := (most : Int) + 1) (by omega) (by omega)
  obtain ⟨S1, rfl, m1'⟩ := m1.back hp.lt
  obtain ⟨q4, q5, S', F', e2, m2, l2, h2⟩ := drawn_loop hn (v2 := some (.d (.int (most : Nat)))) (b0 := S.length) (rng 0 r.toNat) (g + 2) S1 [] none none m1' (by rw [rng_length]; omega) (by rw [rng_length, List.length_nil]; omega) (fun o h => absurd h List.not_mem_nil)
  rw [rng_length] at m2 l2
  refine ⟨F', S', ?_, m2.mono (by omega), h2, by rw [l2, List.length_nil]; omega⟩
  have rg := rg1_int (S := S1 ++ [.lst []]) (j := r) (by omega) (by omega)
  have ec := cell_at (S := S') (c := .lst (F'.map ogD))
  rw [m2.length] at ec
  have tp := tuple_loc ec
  have tk : (S' ++ [Cell.lst (F'.map ogD)]).take S.length = S' := by
    rw [← m2.length]
    simp
  rw [List.map_nil] at e2
  unfold F__law_drawn_rows b__law_drawn_rows
  unfold osD
  generalize F'.map ogD = FD at *
  simp [mkFn_eq, e1, rg, e2, tp, tk]
theorem total_in {os : List Og} {k : Nat} (hl : os.length ≤ 5) (hk : ∀ o ∈ os, k < o.1.length) {v0 v1 v2 v4 v5 v8 v9 : Option Wt} {S : Store} : (eLc (iVal (eVar 3)) (gN 6) (tBl (eOp (opEq true) (eOp opIx (eVar 6) (eC (.int 1))) (eC (.str "=")))) (eOp opIx (eOp opIx (eVar 6) (eC (.int 0))) (eVar 7)) [6]) [v0, v1, v2, some (.d (osD os)), v4, v5, none, some (.d (.int (k : Nat))), v8, v9] S = .ok (.d (.lst ((nonE os).map fun o => .int (o.1.getD k 0)))) S := by
  refine eLc_filterA ogD (fun o => .int (o.1.getD k 0)) (fun o => decide (o.2 ≠ .eq)) (by simp [osD]) (by rw [lim_eq]; omega) ?_
  intro o ho acc
  have ix : ∀ S, opIx (.d (.tup (o.1.map D.int))) (.d (.int (k : Nat))) S = .ok (.d (.int (o.1.getD k 0))) S := fun S => by
    show optR S (atI (o.1.map D.int) (k : Int)) = _
    rw [atIn, List.getElem?_map, List.getD_eq_getElem?_getD, List.getElem?_eq_getElem (hk o ho)]
    rfl
  generalize o.1.getD k 0 = X at *
  refine ⟨_, by simp [wipeD, ogD]; rfl, by simp [wipeD, str_eqs], fun _ => ?_⟩
  generalize o.1.map D.int = Y at *
  simp [wipeD, ix]
theorem total_ok {n : Nat} (hn : n ≤ 3) {os : List Og} (hl : os.length ≤ 5) (h : ∀ o ∈ os, Og0 n o) {v0 v2 v4 v5 v8 v9 : Option Wt} {S : Store} : (eLc (iRng1 (aCons (eOp opAdd (eVar 1) (eC (.int 1))) (aNil))) (gN 7) (tYs) (eOp opSubB (eC (.int 0)) (eB bSum (aCons (eLc (iVal (eVar 3)) (gN 6) (tBl (eOp (opEq true) (eOp opIx (eVar 6) (eC (.int 1))) (eC (.str "=")))) (eOp opIx (eOp opIx (eVar 6) (eC (.int 0))) (eVar 7)) [6]) (aNil)))) [7]) [v0, some (.d (.int (n : Nat))), v2, some (.d (osD os)), v4, v5, none, none, v8, v9] S = .ok (.d (.lst ((totF n os).map D.int))) S := by
  unfold totF
  rw [List.map_map]
  refine eLc_mapA (fun k : Nat => .int ((k : Nat) : Int)) _ (by
    have := rng_map (L := n + 1) (by omega) (S := S)
    rw [show (((n + 1 : Nat) : Nat) : Int) = (n : Int) + 1 by omega] at this
    simp [this]) (by rw [lim_eq, List.length_range]; omega) ?_
  intro k hk acc
  have hk := List.mem_range.mp hk
  have ti := total_in (os := os) (k := k) hl (fun o ho => by rw [(h o ho).l]; exact hk) (v0 := v0) (v1 := some (.d (.int (n : Nat)))) (v2 := v2) (v4 := v4) (v5 := v5) (v8 := v8) (v9 := v9) (S := S ++ [.lst acc])
  have as : ∀ F : List Og, asInts (F.map fun o => D.int (o.1.getD k 0)) = some (F.map fun o => o.1.getD k 0) := fun F => by
    induction F with
    | nil => rfl
    | cons o F ih =>
      show (asInts (F.map fun o => D.int (o.1.getD k 0))).map _ = _
      rw [ih]
      rfl
  have bs : ∀ S, bSum [.d (.lst ((nonE os).map fun o => .int (o.1.getD k 0)))] S = .ok (.d (.int ((nonE os).map fun o => o.1.getD k 0).sum)) S := fun S => bLst_ok (as _)
  refine ⟨_, by simp [wipeD]; rfl, by simp, ?_⟩
  show _ = Res.ok (Wt.d (D.int (colF (nonE os) k))) _
  have e : colF (nonE os) k = 0 - ((nonE os).map fun o => o.1.getD k 0).sum := rfl
  rw [e]
  generalize ((nonE os).map fun o => o.1.getD k 0).sum = X at *
  generalize (nonE os).map (fun o => D.int (o.1.getD k 0)) = Y at *
  simp [wipeD, ti, bs]
end K42
end
section
/-! one turn, and the law -/
namespace K42
open PySem PySem.Spec PyProof.Rows L2 Y
theorem says_ok {b : Bool} {S : Store} : F__law_says [.d (.bl b), .d (.bl b)] S = .ok (.d (.bl true)) S := by
  unfold F__law_says b__law_says
  simp [mkFn_eq]
theorem is_ln {t : List Fr} {S : Store} : opIs false (.d (lnD t)) (.d .non) S = .ok (.d (.bl false)) S := by
  unfold lnD
  simp
section
variable {n nn : Nat} {os : List Og}
theorem value_ok {g : Nat} {S : Store} {d : D} (h : ∀ o ∈ os, Og1 n o) (hn : n ≤ 3) (hl : os.length ≤ 5) (sm : Same n os d) (hp : Pl g nn S) (hg : g ≤ 800000) {v2 v4 v5 v6 v7 v9 : Option Wt} {b0 : Nat} :
    ∃ v9' S', (sSeq (sSet 9 (eB F__law_do_bar (aCons (eB F__law_rows_of (aCons (eVar 3) (aNil))) (aCons (eVar 1) (aCons (eVar 8) (aNil))))))
  (sIf (tNot (tTru (eB F__law_says (aCons (eIf (tBl (eOp (opEq false) (eB F__law_take (aCons (eVar 0) (aCons (eC (.int 2)) (aNil)))) (eC (.int 1)))) (eCK F_do_bar 0 3 [1, 2, 0] aNil (aCons (eVar 8) (aCons (eVar 3) (aCons (eVar 1) (aNil))))) (eB F_do_bar (aCons (eVar 3) (aCons (eVar 1) (aCons (eVar 8) (aNil)))))) (aCons (eVar 9) (aNil))))))
  (sRet (eC (.bl false)))
  (sNext))) b0 [some (.loc nn), some (.d (.int (n : Nat))), v2, some (.d (osD os)), v4, v5, v6, v7, some (.d d), v9] S = .nx [some (.loc nn), some (.d (.int (n : Nat))), v2, some (.d (osD os)), v4, v5, v6, v7, some (.d d), v9'] S' ∧ Mv (g + 2) nn S S' := by
  obtain ⟨b, e1, e2⟩ := sm
  have ro := fun S => rowsof_ok h (by omega) (by omega) (S := S)
  obtain ⟨r, S', tk, mv, a1, b1⟩ := take_ok hp (by omega) (many := 2) (by decide) (by decide)
  have sy := fun S => says_ok (b := b) (S := S)
  refine ⟨some (.d (.bl b)), S', ?_, mv⟩
  refine seq_nx (σ1 := [some (.loc nn), some (.d (.int (n : Nat))), v2, some (.d (osD os)), v4, v5, v6, v7, some (.d d), some (.d (.bl b))]) (S1 := S) ?_ ?_
  · generalize os.map wsD = W at *
    generalize osD os = OD at *
    simp [ro, e2]
  · generalize os.map wsD = W at *
    generalize osD os = OD at *
    by_cases q : r = 1
    · subst q
      simp [tk, e1, sy, pick]
    · simp [tk, q, e1, sy]
theorem values_ok (h : ∀ o ∈ os, Og1 n o) (hn : n ≤ 3) (hl : os.length ≤ 5) {v2 v4 v5 v6 v7 : Option Wt} {b0 : Nat} {S0 : Store} : ∀ (ds : List D) (g : Nat) (S : Store) (v8 v9 : Option Wt), (∀ d ∈ ds, Same n os d) → Mv g nn S0 S → g + 2 * ds.length ≤ 800000 →
    ∃ v8' v9' S', forN (gN 8) (sSeq (sSet 9 (eB F__law_do_bar (aCons (eB F__law_rows_of (aCons (eVar 3) (aNil))) (aCons (eVar 1) (aCons (eVar 8) (aNil))))))
  (sIf (tNot (tTru (eB F__law_says (aCons (eIf (tBl (eOp (opEq false) (eB F__law_take (aCons (eVar 0) (aCons (eC (.int 2)) (aNil)))) (eC (.int 1)))) (eCK F_do_bar 0 3 [1, 2, 0] aNil (aCons (eVar 8) (aCons (eVar 3) (aCons (eVar 1) (aNil))))) (eB F_do_bar (aCons (eVar 3) (aCons (eVar 1) (aCons (eVar 8) (aNil)))))) (aCons (eVar 9) (aNil))))))
  (sRet (eC (.bl false)))
  (sNext))) ds b0 [some (.loc nn), some (.d (.int (n : Nat))), v2, some (.d (osD os)), v4, v5, v6, v7, v8, v9] S = .nx [some (.loc nn), some (.d (.int (n : Nat))), v2, some (.d (osD os)), v4, v5, v6, v7, v8', v9'] S' ∧ Mv (g + 2 * ds.length) nn S0 S'
  | [], g, S, v8, v9, _, mv, _ => ⟨v8, v9, S, rfl, mv⟩
  | d :: ds, g, S, v8, v9, hd, mv, hg => by
    rw [List.length_cons] at hg
    obtain ⟨q9, S1, e1, m1⟩ := value_ok h hn hl (hd d (List.mem_cons_self ..)) mv.pl (by omega) (v2 := v2) (v4 := v4) (v5 := v5) (v6 := v6) (v7 := v7) (v9 := v9) (b0 := b0)
    obtain ⟨p8, p9, S', e2, m2⟩ := values_ok h hn hl (v2 := v2) (v4 := v4) (v5 := v5) (v6 := v6) (v7 := v7) (b0 := b0) ds (g + 2) S1 (some (.d d)) q9 (fun x hx => hd x (List.mem_cons_of_mem _ hx)) (mv.trans m1) (by omega)
    refine ⟨p8, p9, S', ?_, m2.mono (by rw [List.length_cons]; omega)⟩
    rw [← e2]
    clear e2
    generalize osD os = OD at *
    simp only [forN, gN_ap, ok_toS, List.set_cons_succ, List.set_cons_zero, e1]
theorem tail_ok (h : ∀ o ∈ os, Og1 n o) (hn : n ≤ 3) (hl : os.length ≤ 5) {t : List Fr} (hb : bars os n = some t) {g : Nat} {S : Store} (hp : Pl g nn S) (hg : g ≤ 600000) {v2 v5 v6 v7 v8 v9 : Option Wt} {b0 : Nat} :
    ∃ S', (sSeq (sIf (tBl (eOp (opIs false) (eVar 4) (eC .non)))
  (sRet (eC (.bl false)))
  (sNext)) (sSeq (sFor (iVal (eB F__law_near (aCons (eVar 0) (aCons (eVar 4) (aNil))))) (gN 8)
  (sSeq (sSet 9 (eB F__law_do_bar (aCons (eB F__law_rows_of (aCons (eVar 3) (aNil))) (aCons (eVar 1) (aCons (eVar 8) (aNil))))))
  (sIf (tNot (tTru (eB F__law_says (aCons (eIf (tBl (eOp (opEq false) (eB F__law_take (aCons (eVar 0) (aCons (eC (.int 2)) (aNil)))) (eC (.int 1)))) (eCK F_do_bar 0 3 [1, 2, 0] aNil (aCons (eVar 8) (aCons (eVar 3) (aCons (eVar 1) (aNil))))) (eB F_do_bar (aCons (eVar 3) (aCons (eVar 1) (aCons (eVar 8) (aNil)))))) (aCons (eVar 9) (aNil))))))
  (sRet (eC (.bl false)))
  (sNext)))) (sRet (eOp (opIs false) (eB F_do_bar (aCons (eVar 3) (aCons (eVar 1) (aCons (eVar 4) (aNil))))) (eC (.bl true)))))) b0 [some (.loc nn), some (.d (.int (n : Nat))), v2, some (.d (osD os)), some (.d (lnD t)), v5, v6, v7, v8, v9] S = .rt (.d (.bl true)) S' ∧ Mv (g + 230) nn S S' := by
  obtain ⟨b1, b2, b3, b4⟩ := bars_sound h hl hb
  have st := st_last n hn
  have sz : ∀ p ∈ t, Sz 72 123 p := fun p hp => (b4 p hp).mono st.2.1 st.2.2
  have t0 : t ≠ [] := fun c => by
    have e : os = [] := List.eq_nil_of_length_eq_zero (by rw [← b2, c]; rfl)
    have z : ∀ k, levels [] k = [] := fun k => by
      induction k with
      | zero => rfl
      | succ k ih => rw [levels_succ, ih]; rfl
    rw [e] at hb
    unfold bars at hb
    rw [z] at hb
    cases hb
  obtain ⟨l, S1, e1, m1, nr⟩ := near_ok hn h hl hp (by omega) t0 (by omega) b3 sz
  obtain ⟨q8, q9, S2, e2, m2⟩ := values_ok (n := n) (nn := nn) h hn hl (v2 := v2) (v4 := some (.d (lnD t))) (v5 := v5) (v6 := v6) (v7 := v7) (b0 := b0) l (g + 30) S1 v8 v9 nr.all m1 (by have := nr.len; omega)
  have db := fun S => dobar_of hn h hl (fun S => dobarby_ok hn h b3 (fun p hp => (sz p hp).mono (by decide) (by decide)) hl b2 (S := S)) (S := S)
  rw [b1] at db
  refine ⟨S2, ?_, m2.mono (by have := nr.len; omega)⟩
  have iln := fun S => is_ln (t := t) (S := S)
  refine seq_nx (σ1 := [some (.loc nn), some (.d (.int (n : Nat))), v2, some (.d (osD os)), some (.d (lnD t)), v5, v6, v7, v8, v9]) (S1 := S) ?_ ?_
  · generalize lnD t = T at *
    simp [iln]
  · refine seq_nx (σ1 := [some (.loc nn), some (.d (.int (n : Nat))), v2, some (.d (osD os)), some (.d (lnD t)), v5, v6, v7, q8, q9]) (S1 := S2) ?_ ?_
    · have iv : iVal (eB F__law_near (aCons (eVar 0) (aCons (eVar 4) (aNil)))) [some (.loc nn), some (.d (.int (n : Nat))), v2, some (.d (osD os)), some (.d (lnD t)), v5, v6, v7, v8, v9] S = .ok l S1 := by
        generalize lnD t = T at *
        generalize osD os = OD at *
        simp [e1]
      rw [sFor_ap, iv, ok_toS]
      exact e2
    · generalize lnD t = T at *
      generalize osD os = OD at *
      simp [db]
theorem bar_row {c : Int} (hn : n ≤ 3) (h : ∀ o ∈ os, Og0 n o) (hl : os.length ≤ 4) : osD (os ++ [barF n os c]) = .tup (os.map ogD ++ [.tup [.tup (((List.range n).map (colF (nonE os))).map D.int ++ [.int (colF (nonE os) n + c)]), .str "<"]]) := by
  unfold osD
  rw [List.map_append]
  unfold barF ogD
  simp only [List.map_cons, List.map_nil, List.map_append]
  rfl
theorem barred_ok (h : ∀ o ∈ os, Og0 n o) (hn : n ≤ 3) (hl : os.length ≤ 4) {g : Nat} {S : Store} (hp : Pl g nn S) (hg : g ≤ 600000) {v2 v4 v8 v9 : Option Wt} {b0 : Nat} :
    ∃ (t : List Fr) (c : Int) (S' : Store) (w5 : Option Wt), (sSeq (sSet 5 (eB bTuple (aCons (eLc (iRng1 (aCons (eOp opAdd (eVar 1) (eC (.int 1))) (aNil))) (gN 7) (tYs) (eOp opSubB (eC (.int 0)) (eB bSum (aCons (eLc (iVal (eVar 3)) (gN 6) (tBl (eOp (opEq true) (eOp opIx (eVar 6) (eC (.int 1))) (eC (.str "=")))) (eOp opIx (eOp opIx (eVar 6) (eC (.int 0))) (eVar 7)) [6]) (aNil)))) [7]) (aNil)))) (sSeq (sSet 3 (eOp opAdd (eVar 3) (eTup (aCons (eTup (aCons (eOp opAdd (eSl opSl (eVar 5) (oNone) (oSome (eUn opNeg (eC (.int 1))))) (eTup (aCons (eOp opAdd (eOp opIx (eVar 5) (eUn opNeg (eC (.int 1)))) (eB F__law_take (aCons (eVar 0) (aCons (eC (.int 2)) (aNil))))) (aNil)))) (aCons (eC (.str "<")) (aNil)))) (aNil))))) (sSet 4 (eB F__law_bars (aCons (eB F__law_rows_of (aCons (eVar 3) (aNil))) (aCons (eVar 1) (aNil))))))) b0 [some (.loc nn), some (.d (.int (n : Nat))), v2, some (.d (osD os)), v4, none, none, none, v8, v9] S
      = .nx [some (.loc nn), some (.d (.int (n : Nat))), v2, some (.d (osD (os ++ [barF n os c]))), some (.d (lnD t)), w5, none, none, v8, v9] S' ∧ Mv (g + 2) nn S S' ∧ bars (os ++ [barF n os c]) n = some t ∧ (∀ o ∈ os ++ [barF n os c], Og1 n o) := by
  obtain ⟨r, S1, tk, mv, a1, b1⟩ := take_ok hp (by omega) (many := 2) (by decide) (by decide)
  have h1 : ∀ o ∈ os ++ [barF n os r], Og1 n o := fun o ho => by
    rcases List.mem_append.mp ho with ho | ho
    · exact (h o ho).og1
    · rw [List.mem_singleton.mp ho]
      exact bar_og h hl a1 (by omega)
  have l1 : (os ++ [barF n os r]).length ≤ 5 := by rw [List.length_append, List.length_singleton]; omega
  obtain ⟨t, ht⟩ := bars_some h1 l1 (unsat_bar (fun o ho => (h o ho).l) a1)
  have to := total_ok hn (by omega) h (v0 := some (.loc nn)) (v2 := v2) (v4 := v4) (v5 := none) (v8 := v8) (v9 := v9) (S := S)
  have br := bar_row (c := r) hn h hl
  have ro := fun S => rowsof_ok h1 (by omega) (by omega) (S := S)
  have ba := fun S => bars_ok h1 l1 hn (S := S)
  rw [ht] at ba
  have tf : (totF n os).map D.int = ((List.range n).map (colF (nonE os))).map D.int ++ [.int (colF (nonE os) n)] := by
    unfold totF
    rw [List.range_succ, List.map_append, List.map_append]
    rfl
  rw [tf] at to
  have ct : Y.cutD (((List.range n).map (colF (nonE os))).map D.int ++ [.int (colF (nonE os) n)]) none (some (-1)) = ((List.range n).map (colF (nonE os))).map D.int := by
    rw [cut_init, List.dropLast_concat]
  have li : atI (((List.range n).map (colF (nonE os))).map D.int ++ [.int (colF (nonE os) n)]) (-1) = some (.int (colF (nonE os) n)) := by
    unfold atI ixN
    rw [if_neg (by decide), if_pos (by rw [List.length_append, List.length_singleton]; omega)]
    show (_ : List D)[(_ : Int).toNat]? = _
    rw [List.length_append, List.length_singleton]
    rw [show ((-1 : Int) + (((((List.range n).map (colF (nonE os))).map D.int).length + 1 : Nat) : Int)).toNat = (((List.range n).map (colF (nonE os))).map D.int).length by omega]
    simp
  have lx : (((List.range n).map (colF (nonE os))).map D.int).length ≤ 3 := by simpa using hn
  refine ⟨t, r, S1, some (.d (.tup (((List.range n).map (colF (nonE os))).map D.int ++ [.int (colF (nonE os) n)]))), ?_, mv, ht, h1⟩
  refine seq_nx (σ1 := [some (.loc nn), some (.d (.int (n : Nat))), v2, some (.d (osD os)), v4, some (.d (.tup (((List.range n).map (colF (nonE os))).map D.int ++ [.int (colF (nonE os) n)]))), none, none, v8, v9]) (S1 := S) ?_ ?_
  · generalize ((List.range n).map (colF (nonE os))).map D.int ++ [.int (colF (nonE os) n)] = X at *
    generalize osD os = OD at *
    simp [to]
  · refine seq_nx (σ1 := [some (.loc nn), some (.d (.int (n : Nat))), v2, some (.d (osD (os ++ [barF n os r]))), v4, some (.d (.tup (((List.range n).map (colF (nonE os))).map D.int ++ [.int (colF (nonE os) n)]))), none, none, v8, v9]) (S1 := S1) ?_ ?_
    · rw [br, show osD os = .tup (os.map ogD) from rfl]
      have lo : (os.map ogD).length ≤ 4 := by rw [List.length_map]; exact hl
      generalize ((List.range n).map (colF (nonE os))).map D.int = X at *
      generalize colF (nonE os) n = C at *
      generalize os.map ogD = OD at *
      have l2 : X.length ≤ 9999999 := by omega
      have l3 : OD.length ≤ 9999999 := by omega
      simp [ct, li, tk, l2, l3]
    · generalize osD (os ++ [barF n os r]) = OD at *
      generalize (os ++ [barF n os r]).map wsD = WD at *
      generalize ((List.range n).map (colF (nonE os))).map D.int ++ [.int (colF (nonE os) n)] = X at *
      have ba : ∀ S, F__law_bars [.d (.lst WD), .d (.int (n : Nat))] S = .ok (.d (lnD t)) S := ba
      generalize lnD t = T at *
      simp [ro, ba]
end
theorem right_ok {n nn most g : Nat} {S : Store} (hn : n ≤ 3) (hm : most ≤ 4) (hp : Pl g nn S) (hg : g ≤ 500000) : ∃ S', F__law_right [.loc nn, .d (.int (n : Nat)), .d (.int (most : Nat))] S = .ok (.d (.bl true)) S' ∧ Mv (g + 400) nn S S' := by
  obtain ⟨os, S1, e1, m1, h0, hl⟩ := drawn_ok hn hm hp (by omega)
  have h1 : ∀ o ∈ os, Og1 n o := fun o ho => (h0 o ho).og1
  have ro := fun S => rowsof_ok h1 (by omega) (by omega) (S := S)
  have ba := fun S => bars_ok h1 (by omega) hn (S := S)
  have m0 : F__law_right [.loc nn, .d (.int (n : Nat)), .d (.int (most : Nat))] S = finish S.length (b__law_right S.length [some (.loc nn), some (.d (.int (n : Nat))), some (.d (.int (most : Nat))), none, none, none, none, none, none, none] S) := rfl
  have r0 : (sSet 3 (eB F__law_drawn_rows (aCons (eVar 0) (aCons (eVar 1) (aCons (eVar 2) (aNil)))))) S.length [some (.loc nn), some (.d (.int (n : Nat))), some (.d (.int (most : Nat))), none, none, none, none, none, none, none] S = .nx [some (.loc nn), some (.d (.int (n : Nat))), some (.d (.int (most : Nat))), some (.d (osD os)), none, none, none, none, none, none] S1 := by
    generalize osD os = OD at *
    simp [e1]
  have r1 : (sSet 4 (eB F__law_bars (aCons (eB F__law_rows_of (aCons (eVar 3) (aNil))) (aCons (eVar 1) (aNil))))) S.length [some (.loc nn), some (.d (.int (n : Nat))), some (.d (.int (most : Nat))), some (.d (osD os)), none, none, none, none, none, none] S1 = .nx [some (.loc nn), some (.d (.int (n : Nat))), some (.d (.int (most : Nat))), some (.d (osD os)), some (.d (K42.optD (bars os n))), none, none, none, none, none] S1 := by
    generalize os.map wsD = WD at *
    generalize osD os = OD at *
    generalize K42.optD (bars os n) = X at *
    simp [ro, ba]
  cases hb : bars os n with
  | some t =>
    obtain ⟨S2, e2, m2⟩ := tail_ok h1 hn (by omega) hb m1.pl (by omega) (v2 := some (.d (.int (most : Nat)))) (v5 := none) (v6 := none) (v7 := none) (v8 := none) (v9 := none) (b0 := S.length)
    rw [hb] at r1
    have r2 : (sIf (tBl (eOp (opIs false) (eVar 4) (eC .non)))
  (sSeq (sSet 5 (eB bTuple (aCons (eLc (iRng1 (aCons (eOp opAdd (eVar 1) (eC (.int 1))) (aNil))) (gN 7) (tYs) (eOp opSubB (eC (.int 0)) (eB bSum (aCons (eLc (iVal (eVar 3)) (gN 6) (tBl (eOp (opEq true) (eOp opIx (eVar 6) (eC (.int 1))) (eC (.str "=")))) (eOp opIx (eOp opIx (eVar 6) (eC (.int 0))) (eVar 7)) [6]) (aNil)))) [7]) (aNil))))
  (sSeq (sSet 3 (eOp opAdd (eVar 3) (eTup (aCons (eTup (aCons (eOp opAdd (eSl opSl (eVar 5) (oNone) (oSome (eUn opNeg (eC (.int 1))))) (eTup (aCons (eOp opAdd (eOp opIx (eVar 5) (eUn opNeg (eC (.int 1)))) (eB F__law_take (aCons (eVar 0) (aCons (eC (.int 2)) (aNil))))) (aNil)))) (aCons (eC (.str "<")) (aNil)))) (aNil)))))
  (sSet 4 (eB F__law_bars (aCons (eB F__law_rows_of (aCons (eVar 3) (aNil))) (aCons (eVar 1) (aNil)))))))
  (sNext)) S.length [some (.loc nn), some (.d (.int (n : Nat))), some (.d (.int (most : Nat))), some (.d (osD os)), some (.d (lnD t)), none, none, none, none, none] S1 = .nx [some (.loc nn), some (.d (.int (n : Nat))), some (.d (.int (most : Nat))), some (.d (osD os)), some (.d (lnD t)), none, none, none, none, none] S1 := by
      have iln := fun S => is_ln (t := t) (S := S)
      generalize lnD t = T at *
      generalize osD os = OD at *
      simp [iln]
    have mm := m1.trans m2
    refine ⟨S2, ?_, mm.mono (by omega)⟩
    rw [m0]
    unfold b__law_right
    rw [seq_nx r0 (seq_nx r1 (seq_nx r2 e2)), fin_d, take_mv mm]
  | none =>
    obtain ⟨t, c, S2, w5, e2, m2, hb2, h2⟩ := barred_ok h0 hn hl m1.pl (by omega) (v2 := some (.d (.int (most : Nat)))) (v4 := some (.d .non)) (v8 := none) (v9 := none) (b0 := S.length)
    obtain ⟨S3, e3, m3⟩ := tail_ok h2 hn (by rw [List.length_append, List.length_singleton]; omega) hb2 m2.pl (by omega) (v2 := some (.d (.int (most : Nat)))) (v5 := w5) (v6 := none) (v7 := none) (v8 := none) (v9 := none) (b0 := S.length)
    rw [hb] at r1
    have r2 : (sIf (tBl (eOp (opIs false) (eVar 4) (eC .non)))
  (sSeq (sSet 5 (eB bTuple (aCons (eLc (iRng1 (aCons (eOp opAdd (eVar 1) (eC (.int 1))) (aNil))) (gN 7) (tYs) (eOp opSubB (eC (.int 0)) (eB bSum (aCons (eLc (iVal (eVar 3)) (gN 6) (tBl (eOp (opEq true) (eOp opIx (eVar 6) (eC (.int 1))) (eC (.str "=")))) (eOp opIx (eOp opIx (eVar 6) (eC (.int 0))) (eVar 7)) [6]) (aNil)))) [7]) (aNil))))
  (sSeq (sSet 3 (eOp opAdd (eVar 3) (eTup (aCons (eTup (aCons (eOp opAdd (eSl opSl (eVar 5) (oNone) (oSome (eUn opNeg (eC (.int 1))))) (eTup (aCons (eOp opAdd (eOp opIx (eVar 5) (eUn opNeg (eC (.int 1)))) (eB F__law_take (aCons (eVar 0) (aCons (eC (.int 2)) (aNil))))) (aNil)))) (aCons (eC (.str "<")) (aNil)))) (aNil)))))
  (sSet 4 (eB F__law_bars (aCons (eB F__law_rows_of (aCons (eVar 3) (aNil))) (aCons (eVar 1) (aNil)))))))
  (sNext)) S.length [some (.loc nn), some (.d (.int (n : Nat))), some (.d (.int (most : Nat))), some (.d (osD os)), some (.d .non), none, none, none, none, none] S1 = .nx [some (.loc nn), some (.d (.int (n : Nat))), some (.d (.int (most : Nat))), some (.d (osD (os ++ [barF n os c]))), some (.d (lnD t)), w5, none, none, none, none] S2 := by
      have ct : (tBl (eOp (opIs false) (eVar 4) (eC .non))) [some (.loc nn), some (.d (.int (n : Nat))), some (.d (.int (most : Nat))), some (.d (osD os)), some (.d .non), none, none, none, none, none] S1 = .ok true S1 := by
        generalize osD os = OD
        simp
      rw [sIf_ap, ct, ok_toS, if_pos rfl]
      exact e2
    have mm := (m1.trans m2).trans m3
    refine ⟨S3, ?_, mm.mono (by omega)⟩
    rw [m0]
    unfold b__law_right
    rw [seq_nx r0 (seq_nx r1 (seq_nx r2 e3)), fin_d, take_mv mm]
/-- four turns -/
theorem four_ok {g nn : Nat} {S : Store} (hp : Pl g nn S) (hg : g ≤ 400000) {v0 v1 v3 v4 v5 v6 v7 v8 : Option Wt} {b0 : Nat} :
    ∃ v4' v5' S', (sFor (iVal (eTup (aCons (eTup (aCons (eC (.int 0)) (aCons (eC (.int 3)) (aNil)))) (aCons (eTup (aCons (eC (.int 1)) (aCons (eC (.int 4)) (aNil)))) (aCons (eTup (aCons (eC (.int 2)) (aCons (eC (.int 4)) (aNil)))) (aCons (eTup (aCons (eC (.int 3)) (aCons (eC (.int 4)) (aNil)))) (aNil))))))) (gT 2 (gN1 (gN 4) (gN1 (gN 5) (gN0))))
  (sIf (tNot (tTru (eB F__law_right (aCons (eVar 2) (aCons (eVar 4) (aCons (eVar 5) (aNil)))))))
  (sRet (eC (.bl false)))
  (sNext))) b0 [v0, v1, some (.loc nn), v3, v4, v5, v6, v7, v8] S = .nx [v0, v1, some (.loc nn), v3, v4', v5', v6, v7, v8] S' ∧ Mv (g + 1600) nn S S' := by
  obtain ⟨S1, e1, m1⟩ := right_ok (n := 0) (most := 3) (by decide) (by decide) hp (by omega)
  obtain ⟨S2, e2, m2⟩ := right_ok (n := 1) (most := 4) (by decide) (by decide) m1.pl (by omega)
  obtain ⟨S3, e3, m3⟩ := right_ok (n := 2) (most := 4) (by decide) (by decide) m2.pl (by omega)
  obtain ⟨S4, e4, m4⟩ := right_ok (n := 3) (most := 4) (by decide) (by decide) m3.pl (by omega)
  refine ⟨some (.d (.int 3)), some (.d (.int 4)), S4, ?_, (m1.trans (m2.trans (m3.trans m4))).mono (by omega)⟩
  have e1 : F__law_right [.loc nn, .d (.int 0), .d (.int 3)] S = .ok (.d (.bl true)) S1 := e1
  have e2 : F__law_right [.loc nn, .d (.int 1), .d (.int 4)] S1 = .ok (.d (.bl true)) S2 := e2
  have e3 : F__law_right [.loc nn, .d (.int 2), .d (.int 4)] S2 = .ok (.d (.bl true)) S3 := e3
  have e4 : F__law_right [.loc nn, .d (.int 3), .d (.int 4)] S3 = .ok (.d (.bl true)) S4 := e4
  simp [forN, e1, e2, e3, e4]
theorem go_ok {nn : Nat} {S0 : Store} {v0 v1 v6 v7 v8 : Option Wt} {b0 : Nat} : ∀ (ds : List D) (g : Nat) (S : Store) (v3 v4 v5 : Option Wt), Mv g nn S0 S → g + 1600 * ds.length ≤ 400000 →
    ∃ v3' v4' v5' S', forN (gN 3) (sFor (iVal (eTup (aCons (eTup (aCons (eC (.int 0)) (aCons (eC (.int 3)) (aNil)))) (aCons (eTup (aCons (eC (.int 1)) (aCons (eC (.int 4)) (aNil)))) (aCons (eTup (aCons (eC (.int 2)) (aCons (eC (.int 4)) (aNil)))) (aCons (eTup (aCons (eC (.int 3)) (aCons (eC (.int 4)) (aNil)))) (aNil))))))) (gT 2 (gN1 (gN 4) (gN1 (gN 5) (gN0))))
  (sIf (tNot (tTru (eB F__law_right (aCons (eVar 2) (aCons (eVar 4) (aCons (eVar 5) (aNil)))))))
  (sRet (eC (.bl false)))
  (sNext))) ds b0 [v0, v1, some (.loc nn), v3, v4, v5, v6, v7, v8] S = .nx [v0, v1, some (.loc nn), v3', v4', v5', v6, v7, v8] S' ∧ Mv (g + 1600 * ds.length) nn S0 S'
  | [], g, S, v3, v4, v5, mv, _ => ⟨v3, v4, v5, S, rfl, mv⟩
  | d :: ds, g, S, v3, v4, v5, mv, hg => by
    rw [List.length_cons] at hg
    obtain ⟨q4, q5, S1, e1, m1⟩ := four_ok mv.pl (by omega) (v0 := v0) (v1 := v1) (v3 := some (.d d)) (v4 := v4) (v5 := v5) (v6 := v6) (v7 := v7) (v8 := v8) (b0 := b0)
    obtain ⟨p3, p4, p5, S', e2, m2⟩ := go_ok (v0 := v0) (v1 := v1) (v6 := v6) (v7 := v7) (v8 := v8) (b0 := b0) ds (g + 1600) S1 (some (.d d)) q4 q5 (mv.trans m1) (by omega)
    refine ⟨p3, p4, p5, S', ?_, m2.mono (by rw [List.length_cons]; omega)⟩
    rw [← e2]
    clear e2
    simp only [forN, gN_ap, ok_toS, List.set_cons_succ, List.set_cons_zero, e1]
theorem lap_ok {ns : List Int} (hns : ns.length ≤ 63) {k : Nat} (hk : k ≤ 100) {S : Store} {v2 v3 v4 v5 v6 v7 v8 : Option Wt} {b0 : Nat} :
    ∃ v2' v3' v4' v5' S', (sSeq (sSet 2 (eB F__law_well (aCons (eVar 0) (aCons (eVar 1) (aNil)))))
  (sFor (iRng1 (aCons (eC (.int 4)) (aNil))) (gN 3)
  (sFor (iVal (eTup (aCons (eTup (aCons (eC (.int 0)) (aCons (eC (.int 3)) (aNil)))) (aCons (eTup (aCons (eC (.int 1)) (aCons (eC (.int 4)) (aNil)))) (aCons (eTup (aCons (eC (.int 2)) (aCons (eC (.int 4)) (aNil)))) (aCons (eTup (aCons (eC (.int 3)) (aCons (eC (.int 4)) (aNil)))) (aNil))))))) (gT 2 (gN1 (gN 4) (gN1 (gN 5) (gN0))))
  (sIf (tNot (tTru (eB F__law_right (aCons (eVar 2) (aCons (eVar 4) (aCons (eVar 5) (aNil)))))))
  (sRet (eC (.bl false)))
  (sNext))))) b0 [some (scr ns), some (.d (.int (k : Nat))), v2, v3, v4, v5, v6, v7, v8] S = .nx [some (scr ns), some (.d (.int (k : Nat))), v2', v3', v4', v5', v6, v7, v8] S' := by
  obtain ⟨a, b, wo, e⟩ := well_ok hns k hk S
  have pl : Pl 0 S.length (S ++ [.lst [.int a, .int b, .int 0]]) := ⟨a, b, 0, by simp, wo⟩
  obtain ⟨p3, p4, p5, S', e2, m2⟩ := go_ok (v0 := some (scr ns)) (v1 := some (.d (.int (k : Nat)))) (v6 := v6) (v7 := v7) (v8 := v8) (b0 := b0) (rng 0 4) 0 _ v3 v4 v5 pl.mv (by rw [rng_length]; decide)
  refine ⟨some (.loc S.length), p3, p4, p5, S', ?_⟩
  refine seq_nx (σ1 := [some (scr ns), some (.d (.int (k : Nat))), some (.loc S.length), v3, v4, v5, v6, v7, v8]) (S1 := S ++ [.lst [.int a, .int b, .int 0]]) ?_ ?_
  · simp only [scr] at *
    simp [e]
  · rw [sFor_ap]
    have ir : iRng1 (aCons (eC (.int 4)) (aNil)) [some (scr ns), some (.d (.int (k : Nat))), some (.loc S.length), v3, v4, v5, v6, v7, v8] (S ++ [.lst [.int a, .int b, .int 0]]) = .ok (rng 0 4) (S ++ [.lst [.int a, .int b, .int 0]]) := by
      have := rg1_nat (S := S ++ [.lst [.int a, .int b, .int 0]]) (j := 4) (by decide)
      simpa using this
    rw [ir, ok_toS]
    exact e2
theorem laps_ok {ns : List Int} (hns : ns.length ≤ 63) {v6 v7 v8 : Option Wt} {b0 : Nat} : ∀ (ds : List D) (S : Store) (v1 v2 v3 v4 v5 : Option Wt), (∀ d ∈ ds, ∃ k : Nat, k ≤ 100 ∧ d = .int (k : Int)) →
    ∃ v1' v2' v3' v4' v5' S', forN (gN 1) (sSeq (sSet 2 (eB F__law_well (aCons (eVar 0) (aCons (eVar 1) (aNil)))))
  (sFor (iRng1 (aCons (eC (.int 4)) (aNil))) (gN 3)
  (sFor (iVal (eTup (aCons (eTup (aCons (eC (.int 0)) (aCons (eC (.int 3)) (aNil)))) (aCons (eTup (aCons (eC (.int 1)) (aCons (eC (.int 4)) (aNil)))) (aCons (eTup (aCons (eC (.int 2)) (aCons (eC (.int 4)) (aNil)))) (aCons (eTup (aCons (eC (.int 3)) (aCons (eC (.int 4)) (aNil)))) (aNil))))))) (gT 2 (gN1 (gN 4) (gN1 (gN 5) (gN0))))
  (sIf (tNot (tTru (eB F__law_right (aCons (eVar 2) (aCons (eVar 4) (aCons (eVar 5) (aNil)))))))
  (sRet (eC (.bl false)))
  (sNext))))) ds b0 [some (scr ns), v1, v2, v3, v4, v5, v6, v7, v8] S = .nx [some (scr ns), v1', v2', v3', v4', v5', v6, v7, v8] S'
  | [], S, v1, v2, v3, v4, v5, _ => ⟨v1, v2, v3, v4, v5, S, rfl⟩
  | d :: ds, S, v1, v2, v3, v4, v5, hd => by
    obtain ⟨k, hk, rfl⟩ := hd d (List.mem_cons_self ..)
    obtain ⟨q2, q3, q4, q5, S1, e1⟩ := lap_ok hns hk (S := S) (v2 := v2) (v3 := v3) (v4 := v4) (v5 := v5) (v6 := v6) (v7 := v7) (v8 := v8) (b0 := b0)
    obtain ⟨p1, p2, p3, p4, p5, S', e2⟩ := laps_ok hns (v6 := v6) (v7 := v7) (v8 := v8) (b0 := b0) ds S1 (some (.d (.int (k : Nat)))) q2 q3 q4 q5 (fun x hx => hd x (List.mem_cons_of_mem _ hx))
    refine ⟨p1, p2, p3, p4, p5, S', ?_⟩
    rw [← e2]
    clear e2
    simp only [forN, gN_ap, ok_toS, List.set_cons_succ, List.set_cons_zero, e1]
def sameR : List Og := [([1, -1], .eq), ([-1, 2], .eq)]
def belowR : List Og := [([1, -1], .le), ([-1, 1], .lt)]
theorem do_c {os : List Og} {vs : List Fr} (h : os.all (fun o => decide (o.1.length = 2) && o.1.all fun x => decide (x.natAbs ≤ 16)) = true) (hv : vs.all (fun p => decide (p.2 = 1) && decide (p.1.natAbs ≤ 16)) = true) (hl : os.length ≤ 5) (he : vs.length = os.length) {b : Bool} (hb : barV 1 os vs = b) (S : Store) : F_do_bar [.d (osD os), .d (.int 1), .d (lnD vs)] S = .ok (.d (.bl b)) S := by
  have h1 : ∀ o ∈ os, Og1 1 o := fun o ho => by
    have := List.all_eq_true.mp h o ho
    simp only [Bool.and_eq_true, decide_eq_true_eq, List.all_eq_true] at this
    exact ⟨this.1, this.2⟩
  have v1 : ∀ p ∈ vs, p.2 = 1 ∧ p.1.natAbs ≤ 16 := fun p hp => by
    have := List.all_eq_true.mp hv p hp
    simpa using this
  have g : ∀ p ∈ vs, Gd p := fun p hp => by
    obtain ⟨a, c⟩ := p
    obtain ⟨q, _⟩ := v1 _ hp
    have q : c = 1 := q
    subst q
    exact gd_one a
  have s : ∀ p ∈ vs, Sz 80 130 p := fun p hp => by
    obtain ⟨a, c⟩ := p
    obtain ⟨q, q2⟩ := v1 _ hp
    have q : c = 1 := q
    subst q
    exact (show Sz 4 0 (a, 1) from ⟨show (0 : Int) < 1 by decide, by simpa using q2, show (1 : Int).natAbs ≤ 2 ^ 0 by decide⟩).mono (by decide) (by decide)
  rw [← hb]
  exact dobar_of (by decide) h1 hl (fun S => dobarby_ok (by decide) h1 g s hl he)
theorem law_ok (ns : List Int) (hns : ns.length ≤ 63) (hb : ∀ z ∈ ns, Builtin.Int.intBits z ≤ 1048576) : ∃ S, F_law [scr ns] [] = .ok (.d (.bl true)) S := by
  have d1 : ∀ S, F_do_bar [.d (.tup [.tup [.tup [.int 1, .int (-1)], .str "="], .tup [.tup [.int (-1), .int 2], .str "="]]), .d (.int 1), .d (.tup [.tup [.int 1, .int 1], .tup [.int 1, .int 1]])] S = .ok (.d (.bl true)) S := fun S => do_c (os := sameR) (vs := [(1, 1), (1, 1)]) (by decide) (by decide) (by decide) rfl (by decide +kernel) S
  have d2 : ∀ S, F_do_bar [.d (.tup [.tup [.tup [.int 1, .int (-1)], .str "="], .tup [.tup [.int (-1), .int 2], .str "="]]), .d (.int 1), .d (.tup [.tup [.int (-1), .int 1], .tup [.int (-1), .int 1]])] S = .ok (.d (.bl true)) S := fun S => do_c (os := sameR) (vs := [(-1, 1), (-1, 1)]) (by decide) (by decide) (by decide) rfl (by decide +kernel) S
  have d3 : ∀ S, F_do_bar [.d (.tup [.tup [.tup [.int 1, .int (-1)], .str "<="], .tup [.tup [.int (-1), .int 1], .str "<"]]), .d (.int 1), .d (.tup [.tup [.int 1, .int 1], .tup [.int 1, .int 1]])] S = .ok (.d (.bl true)) S := fun S => do_c (os := belowR) (vs := [(1, 1), (1, 1)]) (by decide) (by decide) (by decide) rfl (by decide +kernel) S
  have d4 : ∀ S, F_do_bar [.d (.tup [.tup [.tup [.int 1, .int (-1)], .str "<="], .tup [.tup [.int (-1), .int 1], .str "<"]]), .d (.int 1), .d (.tup [.tup [.int 1, .int 1], .tup [.int 2, .int 1]])] S = .ok (.d (.bl false)) S := fun S => do_c (os := belowR) (vs := [(1, 1), (2, 1)]) (by decide) (by decide) (by decide) rfl (by decide +kernel) S
  have d5 : ∀ S, F_do_bar [.d (.tup [.tup [.tup [.int 0, .int 0], .str "<="]]), .d (.int 1), .d (.tup [.tup [.int 1, .int 1]])] S = .ok (.d (.bl false)) S := fun S => do_c (os := [([0, 0], .le)]) (vs := [(1, 1)]) (by decide) (by decide) (by decide) rfl (by decide +kernel) S
  have d6 : ∀ S, F_do_bar [.d (.tup [.tup [.tup [.int 0, .int 0], .str "<"]]), .d (.int 1), .d (.tup [.tup [.int 0, .int 1]])] S = .ok (.d (.bl false)) S := fun S => do_c (os := [([0, 0], .lt)]) (vs := [(0, 1)]) (by decide) (by decide) (by decide) rfl (by decide +kernel) S
  have ir : ∃ m : Nat, m ≤ 100 ∧ (iRng1 (aCons (eB bMax (aCons (eC (.int 2)) (aCons (eB bMin (aCons (eB bLen (aCons (eVar 0) (aNil))) (aCons (eC (.int 4)) (aNil)))) (aNil)))) (aNil))) [some (scr ns), none, none, none, none, none, none, none, none] [] = .ok (rng 0 m) [] := by
    have r : ∀ m : Nat, m ≤ 100 → rg1 [.d (.int (m : Nat))] [] = .ok (rng 0 m) [] := fun m hm => rg1_nat (by omega)
    have r4 := r 4 (by decide)
    have r2 := r 2 (by decide)
    have r4 : rg1 [.d (.int 4)] [] = .ok (rng 0 4) [] := r4
    have r2 : rg1 [.d (.int 2)] [] = .ok (rng 0 2) [] := r2
    have e : ∃ m : Nat, m ≤ 100 ∧ (if (2 : Int) < if 4 < ((ns.length : Nat) : Int) then 4 else ((ns.length : Nat) : Int) then if 4 < ((ns.length : Nat) : Int) then 4 else ((ns.length : Nat) : Int) else 2) = (m : Int) := by
      refine ⟨max 2 (min ns.length 4), by omega, ?_⟩
      split <;> split <;> omega
    obtain ⟨m, hm, e⟩ := e
    refine ⟨m, hm, ?_⟩
    simp [scr]
    rw [e]
    exact r m hm
  obtain ⟨m, hm, ir⟩ := ir
  obtain ⟨p1, p2, p3, p4, p5, S1, e1⟩ := laps_ok hns (v6 := none) (v7 := none) (v8 := none) (b0 := 0) (rng 0 m) [] none none none none none (fun d hd => by
    obtain ⟨i, hi, rfl⟩ := rng_mem hd
    exact ⟨i, by omega, by simp⟩)
  have eq : ∀ S, opEq false (.d (.lst [.bl true, .bl true, .bl true, .bl false, .bl false, .bl false])) (.d (.lst [.bl true, .bl true, .bl true, .bl false, .bl false, .bl false])) S = .ok (.d (.bl true)) S := fun S => eq_self (k := 1) (by decide) (by decide)
  have m0 : F_law [scr ns] [] = finish 0 (b_law 0 [some (scr ns), none, none, none, none, none, none, none, none] []) := rfl
  have lf : (sFor (iRng1 (aCons (eB bMax (aCons (eC (.int 2)) (aCons (eB bMin (aCons (eB bLen (aCons (eVar 0) (aNil))) (aCons (eC (.int 4)) (aNil)))) (aNil)))) (aNil))) (gN 1)
  (sSeq (sSet 2 (eB F__law_well (aCons (eVar 0) (aCons (eVar 1) (aNil)))))
  (sFor (iRng1 (aCons (eC (.int 4)) (aNil))) (gN 3)
  (sFor (iVal (eTup (aCons (eTup (aCons (eC (.int 0)) (aCons (eC (.int 3)) (aNil)))) (aCons (eTup (aCons (eC (.int 1)) (aCons (eC (.int 4)) (aNil)))) (aCons (eTup (aCons (eC (.int 2)) (aCons (eC (.int 4)) (aNil)))) (aCons (eTup (aCons (eC (.int 3)) (aCons (eC (.int 4)) (aNil)))) (aNil))))))) (gT 2 (gN1 (gN 4) (gN1 (gN 5) (gN0))))
  (sIf (tNot (tTru (eB F__law_right (aCons (eVar 2) (aCons (eVar 4) (aCons (eVar 5) (aNil)))))))
  (sRet (eC (.bl false)))
  (sNext)))))) 0 [some (scr ns), none, none, none, none, none, none, none, none] [] = .nx [some (scr ns), p1, p2, p3, p4, p5, none, none, none] S1 := by
    rw [sFor_ap, ir, ok_toS]
    exact e1
  have l1 : (sAsg (gT 2 (gN1 (gN 6) (gN1 (gN 7) (gN0)))) (eTup (aCons (eTup (aCons (eTup (aCons (eTup (aCons (eC (.int 1)) (aCons (eUn opNeg (eC (.int 1))) (aNil)))) (aCons (eC (.str "=")) (aNil)))) (aCons (eTup (aCons (eTup (aCons (eUn opNeg (eC (.int 1))) (aCons (eC (.int 2)) (aNil)))) (aCons (eC (.str "=")) (aNil)))) (aNil)))) (aCons (eTup (aCons (eTup (aCons (eTup (aCons (eC (.int 1)) (aCons (eUn opNeg (eC (.int 1))) (aNil)))) (aCons (eC (.str "<=")) (aNil)))) (aCons (eTup (aCons (eTup (aCons (eUn opNeg (eC (.int 1))) (aCons (eC (.int 1)) (aNil)))) (aCons (eC (.str "<")) (aNil)))) (aNil)))) (aNil))))) 0 [some (scr ns), p1, p2, p3, p4, p5, none, none, none] S1 = .nx [some (scr ns), p1, p2, p3, p4, p5, some (.d (.tup [.tup [.tup [.int 1, .int (-1)], .str "="], .tup [.tup [.int (-1), .int 2], .str "="]])), some (.d (.tup [.tup [.tup [.int 1, .int (-1)], .str "<="], .tup [.tup [.int (-1), .int 1], .str "<"]])), none] S1 := by
    simp
  have l2 : (sSet 8 (eLst (aCons (eB F_do_bar (aCons (eVar 6) (aCons (eC (.int 1)) (aCons (eTup (aCons (eTup (aCons (eC (.int 1)) (aCons (eC (.int 1)) (aNil)))) (aCons (eTup (aCons (eC (.int 1)) (aCons (eC (.int 1)) (aNil)))) (aNil)))) (aNil))))) (aCons (eB F_do_bar (aCons (eVar 6) (aCons (eC (.int 1)) (aCons (eTup (aCons (eTup (aCons (eUn opNeg (eC (.int 1))) (aCons (eC (.int 1)) (aNil)))) (aCons (eTup (aCons (eUn opNeg (eC (.int 1))) (aCons (eC (.int 1)) (aNil)))) (aNil)))) (aNil))))) (aCons (eB F_do_bar (aCons (eVar 7) (aCons (eC (.int 1)) (aCons (eTup (aCons (eTup (aCons (eC (.int 1)) (aCons (eC (.int 1)) (aNil)))) (aCons (eTup (aCons (eC (.int 1)) (aCons (eC (.int 1)) (aNil)))) (aNil)))) (aNil))))) (aCons (eB F_do_bar (aCons (eVar 7) (aCons (eC (.int 1)) (aCons (eTup (aCons (eTup (aCons (eC (.int 1)) (aCons (eC (.int 1)) (aNil)))) (aCons (eTup (aCons (eC (.int 2)) (aCons (eC (.int 1)) (aNil)))) (aNil)))) (aNil))))) (aNil))))))) 0 [some (scr ns), p1, p2, p3, p4, p5, some (.d (.tup [.tup [.tup [.int 1, .int (-1)], .str "="], .tup [.tup [.int (-1), .int 2], .str "="]])), some (.d (.tup [.tup [.tup [.int 1, .int (-1)], .str "<="], .tup [.tup [.int (-1), .int 1], .str "<"]])), none] S1 = .nx [some (scr ns), p1, p2, p3, p4, p5, some (.d (.tup [.tup [.tup [.int 1, .int (-1)], .str "="], .tup [.tup [.int (-1), .int 2], .str "="]])), some (.d (.tup [.tup [.tup [.int 1, .int (-1)], .str "<="], .tup [.tup [.int (-1), .int 1], .str "<"]])), some (.d (.lst [.bl true, .bl true, .bl true, .bl false]))] S1 := by
    simp [d1, d2, d3, d4]
  have l3 : (sSet 8 (eOp opAdd (eVar 8) (eLst (aCons (eB F_do_bar (aCons (eTup (aCons (eTup (aCons (eTup (aCons (eC (.int 0)) (aCons (eC (.int 0)) (aNil)))) (aCons (eC (.str "<=")) (aNil)))) (aNil))) (aCons (eC (.int 1)) (aCons (eTup (aCons (eTup (aCons (eC (.int 1)) (aCons (eC (.int 1)) (aNil)))) (aNil))) (aNil))))) (aCons (eB F_do_bar (aCons (eTup (aCons (eTup (aCons (eTup (aCons (eC (.int 0)) (aCons (eC (.int 0)) (aNil)))) (aCons (eC (.str "<")) (aNil)))) (aNil))) (aCons (eC (.int 1)) (aCons (eTup (aCons (eTup (aCons (eC (.int 0)) (aCons (eC (.int 1)) (aNil)))) (aNil))) (aNil))))) (aNil)))))) 0 [some (scr ns), p1, p2, p3, p4, p5, some (.d (.tup [.tup [.tup [.int 1, .int (-1)], .str "="], .tup [.tup [.int (-1), .int 2], .str "="]])), some (.d (.tup [.tup [.tup [.int 1, .int (-1)], .str "<="], .tup [.tup [.int (-1), .int 1], .str "<"]])), some (.d (.lst [.bl true, .bl true, .bl true, .bl false]))] S1 = .nx [some (scr ns), p1, p2, p3, p4, p5, some (.d (.tup [.tup [.tup [.int 1, .int (-1)], .str "="], .tup [.tup [.int (-1), .int 2], .str "="]])), some (.d (.tup [.tup [.tup [.int 1, .int (-1)], .str "<="], .tup [.tup [.int (-1), .int 1], .str "<"]])), some (.d (.lst [.bl true, .bl true, .bl true, .bl false, .bl false, .bl false]))] S1 := by
    simp [d5, d6]
  have l4 : (sRet (eOp (opEq false) (eVar 8) (eLst (aCons (eC (.bl true)) (aCons (eC (.bl true)) (aCons (eC (.bl true)) (aCons (eC (.bl false)) (aCons (eC (.bl false)) (aCons (eC (.bl false)) (aNil)))))))))) 0 [some (scr ns), p1, p2, p3, p4, p5, some (.d (.tup [.tup [.tup [.int 1, .int (-1)], .str "="], .tup [.tup [.int (-1), .int 2], .str "="]])), some (.d (.tup [.tup [.tup [.int 1, .int (-1)], .str "<="], .tup [.tup [.int (-1), .int 1], .str "<"]])), some (.d (.lst [.bl true, .bl true, .bl true, .bl false, .bl false, .bl false]))] S1 = .rt (.d (.bl true)) S1 := by
    simp [eq]
  refine ⟨S1.take 0, ?_⟩
  · rw [m0]
    unfold b_law
    rw [seq_nx lf (seq_nx l1 (seq_nx l2 (seq_nx l3 l4))), fin_d]
end K42
end
section
set_option maxHeartbeats 0
namespace K42
open PySem PySem.Spec PyProof.Rows L2 Y
def top (i : Nat) : Stmt := PySem.Challenge.pw_openduels_k42_whole_multiples_of_anythin.main.body.getD i (.Pass ⟨0, 0, 0, 0⟩)
def mth (i j : Nat) : Stmt := (clsBody (top i)).getD j (.Pass ⟨0, 0, 0, 0⟩)
/-- the facts of the heap behind the top -/
structure Tb (P : Program) (w : World) (K : PySem.W.Frag) (mg : Str → Option Value) : Prop where
  f_is_whole : ∃ f fd, FunD K "is_whole" "is_whole" (defArgs (top 6)) (defBody (top 6)) (defScope (top 6)) [] [] f fd ∧ mg "is_whole" = some (.ref f)
  f_is_between : ∃ f fd, FunD K "is_between" "is_between" (defArgs (top 7)) (defBody (top 7)) (defScope (top 7)) [] [] f fd ∧ mg "is_between" = some (.ref f)
  f_is_tuple_of : ∃ f fd, FunD K "is_tuple_of" "is_tuple_of" (defArgs (top 8)) (defBody (top 8)) (defScope (top 8)) [] [] f fd ∧ mg "is_tuple_of" = some (.ref f)
  f_fraction : ∃ f fd, FunD K "fraction" "fraction" (defArgs (top 9)) (defBody (top 9)) (defScope (top 9)) [] [] f fd ∧ mg "fraction" = some (.ref f)
  f_is_fraction_by : ∃ f fd, FunD K "is_fraction_by" "is_fraction_by" (defArgs (top 10)) (defBody (top 10)) (defScope (top 10)) [] [] f fd ∧ mg "is_fraction_by" = some (.ref f)
  f_whole : ∃ f fd, FunD K "whole" "whole" (defArgs (top 11)) (defBody (top 11)) (defScope (top 11)) [] [] f fd ∧ mg "whole" = some (.ref f)
  f_sum_of : ∃ f fd, FunD K "sum_of" "sum_of" (defArgs (top 12)) (defBody (top 12)) (defScope (top 12)) [] [] f fd ∧ mg "sum_of" = some (.ref f)
  f_times : ∃ f fd, FunD K "times" "times" (defArgs (top 13)) (defBody (top 13)) (defScope (top 13)) [] [] f fd ∧ mg "times" = some (.ref f)
  f_check_many : ∃ f fd, FunD K "check_many" "check_many" (defArgs (top 16)) (defBody (top 16)) (defScope (top 16)) [] [] f fd ∧ mg "check_many" = some (.ref f)
  f_is_row : ∃ f fd, FunD K "is_row" "is_row" (defArgs (top 24)) (defBody (top 24)) (defScope (top 24)) [] [] f fd ∧ mg "is_row" = some (.ref f)
  f_are_rows_by : ∃ f fd, FunD K "are_rows_by" "are_rows_by" (defArgs (top 25)) (defBody (top 25)) (defScope (top 25)) [] [] f fd ∧ mg "are_rows_by" = some (.ref f)
  f_is_multiple : ∃ f fd, FunD K "is_multiple" "is_multiple" (defArgs (top 26)) (defBody (top 26)) (defScope (top 26)) [] [] f fd ∧ mg "is_multiple" = some (.ref f)
  f_are_multiples : ∃ f fd, FunD K "are_multiples" "are_multiples" (defArgs (top 27)) (defBody (top 27)) (defScope (top 27)) [] [] f fd ∧ mg "are_multiples" = some (.ref f)
  f_added_up : ∃ f fd, FunD K "added_up" "added_up" (defArgs (top 28)) (defBody (top 28)) (defScope (top 28)) [] [] f fd ∧ mg "added_up" = some (.ref f)
  f_do_bar_by : ∃ f fd, FunD K "do_bar_by" "do_bar_by" (defArgs (top 29)) (defBody (top 29)) (defScope (top 29)) [] [] f fd ∧ mg "do_bar_by" = some (.ref f)
  f_check_rows : ∃ f fd, FunD K "check_rows" "check_rows" (defArgs (top 31)) (defBody (top 31)) (defScope (top 31)) [] [] f fd ∧ mg "check_rows" = some (.ref f)
  f_do_bar : ∃ f fd, FunD K "do_bar" "do_bar" (defArgs (top 32)) (defBody (top 32)) (defScope (top 32)) [] [] f fd ∧ mg "do_bar" = some (.ref f)
  f__law_well : ∃ f fd, FunD K "_law_well" "_law_well" (defArgs (top 34)) (defBody (top 34)) (defScope (top 34)) [] [] f fd ∧ mg "_law_well" = some (.ref f)
  f__law_take : ∃ f fd, FunD K "_law_take" "_law_take" (defArgs (top 35)) (defBody (top 35)) (defScope (top 35)) [] [] f fd ∧ mg "_law_take" = some (.ref f)
  f__law_says : ∃ f fd, FunD K "_law_says" "_law_says" (defArgs (top 36)) (defBody (top 36)) (defScope (top 36)) [] [] f fd ∧ mg "_law_says" = some (.ref f)
  f__law_whole : ∃ f fd, FunD K "_law_whole" "_law_whole" (defArgs (top 37)) (defBody (top 37)) (defScope (top 37)) [] [] f fd ∧ mg "_law_whole" = some (.ref f)
  f__law_part_of : ∃ f fd, FunD K "_law_part_of" "_law_part_of" (defArgs (top 38)) (defBody (top 38)) (defScope (top 38)) [] [] f fd ∧ mg "_law_part_of" = some (.ref f)
  f__law_plus : ∃ f fd, FunD K "_law_plus" "_law_plus" (defArgs (top 39)) (defBody (top 39)) (defScope (top 39)) [] [] f fd ∧ mg "_law_plus" = some (.ref f)
  f__law_times : ∃ f fd, FunD K "_law_times" "_law_times" (defArgs (top 40)) (defBody (top 40)) (defScope (top 40)) [] [] f fd ∧ mg "_law_times" = some (.ref f)
  f__law_over : ∃ f fd, FunD K "_law_over" "_law_over" (defArgs (top 41)) (defBody (top 41)) (defScope (top 41)) [] [] f fd ∧ mg "_law_over" = some (.ref f)
  f__law_is_part : ∃ f fd, FunD K "_law_is_part" "_law_is_part" (defArgs (top 42)) (defBody (top 42)) (defScope (top 42)) [] [] f fd ∧ mg "_law_is_part" = some (.ref f)
  f__law_line_plus : ∃ f fd, FunD K "_law_line_plus" "_law_line_plus" (defArgs (top 43)) (defBody (top 43)) (defScope (top 43)) [] [] f fd ∧ mg "_law_line_plus" = some (.ref f)
  f__law_alone : ∃ f fd, FunD K "_law_alone" "_law_alone" (defArgs (top 44)) (defBody (top 44)) (defScope (top 44)) [] [] f fd ∧ mg "_law_alone" = some (.ref f)
  f__law_sign : ∃ f fd, FunD K "_law_sign" "_law_sign" (defArgs (top 45)) (defBody (top 45)) (defScope (top 45)) [] [] f fd ∧ mg "_law_sign" = some (.ref f)
  f__law_as_line : ∃ f fd, FunD K "_law_as_line" "_law_as_line" (defArgs (top 46)) (defBody (top 46)) (defScope (top 46)) [] [] f fd ∧ mg "_law_as_line" = some (.ref f)
  f__law_without : ∃ f fd, FunD K "_law_without" "_law_without" (defArgs (top 47)) (defBody (top 47)) (defScope (top 47)) [] [] f fd ∧ mg "_law_without" = some (.ref f)
  f__law_as_rows : ∃ f fd, FunD K "_law_as_rows" "_law_as_rows" (defArgs (top 48)) (defBody (top 48)) (defScope (top 48)) [] [] f fd ∧ mg "_law_as_rows" = some (.ref f)
  f__law_bars : ∃ f fd, FunD K "_law_bars" "_law_bars" (defArgs (top 49)) (defBody (top 49)) (defScope (top 49)) [] [] f fd ∧ mg "_law_bars" = some (.ref f)
  f__law_do_bar : ∃ f fd, FunD K "_law_do_bar" "_law_do_bar" (defArgs (top 50)) (defBody (top 50)) (defScope (top 50)) [] [] f fd ∧ mg "_law_do_bar" = some (.ref f)
  f__law_of : ∃ f fd, FunD K "_law_of" "_law_of" (defArgs (top 51)) (defBody (top 51)) (defScope (top 51)) [] [] f fd ∧ mg "_law_of" = some (.ref f)
  f__law_drawn_rows : ∃ f fd, FunD K "_law_drawn_rows" "_law_drawn_rows" (defArgs (top 52)) (defBody (top 52)) (defScope (top 52)) [] [] f fd ∧ mg "_law_drawn_rows" = some (.ref f)
  f__law_rows_of : ∃ f fd, FunD K "_law_rows_of" "_law_rows_of" (defArgs (top 53)) (defBody (top 53)) (defScope (top 53)) [] [] f fd ∧ mg "_law_rows_of" = some (.ref f)
  f__law_near : ∃ f fd, FunD K "_law_near" "_law_near" (defArgs (top 54)) (defBody (top 54)) (defScope (top 54)) [] [] f fd ∧ mg "_law_near" = some (.ref f)
  f__law_right : ∃ f fd, FunD K "_law_right" "_law_right" (defArgs (top 55)) (defBody (top 55)) (defScope (top 55)) [] [] f fd ∧ mg "_law_right" = some (.ref f)
  f_law : ∃ f fd, FunD K "law" "law" (defArgs (top 56)) (defBody (top 56)) (defScope (top 56)) [] [] f fd ∧ mg "law" = some (.ref f)
  m_abs : mg "abs" = none
  m_all : mg "all" = none
  m_any : mg "any" = none
  m_bool : mg "bool" = none
  m_divmod : mg "divmod" = none
  m_enumerate : mg "enumerate" = none
  m_gcd : mg "gcd" = some (.builtin "math.gcd")
  m_int : mg "int" = none
  m_isinstance : mg "isinstance" = none
  m_len : mg "len" = none
  m_list : mg "list" = none
  m_max : mg "max" = none
  m_min : mg "min" = none
  m_range : mg "range" = none
  m_str : mg "str" = none
  m_sum : mg "sum" = none
  m_tuple : mg "tuple" = none
  m_zip : mg "zip" = none
  k_AT_MOST : ∃ u v, mg "AT_MOST" = some u ∧ RelV v u ∧ ∀ lv H, RP K lv H K_AT_MOST v
  k_BELOW : ∃ u v, mg "BELOW" = some u ∧ RelV v u ∧ ∀ lv H, RP K lv H K_BELOW v
  k_EQUAL : ∃ u v, mg "EQUAL" = some u ∧ RelV v u ∧ ∀ lv H, RP K lv H K_EQUAL v
  k_MOST_NUMBERS : ∃ u v, mg "MOST_NUMBERS" = some u ∧ RelV v u ∧ ∀ lv H, RP K lv H K_MOST_NUMBERS v
  k_MOST_ROWS : ∃ u v, mg "MOST_ROWS" = some u ∧ RelV v u ∧ ∀ lv H, RP K lv H K_MOST_ROWS v
  k_NOUGHT : ∃ u v, mg "NOUGHT" = some u ∧ RelV v u ∧ ∀ lv H, RP K lv H K_NOUGHT v
  k_SIGNS : ∃ u v, mg "SIGNS" = some u ∧ RelV v u ∧ ∀ lv H, RP K lv H K_SIGNS v
theorem Tb.kon {K : PySem.W.Frag} {mg : Str → Option Value} {x : Str} {d : D} (h : ∃ u v, mg x = some u ∧ RelV v u ∧ ∀ lv H, RP K lv H d v) {X : Cx} (e1 : X.mg = mg := by rfl) (e2 : X.K = K := by rfl) : Kon X x d := by
  subst e1 e2
  exact ⟨h⟩
section
variable {P : Program} {w : World} {K : PySem.W.Frag} {mg : Str → Option Value} {base : Heap}
abbrev N_is_whole : List Str := ["value"]
theorem nd_is_whole : (N_is_whole).Nodup := by decide +kernel
theorem sc_is_whole : FnScope N_is_whole ["value"] (defScope (top 6)) := ⟨rfl, rfl, rfl, by decide +kernel, rfl, by decide +kernel, by decide +kernel⟩
theorem db_is_whole (T : Tb P w K mg) (hx : Hx) (cdv : Value) (A : Around) (outer : List Env) (s : Shared) (H : Hp) (E : XK) (f : Addr) (hr : Room 0 (A.deeper (envOfC "is_whole" (defScope (top 6)) s.heap.objs.size f cdv))) : DB (cxF P w K mg base N_is_whole "is_whole" (defScope (top 6)) f cdv A outer s H E) hx (defBody (top 6)) b_is_whole := by
  have hu : (A.deeper (envOfC "is_whole" (defScope (top 6)) s.heap.objs.size f cdv)).units + 65 < cLine := by have := hr.un; omega
  have hu64 : (A.deeper (envOfC "is_whole" (defScope (top 6)) s.heap.objs.size f cdv)).units + 64 < cLine := by have := hr.un; omega
  exact db_one (ds_ret (d_and (d_callB cal_isi T.m_isinstance (da_cons (d_var 0) (da_cons (d_ty T.m_int) (da_nil)))) (d_one (d_not (d_callB cal_isi T.m_isinstance (da_cons (d_var 0) (da_cons (d_ty T.m_bool) (da_nil))))))))
theorem fo_is_whole (T : Tb P w K mg) {f : Addr} {fd : FuncData} (F : FunD K "is_whole" "is_whole" (defArgs (top 6)) (defBody (top 6)) (defScope (top 6)) [] [] f fd) : FnOk P w K mg base (L2.CX P w) 1 f fd ["value"] (spOf K F_is_whole) :=
  fn_ok F sc_is_whole fun hx cdv A outer s H E hr => db_is_whole T hx cdv A outer s H E f hr
theorem ok_is_whole (T : Tb P w K mg) : Fn P w K mg base "is_whole" 1 ["value"] F_is_whole := by
  obtain ⟨f, fd, F, hm⟩ := T.f_is_whole
  exact ⟨f, fd, hm, F.kp, F.bindsN fun _ _ _ _ _ _ us hl => match us, hl with | [_], _ => rfl, fo_is_whole T F⟩
abbrev N_is_between : List Str := ["value", "low", "high"]
theorem nd_is_between : (N_is_between).Nodup := by decide +kernel
theorem sc_is_between : FnScope N_is_between ["value", "low", "high"] (defScope (top 7)) := ⟨rfl, rfl, rfl, by decide +kernel, rfl, by decide +kernel, by decide +kernel⟩
theorem db_is_between (T : Tb P w K mg) (hx : Hx) (cdv : Value) (A : Around) (outer : List Env) (s : Shared) (H : Hp) (E : XK) (f : Addr) (hr : Room 1 (A.deeper (envOfC "is_between" (defScope (top 7)) s.heap.objs.size f cdv))) : DB (cxF P w K mg base N_is_between "is_between" (defScope (top 7)) f cdv A outer s H E) hx (defBody (top 7)) b_is_between := by
  have hu : (A.deeper (envOfC "is_between" (defScope (top 7)) s.heap.objs.size f cdv)).units + 65 < cLine := by have := hr.un; omega
  have hu64 : (A.deeper (envOfC "is_between" (defScope (top 7)) s.heap.objs.size f cdv)).units + 64 < cLine := by have := hr.un; omega
  exact db_one (ds_ret (d_and (d_call ((ok_is_whole T).mono (by omega)) hr (da_cons (d_var 0) (da_nil))) (d_one (d_chain od_le od_le (d_var 1) (d_var 0) (d_var 2)))))
theorem fo_is_between (T : Tb P w K mg) {f : Addr} {fd : FuncData} (F : FunD K "is_between" "is_between" (defArgs (top 7)) (defBody (top 7)) (defScope (top 7)) [] [] f fd) : FnOk P w K mg base (L2.CX P w) 2 f fd ["value", "low", "high"] (spOf K F_is_between) :=
  fn_ok F sc_is_between fun hx cdv A outer s H E hr => db_is_between T hx cdv A outer s H E f hr
theorem ok_is_between (T : Tb P w K mg) : Fn P w K mg base "is_between" 2 ["value", "low", "high"] F_is_between := by
  obtain ⟨f, fd, F, hm⟩ := T.f_is_between
  exact ⟨f, fd, hm, F.kp, F.bindsN fun _ _ _ _ _ _ us hl => match us, hl with | [_, _, _], _ => rfl, fo_is_between T F⟩
abbrev N_is_tuple_of : List Str := ["value", "many"]
theorem nd_is_tuple_of : (N_is_tuple_of).Nodup := by decide +kernel
theorem sc_is_tuple_of : FnScope N_is_tuple_of ["value", "many"] (defScope (top 8)) := ⟨rfl, rfl, rfl, by decide +kernel, rfl, by decide +kernel, by decide +kernel⟩
theorem db_is_tuple_of (T : Tb P w K mg) (hx : Hx) (cdv : Value) (A : Around) (outer : List Env) (s : Shared) (H : Hp) (E : XK) (f : Addr) (hr : Room 0 (A.deeper (envOfC "is_tuple_of" (defScope (top 8)) s.heap.objs.size f cdv))) : DB (cxF P w K mg base N_is_tuple_of "is_tuple_of" (defScope (top 8)) f cdv A outer s H E) hx (defBody (top 8)) b_is_tuple_of := by
  have hu : (A.deeper (envOfC "is_tuple_of" (defScope (top 8)) s.heap.objs.size f cdv)).units + 65 < cLine := by have := hr.un; omega
  have hu64 : (A.deeper (envOfC "is_tuple_of" (defScope (top 8)) s.heap.objs.size f cdv)).units + 64 < cLine := by have := hr.un; omega
  exact db_one (ds_ret (d_and (d_callB cal_isi T.m_isinstance (da_cons (d_var 0) (da_cons (d_ty T.m_tuple) (da_nil)))) (d_one (d_cmp (od_eq hu64) (d_callB cal_len T.m_len (da_cons (d_var 0) (da_nil))) (d_var 1)))))
theorem fo_is_tuple_of (T : Tb P w K mg) {f : Addr} {fd : FuncData} (F : FunD K "is_tuple_of" "is_tuple_of" (defArgs (top 8)) (defBody (top 8)) (defScope (top 8)) [] [] f fd) : FnOk P w K mg base (L2.CX P w) 1 f fd ["value", "many"] (spOf K F_is_tuple_of) :=
  fn_ok F sc_is_tuple_of fun hx cdv A outer s H E hr => db_is_tuple_of T hx cdv A outer s H E f hr
theorem ok_is_tuple_of (T : Tb P w K mg) : Fn P w K mg base "is_tuple_of" 1 ["value", "many"] F_is_tuple_of := by
  obtain ⟨f, fd, F, hm⟩ := T.f_is_tuple_of
  exact ⟨f, fd, hm, F.kp, F.bindsN fun _ _ _ _ _ _ us hl => match us, hl with | [_, _], _ => rfl, fo_is_tuple_of T F⟩
abbrev N_fraction : List Str := ["number", "under", "part"]
theorem nd_fraction : (N_fraction).Nodup := by decide +kernel
theorem sc_fraction : FnScope N_fraction ["number", "under"] (defScope (top 9)) := ⟨rfl, rfl, rfl, by decide +kernel, rfl, by decide +kernel, by decide +kernel⟩
theorem db_fraction (T : Tb P w K mg) (hx : Hx) (cdv : Value) (A : Around) (outer : List Env) (s : Shared) (H : Hp) (E : XK) (f : Addr) (hr : Room 0 (A.deeper (envOfC "fraction" (defScope (top 9)) s.heap.objs.size f cdv))) : DB (cxF P w K mg base N_fraction "fraction" (defScope (top 9)) f cdv A outer s H E) hx (defBody (top 9)) b_fraction := by
  have hu : (A.deeper (envOfC "fraction" (defScope (top 9)) s.heap.objs.size f cdv)).units + 65 < cLine := by have := hr.un; omega
  have hu64 : (A.deeper (envOfC "fraction" (defScope (top 9)) s.heap.objs.size f cdv)).units + 64 < cLine := by have := hr.un; omega
  exact db_cons (ds_set nd_fraction (d_bin od_mulT (d_callG cal_gcd T.m_gcd (da_cons (d_var 0) (da_cons (d_var 1) (da_nil)))) (d_if (dt_cmp od_gt (d_var 1) (d_int)) (d_int) (d_neg (d_int)))))
      (db_one (ds_ret (d_tup (da_cons (d_bin od_fdiv (d_var 0) (d_var 2)) (da_cons (d_bin od_fdiv (d_var 1) (d_var 2)) (da_nil))))))
theorem fo_fraction (T : Tb P w K mg) {f : Addr} {fd : FuncData} (F : FunD K "fraction" "fraction" (defArgs (top 9)) (defBody (top 9)) (defScope (top 9)) [] [] f fd) : FnOk P w K mg base (L2.CX P w) 1 f fd ["number", "under"] (spOf K F_fraction) :=
  fn_ok F sc_fraction fun hx cdv A outer s H E hr => db_fraction T hx cdv A outer s H E f hr
theorem ok_fraction (T : Tb P w K mg) : Fn P w K mg base "fraction" 1 ["number", "under"] F_fraction := by
  obtain ⟨f, fd, F, hm⟩ := T.f_fraction
  exact ⟨f, fd, hm, F.kp, F.bindsN fun _ _ _ _ _ _ us hl => match us, hl with | [_, _], _ => rfl, fo_fraction T F⟩
abbrev N_is_fraction_by : List Str := ["value"]
theorem nd_is_fraction_by : (N_is_fraction_by).Nodup := by decide +kernel
theorem sc_is_fraction_by : FnScope N_is_fraction_by ["value"] (defScope (top 10)) := ⟨rfl, rfl, rfl, by decide +kernel, rfl, by decide +kernel, by decide +kernel⟩
theorem db_is_fraction_by (T : Tb P w K mg) (hx : Hx) (cdv : Value) (A : Around) (outer : List Env) (s : Shared) (H : Hp) (E : XK) (f : Addr) (hr : Room 1 (A.deeper (envOfC "is_fraction_by" (defScope (top 10)) s.heap.objs.size f cdv))) : DB (cxF P w K mg base N_is_fraction_by "is_fraction_by" (defScope (top 10)) f cdv A outer s H E) hx (defBody (top 10)) b_is_fraction_by := by
  have hu : (A.deeper (envOfC "is_fraction_by" (defScope (top 10)) s.heap.objs.size f cdv)).units + 65 < cLine := by have := hr.un; omega
  have hu64 : (A.deeper (envOfC "is_fraction_by" (defScope (top 10)) s.heap.objs.size f cdv)).units + 64 < cLine := by have := hr.un; omega
  exact db_cons (ds_if (DW.dt (dw_or (dt_not (dt_tru (d_call ((ok_is_tuple_of T).mono (by omega)) hr (da_cons (d_var 0) (da_cons (d_int) (da_nil)))))) (dw_or (dt_not (dt_tru (d_call ((ok_is_whole T).mono (by omega)) hr (da_cons (d_ix hu (d_var 0) (d_int)) (da_nil))))) (dw_or (dt_not (dt_tru (d_call ((ok_is_whole T).mono (by omega)) hr (da_cons (d_ix hu (d_var 0) (d_int)) (da_nil))))) (dw_or1 (dt_cmp od_le (d_ix hu (d_var 0) (d_int)) (d_int)))))))
      (db_one (ds_ret (d_bl)))
      (db_nil))
      (db_one (ds_ret (d_cmp (od_eq hu64) (d_callG cal_gcd T.m_gcd (da_cons (d_ix hu (d_var 0) (d_int)) (da_cons (d_ix hu (d_var 0) (d_int)) (da_nil)))) (d_int))))
theorem fo_is_fraction_by (T : Tb P w K mg) {f : Addr} {fd : FuncData} (F : FunD K "is_fraction_by" "is_fraction_by" (defArgs (top 10)) (defBody (top 10)) (defScope (top 10)) [] [] f fd) : FnOk P w K mg base (L2.CX P w) 2 f fd ["value"] (spOf K F_is_fraction_by) :=
  fn_ok F sc_is_fraction_by fun hx cdv A outer s H E hr => db_is_fraction_by T hx cdv A outer s H E f hr
theorem ok_is_fraction_by (T : Tb P w K mg) : Fn P w K mg base "is_fraction_by" 2 ["value"] F_is_fraction_by := by
  obtain ⟨f, fd, F, hm⟩ := T.f_is_fraction_by
  exact ⟨f, fd, hm, F.kp, F.bindsN fun _ _ _ _ _ _ us hl => match us, hl with | [_], _ => rfl, fo_is_fraction_by T F⟩
abbrev N_whole : List Str := ["number"]
theorem nd_whole : (N_whole).Nodup := by decide +kernel
theorem sc_whole : FnScope N_whole ["number"] (defScope (top 11)) := ⟨rfl, rfl, rfl, by decide +kernel, rfl, by decide +kernel, by decide +kernel⟩
theorem db_whole (T : Tb P w K mg) (hx : Hx) (cdv : Value) (A : Around) (outer : List Env) (s : Shared) (H : Hp) (E : XK) (f : Addr) (hr : Room 0 (A.deeper (envOfC "whole" (defScope (top 11)) s.heap.objs.size f cdv))) : DB (cxF P w K mg base N_whole "whole" (defScope (top 11)) f cdv A outer s H E) hx (defBody (top 11)) b_whole := by
  have hu : (A.deeper (envOfC "whole" (defScope (top 11)) s.heap.objs.size f cdv)).units + 65 < cLine := by have := hr.un; omega
  have hu64 : (A.deeper (envOfC "whole" (defScope (top 11)) s.heap.objs.size f cdv)).units + 64 < cLine := by have := hr.un; omega
  exact db_one (ds_ret (d_tup (da_cons (d_var 0) (da_cons (d_int) (da_nil)))))
theorem fo_whole (T : Tb P w K mg) {f : Addr} {fd : FuncData} (F : FunD K "whole" "whole" (defArgs (top 11)) (defBody (top 11)) (defScope (top 11)) [] [] f fd) : FnOk P w K mg base (L2.CX P w) 1 f fd ["number"] (spOf K F_whole) :=
  fn_ok F sc_whole fun hx cdv A outer s H E hr => db_whole T hx cdv A outer s H E f hr
theorem ok_whole (T : Tb P w K mg) : Fn P w K mg base "whole" 1 ["number"] F_whole := by
  obtain ⟨f, fd, F, hm⟩ := T.f_whole
  exact ⟨f, fd, hm, F.kp, F.bindsN fun _ _ _ _ _ _ us hl => match us, hl with | [_], _ => rfl, fo_whole T F⟩
abbrev N_sum_of : List Str := ["one", "two"]
theorem nd_sum_of : (N_sum_of).Nodup := by decide +kernel
theorem sc_sum_of : FnScope N_sum_of ["one", "two"] (defScope (top 12)) := ⟨rfl, rfl, rfl, by decide +kernel, rfl, by decide +kernel, by decide +kernel⟩
theorem db_sum_of (T : Tb P w K mg) (hx : Hx) (cdv : Value) (A : Around) (outer : List Env) (s : Shared) (H : Hp) (E : XK) (f : Addr) (hr : Room 1 (A.deeper (envOfC "sum_of" (defScope (top 12)) s.heap.objs.size f cdv))) : DB (cxF P w K mg base N_sum_of "sum_of" (defScope (top 12)) f cdv A outer s H E) hx (defBody (top 12)) b_sum_of := by
  have hu : (A.deeper (envOfC "sum_of" (defScope (top 12)) s.heap.objs.size f cdv)).units + 65 < cLine := by have := hr.un; omega
  have hu64 : (A.deeper (envOfC "sum_of" (defScope (top 12)) s.heap.objs.size f cdv)).units + 64 < cLine := by have := hr.un; omega
  exact db_one (ds_ret (d_call ((ok_fraction T).mono (by omega)) hr (da_cons (d_bin od_add (d_bin od_mulT (d_ix hu (d_var 0) (d_int)) (d_ix hu (d_var 1) (d_int))) (d_bin od_mulT (d_ix hu (d_var 1) (d_int)) (d_ix hu (d_var 0) (d_int)))) (da_cons (d_bin od_mulT (d_ix hu (d_var 0) (d_int)) (d_ix hu (d_var 1) (d_int))) (da_nil)))))
theorem fo_sum_of (T : Tb P w K mg) {f : Addr} {fd : FuncData} (F : FunD K "sum_of" "sum_of" (defArgs (top 12)) (defBody (top 12)) (defScope (top 12)) [] [] f fd) : FnOk P w K mg base (L2.CX P w) 2 f fd ["one", "two"] (spOf K F_sum_of) :=
  fn_ok F sc_sum_of fun hx cdv A outer s H E hr => db_sum_of T hx cdv A outer s H E f hr
theorem ok_sum_of (T : Tb P w K mg) : Fn P w K mg base "sum_of" 2 ["one", "two"] F_sum_of := by
  obtain ⟨f, fd, F, hm⟩ := T.f_sum_of
  exact ⟨f, fd, hm, F.kp, F.bindsN fun _ _ _ _ _ _ us hl => match us, hl with | [_, _], _ => rfl, fo_sum_of T F⟩
abbrev N_times : List Str := ["one", "two"]
theorem nd_times : (N_times).Nodup := by decide +kernel
theorem sc_times : FnScope N_times ["one", "two"] (defScope (top 13)) := ⟨rfl, rfl, rfl, by decide +kernel, rfl, by decide +kernel, by decide +kernel⟩
theorem db_times (T : Tb P w K mg) (hx : Hx) (cdv : Value) (A : Around) (outer : List Env) (s : Shared) (H : Hp) (E : XK) (f : Addr) (hr : Room 1 (A.deeper (envOfC "times" (defScope (top 13)) s.heap.objs.size f cdv))) : DB (cxF P w K mg base N_times "times" (defScope (top 13)) f cdv A outer s H E) hx (defBody (top 13)) b_times := by
  have hu : (A.deeper (envOfC "times" (defScope (top 13)) s.heap.objs.size f cdv)).units + 65 < cLine := by have := hr.un; omega
  have hu64 : (A.deeper (envOfC "times" (defScope (top 13)) s.heap.objs.size f cdv)).units + 64 < cLine := by have := hr.un; omega
  exact db_one (ds_ret (d_call ((ok_fraction T).mono (by omega)) hr (da_cons (d_bin od_mulT (d_ix hu (d_var 0) (d_int)) (d_ix hu (d_var 1) (d_int))) (da_cons (d_bin od_mulT (d_ix hu (d_var 0) (d_int)) (d_ix hu (d_var 1) (d_int))) (da_nil)))))
theorem fo_times (T : Tb P w K mg) {f : Addr} {fd : FuncData} (F : FunD K "times" "times" (defArgs (top 13)) (defBody (top 13)) (defScope (top 13)) [] [] f fd) : FnOk P w K mg base (L2.CX P w) 2 f fd ["one", "two"] (spOf K F_times) :=
  fn_ok F sc_times fun hx cdv A outer s H E hr => db_times T hx cdv A outer s H E f hr
theorem ok_times (T : Tb P w K mg) : Fn P w K mg base "times" 2 ["one", "two"] F_times := by
  obtain ⟨f, fd, F, hm⟩ := T.f_times
  exact ⟨f, fd, hm, F.kp, F.bindsN fun _ _ _ _ _ _ us hl => match us, hl with | [_, _], _ => rfl, fo_times T F⟩
abbrev N_check_many : List Str := ["many"]
theorem nd_check_many : (N_check_many).Nodup := by decide +kernel
theorem sc_check_many : FnScope N_check_many ["many"] (defScope (top 16)) := ⟨rfl, rfl, rfl, by decide +kernel, rfl, by decide +kernel, by decide +kernel⟩
theorem db_check_many (T : Tb P w K mg) (hx : Hx) (cdv : Value) (A : Around) (outer : List Env) (s : Shared) (H : Hp) (E : XK) (f : Addr) (hr : Room 2 (A.deeper (envOfC "check_many" (defScope (top 16)) s.heap.objs.size f cdv))) : DB (cxF P w K mg base N_check_many "check_many" (defScope (top 16)) f cdv A outer s H E) hx (defBody (top 16)) b_check_many := by
  have hu : (A.deeper (envOfC "check_many" (defScope (top 16)) s.heap.objs.size f cdv)).units + 65 < cLine := by have := hr.un; omega
  have hu64 : (A.deeper (envOfC "check_many" (defScope (top 16)) s.heap.objs.size f cdv)).units + 64 < cLine := by have := hr.un; omega
  exact db_one (ds_if (dt_not (dt_tru (d_call ((ok_is_between T).mono (by omega)) hr (da_cons (d_var 0) (da_cons (d_int) (da_cons (d_glob (Tb.kon T.k_MOST_NUMBERS)) (da_nil)))))))
      (db_one (ds_never))
      (db_nil))
theorem fo_check_many (T : Tb P w K mg) {f : Addr} {fd : FuncData} (F : FunD K "check_many" "check_many" (defArgs (top 16)) (defBody (top 16)) (defScope (top 16)) [] [] f fd) : FnOk P w K mg base (L2.CX P w) 3 f fd ["many"] (spOf K F_check_many) :=
  fn_ok F sc_check_many fun hx cdv A outer s H E hr => db_check_many T hx cdv A outer s H E f hr
theorem ok_check_many (T : Tb P w K mg) : Fn P w K mg base "check_many" 3 ["many"] F_check_many := by
  obtain ⟨f, fd, F, hm⟩ := T.f_check_many
  exact ⟨f, fd, hm, F.kp, F.bindsN fun _ _ _ _ _ _ us hl => match us, hl with | [_], _ => rfl, fo_check_many T F⟩
abbrev N_is_row : List Str := ["many", "value", "number"]
theorem nd_is_row : (N_is_row).Nodup := by decide +kernel
theorem sc_is_row : FnScope N_is_row ["many", "value"] (defScope (top 24)) := ⟨rfl, rfl, rfl, by decide +kernel, rfl, by decide +kernel, by decide +kernel⟩
theorem db_is_row (T : Tb P w K mg) (hx : Hx) (cdv : Value) (A : Around) (outer : List Env) (s : Shared) (H : Hp) (E : XK) (f : Addr) (hr : Room 1 (A.deeper (envOfC "is_row" (defScope (top 24)) s.heap.objs.size f cdv))) : DB (cxF P w K mg base N_is_row "is_row" (defScope (top 24)) f cdv A outer s H E) hx (defBody (top 24)) b_is_row := by
  have hu : (A.deeper (envOfC "is_row" (defScope (top 24)) s.heap.objs.size f cdv)).units + 65 < cLine := by have := hr.un; omega
  have hu64 : (A.deeper (envOfC "is_row" (defScope (top 24)) s.heap.objs.size f cdv)).units + 64 < cLine := by have := hr.un; omega
  exact db_cons (ds_if (DW.dt (dw_or (dt_not (dt_tru (d_call ((ok_is_tuple_of T).mono (by omega)) hr (da_cons (d_var 1) (da_cons (d_int) (da_nil)))))) (dw_or (dt_not (dt_tru (d_call ((ok_is_tuple_of T).mono (by omega)) hr (da_cons (d_ix hu (d_var 1) (d_int)) (da_cons (d_bin od_add (d_var 0) (d_int)) (da_nil)))))) (dw_or1 (dt_not (dt_tru (d_callB cal_isi T.m_isinstance (da_cons (d_ix hu (d_var 1) (d_int)) (da_cons (d_ty T.m_str) (da_nil))))))))))
      (db_one (ds_ret (d_bl)))
      (db_nil))
      (db_one (ds_ret (d_and (d_callB (cal_all rfl) T.m_all (da_cons (d_lcG finV_ok rfl nd_is_row [("number", 2)] (di_val (d_ix hu (d_var 1) (d_int))) (blkOk_by (by kernel_rfl)) (by decide) (fun _ _ _ _ _ => dg_name nd_is_row) (fun _ _ _ _ _ => dts_nil) (fun _ _ _ _ _ => d_call ((ok_is_whole T).mono (by omega)) hr (da_cons (d_var 2) (da_nil)))) (da_nil))) (d_one (d_cmp (od_in hu) (d_ix hu (d_var 1) (d_int)) (d_glob (Tb.kon T.k_SIGNS)))))))
theorem fo_is_row (T : Tb P w K mg) {f : Addr} {fd : FuncData} (F : FunD K "is_row" "is_row" (defArgs (top 24)) (defBody (top 24)) (defScope (top 24)) [] [] f fd) : FnOk P w K mg base (L2.CX P w) 2 f fd ["many", "value"] (spOf K F_is_row) :=
  fn_ok F sc_is_row fun hx cdv A outer s H E hr => db_is_row T hx cdv A outer s H E f hr
theorem ok_is_row (T : Tb P w K mg) : Fn P w K mg base "is_row" 2 ["many", "value"] F_is_row := by
  obtain ⟨f, fd, F, hm⟩ := T.f_is_row
  exact ⟨f, fd, hm, F.kp, F.bindsN fun _ _ _ _ _ _ us hl => match us, hl with | [_, _], _ => rfl, fo_is_row T F⟩
abbrev N_are_rows_by : List Str := ["many", "value", "row"]
theorem nd_are_rows_by : (N_are_rows_by).Nodup := by decide +kernel
theorem sc_are_rows_by : FnScope N_are_rows_by ["many", "value"] (defScope (top 25)) := ⟨rfl, rfl, rfl, by decide +kernel, rfl, by decide +kernel, by decide +kernel⟩
theorem db_are_rows_by (T : Tb P w K mg) (hx : Hx) (cdv : Value) (A : Around) (outer : List Env) (s : Shared) (H : Hp) (E : XK) (f : Addr) (hr : Room 2 (A.deeper (envOfC "are_rows_by" (defScope (top 25)) s.heap.objs.size f cdv))) : DB (cxF P w K mg base N_are_rows_by "are_rows_by" (defScope (top 25)) f cdv A outer s H E) hx (defBody (top 25)) b_are_rows_by := by
  have hu : (A.deeper (envOfC "are_rows_by" (defScope (top 25)) s.heap.objs.size f cdv)).units + 65 < cLine := by have := hr.un; omega
  have hu64 : (A.deeper (envOfC "are_rows_by" (defScope (top 25)) s.heap.objs.size f cdv)).units + 64 < cLine := by have := hr.un; omega
  exact db_one (ds_ret (d_and (d_callB cal_isi T.m_isinstance (da_cons (d_var 1) (da_cons (d_ty T.m_tuple) (da_nil)))) (d_and (d_cmp od_le (d_callB cal_len T.m_len (da_cons (d_var 1) (da_nil))) (d_glob (Tb.kon T.k_MOST_ROWS))) (d_one (d_callB (cal_all rfl) T.m_all (da_cons (d_lcG finV_ok rfl nd_are_rows_by [("row", 2)] (di_val (d_var 1)) (blkOk_by (by kernel_rfl)) (by decide) (fun _ _ _ _ _ => dg_name nd_are_rows_by) (fun _ _ _ _ _ => dts_nil) (fun _ _ _ _ _ => d_call ((ok_is_row T).mono (by omega)) hr (da_cons (d_var 0) (da_cons (d_var 2) (da_nil))))) (da_nil)))))))
theorem fo_are_rows_by (T : Tb P w K mg) {f : Addr} {fd : FuncData} (F : FunD K "are_rows_by" "are_rows_by" (defArgs (top 25)) (defBody (top 25)) (defScope (top 25)) [] [] f fd) : FnOk P w K mg base (L2.CX P w) 3 f fd ["many", "value"] (spOf K F_are_rows_by) :=
  fn_ok F sc_are_rows_by fun hx cdv A outer s H E hr => db_are_rows_by T hx cdv A outer s H E f hr
theorem ok_are_rows_by (T : Tb P w K mg) : Fn P w K mg base "are_rows_by" 3 ["many", "value"] F_are_rows_by := by
  obtain ⟨f, fd, F, hm⟩ := T.f_are_rows_by
  exact ⟨f, fd, hm, F.kp, F.bindsN fun _ _ _ _ _ _ us hl => match us, hl with | [_, _], _ => rfl, fo_are_rows_by T F⟩
abbrev N_is_multiple : List Str := ["row", "value"]
theorem nd_is_multiple : (N_is_multiple).Nodup := by decide +kernel
theorem sc_is_multiple : FnScope N_is_multiple ["row", "value"] (defScope (top 26)) := ⟨rfl, rfl, rfl, by decide +kernel, rfl, by decide +kernel, by decide +kernel⟩
theorem db_is_multiple (T : Tb P w K mg) (hx : Hx) (cdv : Value) (A : Around) (outer : List Env) (s : Shared) (H : Hp) (E : XK) (f : Addr) (hr : Room 2 (A.deeper (envOfC "is_multiple" (defScope (top 26)) s.heap.objs.size f cdv))) : DB (cxF P w K mg base N_is_multiple "is_multiple" (defScope (top 26)) f cdv A outer s H E) hx (defBody (top 26)) b_is_multiple := by
  have hu : (A.deeper (envOfC "is_multiple" (defScope (top 26)) s.heap.objs.size f cdv)).units + 65 < cLine := by have := hr.un; omega
  have hu64 : (A.deeper (envOfC "is_multiple" (defScope (top 26)) s.heap.objs.size f cdv)).units + 64 < cLine := by have := hr.un; omega
  exact db_one (ds_ret (d_and (d_call ((ok_is_fraction_by T).mono (by omega)) hr (da_cons (d_var 1) (da_nil))) (d_one (d_or (d_cmp (od_eq hu64) (d_ix hu (d_var 0) (d_int)) (d_glob (Tb.kon T.k_EQUAL))) (d_one (d_cmp od_ge (d_ix hu (d_var 1) (d_int)) (d_int)))))))
theorem fo_is_multiple (T : Tb P w K mg) {f : Addr} {fd : FuncData} (F : FunD K "is_multiple" "is_multiple" (defArgs (top 26)) (defBody (top 26)) (defScope (top 26)) [] [] f fd) : FnOk P w K mg base (L2.CX P w) 3 f fd ["row", "value"] (spOf K F_is_multiple) :=
  fn_ok F sc_is_multiple fun hx cdv A outer s H E hr => db_is_multiple T hx cdv A outer s H E f hr
theorem ok_is_multiple (T : Tb P w K mg) : Fn P w K mg base "is_multiple" 3 ["row", "value"] F_is_multiple := by
  obtain ⟨f, fd, F, hm⟩ := T.f_is_multiple
  exact ⟨f, fd, hm, F.kp, F.bindsN fun _ _ _ _ _ _ us hl => match us, hl with | [_, _], _ => rfl, fo_is_multiple T F⟩
abbrev N_are_multiples : List Str := ["rows", "value", "row", "each"]
theorem nd_are_multiples : (N_are_multiples).Nodup := by decide +kernel
theorem sc_are_multiples : FnScope N_are_multiples ["rows", "value"] (defScope (top 27)) := ⟨rfl, rfl, rfl, by decide +kernel, rfl, by decide +kernel, by decide +kernel⟩
theorem db_are_multiples (T : Tb P w K mg) (hx : Hx) (cdv : Value) (A : Around) (outer : List Env) (s : Shared) (H : Hp) (E : XK) (f : Addr) (hr : Room 3 (A.deeper (envOfC "are_multiples" (defScope (top 27)) s.heap.objs.size f cdv))) : DB (cxF P w K mg base N_are_multiples "are_multiples" (defScope (top 27)) f cdv A outer s H E) hx (defBody (top 27)) b_are_multiples := by
  have hu : (A.deeper (envOfC "are_multiples" (defScope (top 27)) s.heap.objs.size f cdv)).units + 65 < cLine := by have := hr.un; omega
  have hu64 : (A.deeper (envOfC "are_multiples" (defScope (top 27)) s.heap.objs.size f cdv)).units + 64 < cLine := by have := hr.un; omega
  exact db_one (ds_ret (d_and (d_call ((ok_is_tuple_of T).mono (by omega)) hr (da_cons (d_var 1) (da_cons (d_callB cal_len T.m_len (da_cons (d_var 0) (da_nil))) (da_nil)))) (d_one (d_callB (cal_all rfl) T.m_all (da_cons (d_lcG finV_ok rfl nd_are_multiples [("row", 2), ("each", 3)] (di_zipX T.m_zip (da_cons (d_var 0) (da_cons (d_var 1) (da_nil)))) (blkOk_by (by kernel_rfl)) (by decide) (fun _ _ _ _ _ => dg_tup rfl (dgs_cons (dg_name nd_are_multiples) (dgs_cons (dg_name nd_are_multiples) (dgs_nil)))) (fun _ _ _ _ _ => dts_nil) (fun _ _ _ _ _ => d_call ((ok_is_multiple T).mono (by omega)) hr (da_cons (d_var 2) (da_cons (d_var 3) (da_nil))))) (da_nil))))))
theorem fo_are_multiples (T : Tb P w K mg) {f : Addr} {fd : FuncData} (F : FunD K "are_multiples" "are_multiples" (defArgs (top 27)) (defBody (top 27)) (defScope (top 27)) [] [] f fd) : FnOk P w K mg base (L2.CX P w) 4 f fd ["rows", "value"] (spOf K F_are_multiples) :=
  fn_ok F sc_are_multiples fun hx cdv A outer s H E hr => db_are_multiples T hx cdv A outer s H E f hr
theorem ok_are_multiples (T : Tb P w K mg) : Fn P w K mg base "are_multiples" 4 ["rows", "value"] F_are_multiples := by
  obtain ⟨f, fd, F, hm⟩ := T.f_are_multiples
  exact ⟨f, fd, hm, F.kp, F.bindsN fun _ _ _ _ _ _ us hl => match us, hl with | [_, _], _ => rfl, fo_are_multiples T F⟩
abbrev N_added_up : List Str := ["rows", "many", "multiples", "found", "_", "row", "multiple", "here", "number"]
theorem nd_added_up : (N_added_up).Nodup := by decide +kernel
theorem sc_added_up : FnScope N_added_up ["rows", "many", "multiples"] (defScope (top 28)) := ⟨rfl, rfl, rfl, by decide +kernel, rfl, by decide +kernel, by decide +kernel⟩
theorem db_added_up (T : Tb P w K mg) (hx : Hx) (cdv : Value) (A : Around) (outer : List Env) (s : Shared) (H : Hp) (E : XK) (f : Addr) (hr : Room 2 (A.deeper (envOfC "added_up" (defScope (top 28)) s.heap.objs.size f cdv))) : DB (cxF P w K mg base N_added_up "added_up" (defScope (top 28)) f cdv A outer s H E) hx (defBody (top 28)) b_added_up := by
  have hu : (A.deeper (envOfC "added_up" (defScope (top 28)) s.heap.objs.size f cdv)).units + 65 < cLine := by have := hr.un; omega
  have hu64 : (A.deeper (envOfC "added_up" (defScope (top 28)) s.heap.objs.size f cdv)).units + 64 < cLine := by have := hr.un; omega
  exact db_cons (ds_setLcG finV_ok rfl nd_added_up [("_", 4)] (di_rng1 T.m_range (da_cons (d_bin od_add (d_var 1) (d_int)) (da_nil))) (blkOk_by (by kernel_rfl)) (by decide) (fun _ _ _ _ _ => dg_name nd_added_up) (fun _ _ _ _ _ => dts_nil) (fun _ _ _ _ _ => d_glob (Tb.kon T.k_NOUGHT)))
      (db_cons (ds_for (passes_of rfl) rfl (di_zipX T.m_zip (da_cons (d_var 0) (da_cons (d_var 2) (da_nil)))) (dg_tup rfl (dgs_cons (dg_name nd_added_up) (dgs_cons (dg_name nd_added_up) (dgs_nil))))
      (db_one (ds_setLcG finV_ok rfl nd_added_up [("here", 7), ("number", 8)] (di_zipX T.m_zip (da_cons (d_var 3) (da_cons (d_ix hu (d_var 5) (d_int)) (da_nil)))) (blkOk_by (by kernel_rfl)) (by decide) (fun _ _ _ _ _ => dg_tup rfl (dgs_cons (dg_name nd_added_up) (dgs_cons (dg_name nd_added_up) (dgs_nil)))) (fun _ _ _ _ _ => dts_nil) (fun _ _ _ _ _ => d_call ((ok_sum_of T).mono (by omega)) hr (da_cons (d_var 7) (da_cons (d_call ((ok_times T).mono (by omega)) hr (da_cons (d_var 6) (da_cons (d_call ((ok_whole T).mono (by omega)) hr (da_cons (d_var 8) (da_nil))) (da_nil)))) (da_nil)))))))
      (db_one (ds_ret (d_var 3))))
theorem fo_added_up (T : Tb P w K mg) {f : Addr} {fd : FuncData} (F : FunD K "added_up" "added_up" (defArgs (top 28)) (defBody (top 28)) (defScope (top 28)) [] [] f fd) : FnOk P w K mg base (L2.CX P w) 3 f fd ["rows", "many", "multiples"] (spOf K F_added_up) :=
  fn_ok F sc_added_up fun hx cdv A outer s H E hr => db_added_up T hx cdv A outer s H E f hr
theorem ok_added_up (T : Tb P w K mg) : Fn P w K mg base "added_up" 3 ["rows", "many", "multiples"] F_added_up := by
  obtain ⟨f, fd, F, hm⟩ := T.f_added_up
  exact ⟨f, fd, hm, F.kp, F.bindsN fun _ _ _ _ _ _ us hl => match us, hl with | [_, _, _], _ => rfl, fo_added_up T F⟩
abbrev N_do_bar_by : List Str := ["rows", "many", "value", "sums", "each", "signs", "row", "multiple"]
theorem nd_do_bar_by : (N_do_bar_by).Nodup := by decide +kernel
theorem sc_do_bar_by : FnScope N_do_bar_by ["rows", "many", "value"] (defScope (top 29)) := ⟨rfl, rfl, rfl, by decide +kernel, rfl, by decide +kernel, by decide +kernel⟩
theorem db_do_bar_by (T : Tb P w K mg) (hx : Hx) (cdv : Value) (A : Around) (outer : List Env) (s : Shared) (H : Hp) (E : XK) (f : Addr) (hr : Room 4 (A.deeper (envOfC "do_bar_by" (defScope (top 29)) s.heap.objs.size f cdv))) : DB (cxF P w K mg base N_do_bar_by "do_bar_by" (defScope (top 29)) f cdv A outer s H E) hx (defBody (top 29)) b_do_bar_by := by
  have hu : (A.deeper (envOfC "do_bar_by" (defScope (top 29)) s.heap.objs.size f cdv)).units + 65 < cLine := by have := hr.un; omega
  have hu64 : (A.deeper (envOfC "do_bar_by" (defScope (top 29)) s.heap.objs.size f cdv)).units + 64 < cLine := by have := hr.un; omega
  exact db_cons (ds_if (dt_not (dt_tru (d_call ((ok_are_multiples T).mono (by omega)) hr (da_cons (d_var 0) (da_cons (d_var 2) (da_nil))))))
      (db_one (ds_ret (d_bl)))
      (db_nil))
      (db_cons (ds_set nd_do_bar_by (d_call ((ok_added_up T).mono (by omega)) hr (da_cons (d_var 0) (da_cons (d_var 1) (da_cons (d_var 2) (da_nil))))))
      (db_cons (ds_if (dt_tru (d_callB (cal_any rfl) T.m_any (da_cons (d_lcG finV_ok rfl nd_do_bar_by [("each", 4)] (di_val (d_sl (d_var 3) (do_none) (do_some (d_neg (d_int))))) (blkOk_by (by kernel_rfl)) (by decide) (fun _ _ _ _ _ => dg_name nd_do_bar_by) (fun _ _ _ _ _ => dts_nil) (fun _ _ _ _ _ => d_cmp (od_ne hu64) (d_var 4) (d_glob (Tb.kon T.k_NOUGHT)))) (da_nil))))
      (db_one (ds_ret (d_bl)))
      (db_nil))
      (db_cons (ds_setLcG finV_ok rfl nd_do_bar_by [("row", 6), ("multiple", 7)] (di_zipX T.m_zip (da_cons (d_var 0) (da_cons (d_var 2) (da_nil)))) (blkOk_by (by kernel_rfl)) (by decide) (fun _ _ _ _ _ => dg_tup rfl (dgs_cons (dg_name nd_do_bar_by) (dgs_cons (dg_name nd_do_bar_by) (dgs_nil)))) (fun _ _ _ _ _ => dts_one (dt_cmp (od_ne hu64) (d_var 7) (d_glob (Tb.kon T.k_NOUGHT)))) (fun _ _ _ _ _ => d_ix hu (d_var 6) (d_int)))
      (db_cons (ds_if (dt_cmp (od_in hu) (d_glob (Tb.kon T.k_BELOW)) (d_var 5))
      (db_one (ds_ret (d_cmp od_ge (d_ix hu (d_ix hu (d_var 3) (d_neg (d_int))) (d_int)) (d_int))))
      (db_nil))
      (db_one (ds_ret (d_or (d_cmp od_gt (d_ix hu (d_ix hu (d_var 3) (d_neg (d_int))) (d_int)) (d_int)) (d_one (d_and (d_cmp (od_notIn hu) (d_glob (Tb.kon T.k_AT_MOST)) (d_var 5)) (d_one (d_cmp (od_ne hu64) (d_ix hu (d_ix hu (d_var 3) (d_neg (d_int))) (d_int)) (d_int))))))))))))
theorem fo_do_bar_by (T : Tb P w K mg) {f : Addr} {fd : FuncData} (F : FunD K "do_bar_by" "do_bar_by" (defArgs (top 29)) (defBody (top 29)) (defScope (top 29)) [] [] f fd) : FnOk P w K mg base (L2.CX P w) 5 f fd ["rows", "many", "value"] (spOf K F_do_bar_by) :=
  fn_ok F sc_do_bar_by fun hx cdv A outer s H E hr => db_do_bar_by T hx cdv A outer s H E f hr
theorem ok_do_bar_by (T : Tb P w K mg) : Fn P w K mg base "do_bar_by" 5 ["rows", "many", "value"] F_do_bar_by := by
  obtain ⟨f, fd, F, hm⟩ := T.f_do_bar_by
  exact ⟨f, fd, hm, F.kp, F.bindsN fun _ _ _ _ _ _ us hl => match us, hl with | [_, _, _], _ => rfl, fo_do_bar_by T F⟩
abbrev N_check_rows : List Str := ["rows", "many"]
theorem nd_check_rows : (N_check_rows).Nodup := by decide +kernel
theorem sc_check_rows : FnScope N_check_rows ["rows", "many"] (defScope (top 31)) := ⟨rfl, rfl, rfl, by decide +kernel, rfl, by decide +kernel, by decide +kernel⟩
theorem db_check_rows (T : Tb P w K mg) (hx : Hx) (cdv : Value) (A : Around) (outer : List Env) (s : Shared) (H : Hp) (E : XK) (f : Addr) (hr : Room 3 (A.deeper (envOfC "check_rows" (defScope (top 31)) s.heap.objs.size f cdv))) : DB (cxF P w K mg base N_check_rows "check_rows" (defScope (top 31)) f cdv A outer s H E) hx (defBody (top 31)) b_check_rows := by
  have hu : (A.deeper (envOfC "check_rows" (defScope (top 31)) s.heap.objs.size f cdv)).units + 65 < cLine := by have := hr.un; omega
  have hu64 : (A.deeper (envOfC "check_rows" (defScope (top 31)) s.heap.objs.size f cdv)).units + 64 < cLine := by have := hr.un; omega
  exact db_cons (ds_expr (d_call ((ok_check_many T).mono (by omega)) hr (da_cons (d_var 1) (da_nil))))
      (db_one (ds_if (dt_not (dt_tru (d_call ((ok_are_rows_by T).mono (by omega)) hr (da_cons (d_var 1) (da_cons (d_var 0) (da_nil))))))
      (db_one (ds_never))
      (db_nil)))
theorem fo_check_rows (T : Tb P w K mg) {f : Addr} {fd : FuncData} (F : FunD K "check_rows" "check_rows" (defArgs (top 31)) (defBody (top 31)) (defScope (top 31)) [] [] f fd) : FnOk P w K mg base (L2.CX P w) 4 f fd ["rows", "many"] (spOf K F_check_rows) :=
  fn_ok F sc_check_rows fun hx cdv A outer s H E hr => db_check_rows T hx cdv A outer s H E f hr
theorem ok_check_rows (T : Tb P w K mg) : Fn P w K mg base "check_rows" 4 ["rows", "many"] F_check_rows := by
  obtain ⟨f, fd, F, hm⟩ := T.f_check_rows
  exact ⟨f, fd, hm, F.kp, F.bindsN fun _ _ _ _ _ _ us hl => match us, hl with | [_, _], _ => rfl, fo_check_rows T F⟩
abbrev N_do_bar : List Str := ["rows", "many", "value"]
theorem nd_do_bar : (N_do_bar).Nodup := by decide +kernel
theorem sc_do_bar : FnScope N_do_bar ["rows", "many", "value"] (defScope (top 32)) := ⟨rfl, rfl, rfl, by decide +kernel, rfl, by decide +kernel, by decide +kernel⟩
theorem db_do_bar (T : Tb P w K mg) (hx : Hx) (cdv : Value) (A : Around) (outer : List Env) (s : Shared) (H : Hp) (E : XK) (f : Addr) (hr : Room 5 (A.deeper (envOfC "do_bar" (defScope (top 32)) s.heap.objs.size f cdv))) : DB (cxF P w K mg base N_do_bar "do_bar" (defScope (top 32)) f cdv A outer s H E) hx (defBody (top 32)) b_do_bar := by
  have hu : (A.deeper (envOfC "do_bar" (defScope (top 32)) s.heap.objs.size f cdv)).units + 65 < cLine := by have := hr.un; omega
  have hu64 : (A.deeper (envOfC "do_bar" (defScope (top 32)) s.heap.objs.size f cdv)).units + 64 < cLine := by have := hr.un; omega
  exact db_cons (ds_expr (d_call ((ok_check_rows T).mono (by omega)) hr (da_cons (d_var 0) (da_cons (d_var 1) (da_nil)))))
      (db_one (ds_ret (d_call ((ok_do_bar_by T).mono (by omega)) hr (da_cons (d_var 0) (da_cons (d_var 1) (da_cons (d_var 2) (da_nil)))))))
theorem fo_do_bar (T : Tb P w K mg) {f : Addr} {fd : FuncData} (F : FunD K "do_bar" "do_bar" (defArgs (top 32)) (defBody (top 32)) (defScope (top 32)) [] [] f fd) : FnOk P w K mg base (L2.CX P w) 6 f fd ["rows", "many", "value"] (spOf K F_do_bar) :=
  fn_ok F sc_do_bar fun hx cdv A outer s H E hr => db_do_bar T hx cdv A outer s H E f hr
theorem ok_do_bar (T : Tb P w K mg) : Fn P w K mg base "do_bar" 6 ["rows", "many", "value"] F_do_bar := by
  obtain ⟨f, fd, F, hm⟩ := T.f_do_bar
  exact ⟨f, fd, hm, F.kp, F.bindsN fun _ _ _ _ _ _ us hl => match us, hl with | [_, _, _], _ => rfl, fo_do_bar T F⟩
theorem kw_do_bar_0_value_rows_many (T : Tb P w K mg) : FnKw P w K mg base "do_bar" 6 ["rows", "many", "value"] F_do_bar 0 ["value", "rows", "many"] [1, 2, 0] := by
  obtain ⟨f, fd, F, hm⟩ := T.f_do_bar
  exact ⟨f, fd, hm, F.kp, kbn_of F fun _ _ _ _ _ _ us ws hu hw => match us, ws, hu, hw with | [], [_, _, _], _, _ => rfl, fo_do_bar T F⟩
abbrev N__law_well : List Str := ["script", "lap", "own", "stir", "each"]
theorem nd__law_well : (N__law_well).Nodup := by decide +kernel
theorem sc__law_well : FnScope N__law_well ["script", "lap"] (defScope (top 34)) := ⟨rfl, rfl, rfl, by decide +kernel, rfl, by decide +kernel, by decide +kernel⟩
theorem db__law_well (T : Tb P w K mg) (hx : Hx) (cdv : Value) (A : Around) (outer : List Env) (s : Shared) (H : Hp) (E : XK) (f : Addr) (hr : Room 0 (A.deeper (envOfC "_law_well" (defScope (top 34)) s.heap.objs.size f cdv))) : DB (cxF P w K mg base N__law_well "_law_well" (defScope (top 34)) f cdv A outer s H E) hx (defBody (top 34)) b__law_well := by
  have hu : (A.deeper (envOfC "_law_well" (defScope (top 34)) s.heap.objs.size f cdv)).units + 65 < cLine := by have := hr.un; omega
  have hu64 : (A.deeper (envOfC "_law_well" (defScope (top 34)) s.heap.objs.size f cdv)).units + 64 < cLine := by have := hr.un; omega
  exact db_cons (ds_set nd__law_well (d_if (dt_cmp od_lt (d_var 1) (d_callB cal_len T.m_len (da_cons (d_var 0) (da_nil)))) (d_callTy cal_int T.m_int (da_cons (d_ix hu (d_var 0) (d_var 1)) (da_nil))) (d_int)))
      (db_cons (ds_set nd__law_well (d_bin od_add (d_int) (d_bin od_mulT (d_int) (d_var 1))))
      (db_cons (ds_for (passes_of rfl) rfl (di_val (d_bin od_add (d_sl (d_var 0) (do_none) (do_some (d_int))) (d_lst (da_cons (d_var 2) (da_nil))))) (dg_name nd__law_well)
      (db_one (ds_set nd__law_well (d_bin od_mod (d_callTy cal_int T.m_int (da_cons (d_bin od_add (d_bin od_add (d_bin od_mulT (d_var 3) (d_int)) (d_bin od_mod (d_callTy cal_int T.m_int (da_cons (d_var 4) (da_nil))) (d_int))) (d_int)) (da_nil))) (d_int)))))
      (db_one (ds_ret (d_lstL (da_cons (d_if (DW.dt (dw_or (dt_cmp od_lt (d_var 2) (d_int)) (dw_or1 (dt_cmp od_ge (d_var 2) (d_bin od_pow (d_int) (d_int)))))) (d_callB cal_abs T.m_abs (da_cons (d_var 2) (da_nil))) (d_int)) (da_cons (d_var 3) (da_cons (d_int) (da_nil)))))))))
theorem fo__law_well (T : Tb P w K mg) {f : Addr} {fd : FuncData} (F : FunD K "_law_well" "_law_well" (defArgs (top 34)) (defBody (top 34)) (defScope (top 34)) [] [] f fd) : FnOk P w K mg base (L2.CX P w) 1 f fd ["script", "lap"] (spOf K F__law_well) :=
  fn_ok F sc__law_well fun hx cdv A outer s H E hr => db__law_well T hx cdv A outer s H E f hr
theorem ok__law_well (T : Tb P w K mg) : Fn P w K mg base "_law_well" 1 ["script", "lap"] F__law_well := by
  obtain ⟨f, fd, F, hm⟩ := T.f__law_well
  exact ⟨f, fd, hm, F.kp, F.bindsN fun _ _ _ _ _ _ us hl => match us, hl with | [_, _], _ => rfl, fo__law_well T F⟩
abbrev N__law_take : List Str := ["well", "many", "told", "reach"]
theorem nd__law_take : (N__law_take).Nodup := by decide +kernel
theorem sc__law_take : FnScope N__law_take ["well", "many"] (defScope (top 35)) := ⟨rfl, rfl, rfl, by decide +kernel, rfl, by decide +kernel, by decide +kernel⟩
theorem db__law_take (T : Tb P w K mg) (hx : Hx) (cdv : Value) (A : Around) (outer : List Env) (s : Shared) (H : Hp) (E : XK) (f : Addr) (hr : Room 0 (A.deeper (envOfC "_law_take" (defScope (top 35)) s.heap.objs.size f cdv))) : DB (cxF P w K mg base N__law_take "_law_take" (defScope (top 35)) f cdv A outer s H E) hx (defBody (top 35)) b__law_take := by
  have hu : (A.deeper (envOfC "_law_take" (defScope (top 35)) s.heap.objs.size f cdv)).units + 65 < cLine := by have := hr.un; omega
  have hu64 : (A.deeper (envOfC "_law_take" (defScope (top 35)) s.heap.objs.size f cdv)).units + 64 < cLine := by have := hr.un; omega
  exact db_cons (ds_if (dt_cmp od_gt (d_ix hu (d_var 0) (d_int)) (d_int))
      (db_cons (ds_asg (d_callB cal_divmod T.m_divmod (da_cons (d_ix hu (d_var 0) (d_int)) (da_cons (d_var 1) (da_nil)))) (dg_tup rfl (dgs_cons (dg_sub hu (d_var 0) (d_int)) (dgs_cons (dg_name nd__law_take) (dgs_nil)))))
      (db_one (ds_ret (d_var 2))))
      (db_nil))
      (db_cons (ds_asg (d_tup (da_cons (d_int) (da_cons (d_int) (da_nil)))) (dg_tup rfl (dgs_cons (dg_name nd__law_take) (dgs_cons (dg_name nd__law_take) (dgs_nil)))))
      (db_cons (ds_while fuelW (passes_of rfl) (dt_cmp od_lt (d_var 3) (d_bin od_mulT (d_int) (d_var 1)))
      (db_cons (ds_asg (d_bin od_add (d_ix hu (d_var 0) (d_int)) (d_int)) (dg_sub hu (d_var 0) (d_int)))
      (db_cons (ds_asg (d_bin od_mod (d_callTy cal_int T.m_int (da_cons (d_bin od_add (d_bin od_add (d_bin od_mulT (d_ix hu (d_var 0) (d_int)) (d_int)) (d_bin od_mulT (d_ix hu (d_var 0) (d_int)) (d_int))) (d_int)) (da_nil))) (d_int)) (dg_sub hu (d_var 0) (d_int)))
      (db_one (ds_par rfl nd__law_take (da_cons (d_bin od_add (d_bin od_mulT (d_var 2) (d_int)) (d_bin od_mod (d_callTy cal_int T.m_int (da_cons (d_bin od_fdiv (d_ix hu (d_var 0) (d_int)) (d_int)) (da_nil))) (d_int))) (da_cons (d_bin od_mulT (d_var 3) (d_int)) (da_nil))))))))
      (db_one (ds_ret (d_bin od_mod (d_callTy cal_int T.m_int (da_cons (d_var 2) (da_nil))) (d_var 1))))))
theorem fo__law_take (T : Tb P w K mg) {f : Addr} {fd : FuncData} (F : FunD K "_law_take" "_law_take" (defArgs (top 35)) (defBody (top 35)) (defScope (top 35)) [] [] f fd) : FnOk P w K mg base (L2.CX P w) 1 f fd ["well", "many"] (spOf K F__law_take) :=
  fn_ok F sc__law_take fun hx cdv A outer s H E hr => db__law_take T hx cdv A outer s H E f hr
theorem ok__law_take (T : Tb P w K mg) : Fn P w K mg base "_law_take" 1 ["well", "many"] F__law_take := by
  obtain ⟨f, fd, F, hm⟩ := T.f__law_take
  exact ⟨f, fd, hm, F.kp, F.bindsN fun _ _ _ _ _ _ us hl => match us, hl with | [_, _], _ => rfl, fo__law_take T F⟩
abbrev N__law_says : List Str := ["told", "due"]
theorem nd__law_says : (N__law_says).Nodup := by decide +kernel
theorem sc__law_says : FnScope N__law_says ["told", "due"] (defScope (top 36)) := ⟨rfl, rfl, rfl, by decide +kernel, rfl, by decide +kernel, by decide +kernel⟩
theorem db__law_says (T : Tb P w K mg) (hx : Hx) (cdv : Value) (A : Around) (outer : List Env) (s : Shared) (H : Hp) (E : XK) (f : Addr) (hr : Room 0 (A.deeper (envOfC "_law_says" (defScope (top 36)) s.heap.objs.size f cdv))) : DB (cxF P w K mg base N__law_says "_law_says" (defScope (top 36)) f cdv A outer s H E) hx (defBody (top 36)) b__law_says := by
  have hu : (A.deeper (envOfC "_law_says" (defScope (top 36)) s.heap.objs.size f cdv)).units + 65 < cLine := by have := hr.un; omega
  have hu64 : (A.deeper (envOfC "_law_says" (defScope (top 36)) s.heap.objs.size f cdv)).units + 64 < cLine := by have := hr.un; omega
  exact db_one (ds_ret (d_and (d_callB cal_isi T.m_isinstance (da_cons (d_var 0) (da_cons (d_ty T.m_bool) (da_nil)))) (d_one (d_cmp (od_eq hu64) (d_var 0) (d_var 1)))))
theorem fo__law_says (T : Tb P w K mg) {f : Addr} {fd : FuncData} (F : FunD K "_law_says" "_law_says" (defArgs (top 36)) (defBody (top 36)) (defScope (top 36)) [] [] f fd) : FnOk P w K mg base (L2.CX P w) 1 f fd ["told", "due"] (spOf K F__law_says) :=
  fn_ok F sc__law_says fun hx cdv A outer s H E hr => db__law_says T hx cdv A outer s H E f hr
theorem ok__law_says (T : Tb P w K mg) : Fn P w K mg base "_law_says" 1 ["told", "due"] F__law_says := by
  obtain ⟨f, fd, F, hm⟩ := T.f__law_says
  exact ⟨f, fd, hm, F.kp, F.bindsN fun _ _ _ _ _ _ us hl => match us, hl with | [_, _], _ => rfl, fo__law_says T F⟩
abbrev N__law_whole : List Str := ["value"]
theorem nd__law_whole : (N__law_whole).Nodup := by decide +kernel
theorem sc__law_whole : FnScope N__law_whole ["value"] (defScope (top 37)) := ⟨rfl, rfl, rfl, by decide +kernel, rfl, by decide +kernel, by decide +kernel⟩
theorem db__law_whole (T : Tb P w K mg) (hx : Hx) (cdv : Value) (A : Around) (outer : List Env) (s : Shared) (H : Hp) (E : XK) (f : Addr) (hr : Room 0 (A.deeper (envOfC "_law_whole" (defScope (top 37)) s.heap.objs.size f cdv))) : DB (cxF P w K mg base N__law_whole "_law_whole" (defScope (top 37)) f cdv A outer s H E) hx (defBody (top 37)) b__law_whole := by
  have hu : (A.deeper (envOfC "_law_whole" (defScope (top 37)) s.heap.objs.size f cdv)).units + 65 < cLine := by have := hr.un; omega
  have hu64 : (A.deeper (envOfC "_law_whole" (defScope (top 37)) s.heap.objs.size f cdv)).units + 64 < cLine := by have := hr.un; omega
  exact db_one (ds_ret (d_and (d_callB cal_isi T.m_isinstance (da_cons (d_var 0) (da_cons (d_ty T.m_int) (da_nil)))) (d_one (d_not (d_callB cal_isi T.m_isinstance (da_cons (d_var 0) (da_cons (d_ty T.m_bool) (da_nil))))))))
theorem fo__law_whole (T : Tb P w K mg) {f : Addr} {fd : FuncData} (F : FunD K "_law_whole" "_law_whole" (defArgs (top 37)) (defBody (top 37)) (defScope (top 37)) [] [] f fd) : FnOk P w K mg base (L2.CX P w) 1 f fd ["value"] (spOf K F__law_whole) :=
  fn_ok F sc__law_whole fun hx cdv A outer s H E hr => db__law_whole T hx cdv A outer s H E f hr
theorem ok__law_whole (T : Tb P w K mg) : Fn P w K mg base "_law_whole" 1 ["value"] F__law_whole := by
  obtain ⟨f, fd, F, hm⟩ := T.f__law_whole
  exact ⟨f, fd, hm, F.kp, F.bindsN fun _ _ _ _ _ _ us hl => match us, hl with | [_], _ => rfl, fo__law_whole T F⟩
abbrev N__law_part_of : List Str := ["one", "two", "low", "high"]
theorem nd__law_part_of : (N__law_part_of).Nodup := by decide +kernel
theorem sc__law_part_of : FnScope N__law_part_of ["one", "two"] (defScope (top 38)) := ⟨rfl, rfl, rfl, by decide +kernel, rfl, by decide +kernel, by decide +kernel⟩
theorem db__law_part_of (T : Tb P w K mg) (hx : Hx) (cdv : Value) (A : Around) (outer : List Env) (s : Shared) (H : Hp) (E : XK) (f : Addr) (hr : Room 0 (A.deeper (envOfC "_law_part_of" (defScope (top 38)) s.heap.objs.size f cdv))) : DB (cxF P w K mg base N__law_part_of "_law_part_of" (defScope (top 38)) f cdv A outer s H E) hx (defBody (top 38)) b__law_part_of := by
  have hu : (A.deeper (envOfC "_law_part_of" (defScope (top 38)) s.heap.objs.size f cdv)).units + 65 < cLine := by have := hr.un; omega
  have hu64 : (A.deeper (envOfC "_law_part_of" (defScope (top 38)) s.heap.objs.size f cdv)).units + 64 < cLine := by have := hr.un; omega
  exact db_cons (ds_par rfl nd__law_part_of (da_cons (d_callB cal_abs T.m_abs (da_cons (d_var 0) (da_nil))) (da_cons (d_var 1) (da_nil))))
      (db_cons (ds_while fuelW (passes_of rfl) (dt_cmp od_gt (d_var 3) (d_int))
      (db_one (ds_par rfl nd__law_part_of (da_cons (d_var 3) (da_cons (d_bin od_mod (d_callTy cal_int T.m_int (da_cons (d_var 2) (da_nil))) (d_var 3)) (da_nil))))))
      (db_one (ds_ret (d_tup (da_cons (d_bin od_fdiv (d_var 0) (d_var 2)) (da_cons (d_bin od_fdiv (d_var 1) (d_var 2)) (da_nil)))))))
theorem fo__law_part_of (T : Tb P w K mg) {f : Addr} {fd : FuncData} (F : FunD K "_law_part_of" "_law_part_of" (defArgs (top 38)) (defBody (top 38)) (defScope (top 38)) [] [] f fd) : FnOk P w K mg base (L2.CX P w) 1 f fd ["one", "two"] (spOf K F__law_part_of) :=
  fn_ok F sc__law_part_of fun hx cdv A outer s H E hr => db__law_part_of T hx cdv A outer s H E f hr
theorem ok__law_part_of (T : Tb P w K mg) : Fn P w K mg base "_law_part_of" 1 ["one", "two"] F__law_part_of := by
  obtain ⟨f, fd, F, hm⟩ := T.f__law_part_of
  exact ⟨f, fd, hm, F.kp, F.bindsN fun _ _ _ _ _ _ us hl => match us, hl with | [_, _], _ => rfl, fo__law_part_of T F⟩
abbrev N__law_plus : List Str := ["one", "two"]
theorem nd__law_plus : (N__law_plus).Nodup := by decide +kernel
theorem sc__law_plus : FnScope N__law_plus ["one", "two"] (defScope (top 39)) := ⟨rfl, rfl, rfl, by decide +kernel, rfl, by decide +kernel, by decide +kernel⟩
theorem db__law_plus (T : Tb P w K mg) (hx : Hx) (cdv : Value) (A : Around) (outer : List Env) (s : Shared) (H : Hp) (E : XK) (f : Addr) (hr : Room 1 (A.deeper (envOfC "_law_plus" (defScope (top 39)) s.heap.objs.size f cdv))) : DB (cxF P w K mg base N__law_plus "_law_plus" (defScope (top 39)) f cdv A outer s H E) hx (defBody (top 39)) b__law_plus := by
  have hu : (A.deeper (envOfC "_law_plus" (defScope (top 39)) s.heap.objs.size f cdv)).units + 65 < cLine := by have := hr.un; omega
  have hu64 : (A.deeper (envOfC "_law_plus" (defScope (top 39)) s.heap.objs.size f cdv)).units + 64 < cLine := by have := hr.un; omega
  exact db_one (ds_ret (d_call ((ok__law_part_of T).mono (by omega)) hr (da_cons (d_bin od_add (d_bin od_mulT (d_ix hu (d_var 0) (d_int)) (d_ix hu (d_var 1) (d_int))) (d_bin od_mulT (d_ix hu (d_var 1) (d_int)) (d_ix hu (d_var 0) (d_int)))) (da_cons (d_bin od_mulT (d_ix hu (d_var 0) (d_int)) (d_ix hu (d_var 1) (d_int))) (da_nil)))))
theorem fo__law_plus (T : Tb P w K mg) {f : Addr} {fd : FuncData} (F : FunD K "_law_plus" "_law_plus" (defArgs (top 39)) (defBody (top 39)) (defScope (top 39)) [] [] f fd) : FnOk P w K mg base (L2.CX P w) 2 f fd ["one", "two"] (spOf K F__law_plus) :=
  fn_ok F sc__law_plus fun hx cdv A outer s H E hr => db__law_plus T hx cdv A outer s H E f hr
theorem ok__law_plus (T : Tb P w K mg) : Fn P w K mg base "_law_plus" 2 ["one", "two"] F__law_plus := by
  obtain ⟨f, fd, F, hm⟩ := T.f__law_plus
  exact ⟨f, fd, hm, F.kp, F.bindsN fun _ _ _ _ _ _ us hl => match us, hl with | [_, _], _ => rfl, fo__law_plus T F⟩
abbrev N__law_times : List Str := ["one", "two"]
theorem nd__law_times : (N__law_times).Nodup := by decide +kernel
theorem sc__law_times : FnScope N__law_times ["one", "two"] (defScope (top 40)) := ⟨rfl, rfl, rfl, by decide +kernel, rfl, by decide +kernel, by decide +kernel⟩
theorem db__law_times (T : Tb P w K mg) (hx : Hx) (cdv : Value) (A : Around) (outer : List Env) (s : Shared) (H : Hp) (E : XK) (f : Addr) (hr : Room 1 (A.deeper (envOfC "_law_times" (defScope (top 40)) s.heap.objs.size f cdv))) : DB (cxF P w K mg base N__law_times "_law_times" (defScope (top 40)) f cdv A outer s H E) hx (defBody (top 40)) b__law_times := by
  have hu : (A.deeper (envOfC "_law_times" (defScope (top 40)) s.heap.objs.size f cdv)).units + 65 < cLine := by have := hr.un; omega
  have hu64 : (A.deeper (envOfC "_law_times" (defScope (top 40)) s.heap.objs.size f cdv)).units + 64 < cLine := by have := hr.un; omega
  exact db_one (ds_ret (d_call ((ok__law_part_of T).mono (by omega)) hr (da_cons (d_bin od_mulT (d_ix hu (d_var 0) (d_int)) (d_ix hu (d_var 1) (d_int))) (da_cons (d_bin od_mulT (d_ix hu (d_var 0) (d_int)) (d_ix hu (d_var 1) (d_int))) (da_nil)))))
theorem fo__law_times (T : Tb P w K mg) {f : Addr} {fd : FuncData} (F : FunD K "_law_times" "_law_times" (defArgs (top 40)) (defBody (top 40)) (defScope (top 40)) [] [] f fd) : FnOk P w K mg base (L2.CX P w) 2 f fd ["one", "two"] (spOf K F__law_times) :=
  fn_ok F sc__law_times fun hx cdv A outer s H E hr => db__law_times T hx cdv A outer s H E f hr
theorem ok__law_times (T : Tb P w K mg) : Fn P w K mg base "_law_times" 2 ["one", "two"] F__law_times := by
  obtain ⟨f, fd, F, hm⟩ := T.f__law_times
  exact ⟨f, fd, hm, F.kp, F.bindsN fun _ _ _ _ _ _ us hl => match us, hl with | [_, _], _ => rfl, fo__law_times T F⟩
abbrev N__law_over : List Str := ["one", "two"]
theorem nd__law_over : (N__law_over).Nodup := by decide +kernel
theorem sc__law_over : FnScope N__law_over ["one", "two"] (defScope (top 41)) := ⟨rfl, rfl, rfl, by decide +kernel, rfl, by decide +kernel, by decide +kernel⟩
theorem db__law_over (T : Tb P w K mg) (hx : Hx) (cdv : Value) (A : Around) (outer : List Env) (s : Shared) (H : Hp) (E : XK) (f : Addr) (hr : Room 1 (A.deeper (envOfC "_law_over" (defScope (top 41)) s.heap.objs.size f cdv))) : DB (cxF P w K mg base N__law_over "_law_over" (defScope (top 41)) f cdv A outer s H E) hx (defBody (top 41)) b__law_over := by
  have hu : (A.deeper (envOfC "_law_over" (defScope (top 41)) s.heap.objs.size f cdv)).units + 65 < cLine := by have := hr.un; omega
  have hu64 : (A.deeper (envOfC "_law_over" (defScope (top 41)) s.heap.objs.size f cdv)).units + 64 < cLine := by have := hr.un; omega
  exact db_one (ds_ret (d_call ((ok__law_part_of T).mono (by omega)) hr (da_cons (d_bin od_mulT (d_bin od_mulT (d_ix hu (d_var 0) (d_int)) (d_ix hu (d_var 1) (d_int))) (d_if (dt_cmp od_gt (d_ix hu (d_var 1) (d_int)) (d_int)) (d_int) (d_neg (d_int)))) (da_cons (d_bin od_mulT (d_ix hu (d_var 0) (d_int)) (d_callB cal_abs T.m_abs (da_cons (d_ix hu (d_var 1) (d_int)) (da_nil)))) (da_nil)))))
theorem fo__law_over (T : Tb P w K mg) {f : Addr} {fd : FuncData} (F : FunD K "_law_over" "_law_over" (defArgs (top 41)) (defBody (top 41)) (defScope (top 41)) [] [] f fd) : FnOk P w K mg base (L2.CX P w) 2 f fd ["one", "two"] (spOf K F__law_over) :=
  fn_ok F sc__law_over fun hx cdv A outer s H E hr => db__law_over T hx cdv A outer s H E f hr
theorem ok__law_over (T : Tb P w K mg) : Fn P w K mg base "_law_over" 2 ["one", "two"] F__law_over := by
  obtain ⟨f, fd, F, hm⟩ := T.f__law_over
  exact ⟨f, fd, hm, F.kp, F.bindsN fun _ _ _ _ _ _ us hl => match us, hl with | [_, _], _ => rfl, fo__law_over T F⟩
abbrev N__law_is_part : List Str := ["value"]
theorem nd__law_is_part : (N__law_is_part).Nodup := by decide +kernel
theorem sc__law_is_part : FnScope N__law_is_part ["value"] (defScope (top 42)) := ⟨rfl, rfl, rfl, by decide +kernel, rfl, by decide +kernel, by decide +kernel⟩
theorem db__law_is_part (T : Tb P w K mg) (hx : Hx) (cdv : Value) (A : Around) (outer : List Env) (s : Shared) (H : Hp) (E : XK) (f : Addr) (hr : Room 1 (A.deeper (envOfC "_law_is_part" (defScope (top 42)) s.heap.objs.size f cdv))) : DB (cxF P w K mg base N__law_is_part "_law_is_part" (defScope (top 42)) f cdv A outer s H E) hx (defBody (top 42)) b__law_is_part := by
  have hu : (A.deeper (envOfC "_law_is_part" (defScope (top 42)) s.heap.objs.size f cdv)).units + 65 < cLine := by have := hr.un; omega
  have hu64 : (A.deeper (envOfC "_law_is_part" (defScope (top 42)) s.heap.objs.size f cdv)).units + 64 < cLine := by have := hr.un; omega
  exact db_one (ds_ret (d_and (d_callB cal_isi T.m_isinstance (da_cons (d_var 0) (da_cons (d_ty T.m_tuple) (da_nil)))) (d_and (d_cmp (od_eq hu64) (d_callB cal_len T.m_len (da_cons (d_var 0) (da_nil))) (d_int)) (d_and (d_call ((ok__law_whole T).mono (by omega)) hr (da_cons (d_ix hu (d_var 0) (d_int)) (da_nil))) (d_and (d_call ((ok__law_whole T).mono (by omega)) hr (da_cons (d_ix hu (d_var 0) (d_int)) (da_nil))) (d_and (d_cmp od_gt (d_ix hu (d_var 0) (d_int)) (d_int)) (d_one (d_cmp (od_eq hu64) (d_call ((ok__law_part_of T).mono (by omega)) hr (da_cons (d_ix hu (d_var 0) (d_int)) (da_cons (d_ix hu (d_var 0) (d_int)) (da_nil)))) (d_var 0)))))))))
theorem fo__law_is_part (T : Tb P w K mg) {f : Addr} {fd : FuncData} (F : FunD K "_law_is_part" "_law_is_part" (defArgs (top 42)) (defBody (top 42)) (defScope (top 42)) [] [] f fd) : FnOk P w K mg base (L2.CX P w) 2 f fd ["value"] (spOf K F__law_is_part) :=
  fn_ok F sc__law_is_part fun hx cdv A outer s H E hr => db__law_is_part T hx cdv A outer s H E f hr
theorem ok__law_is_part (T : Tb P w K mg) : Fn P w K mg base "_law_is_part" 2 ["value"] F__law_is_part := by
  obtain ⟨f, fd, F, hm⟩ := T.f__law_is_part
  exact ⟨f, fd, hm, F.kp, F.bindsN fun _ _ _ _ _ _ us hl => match us, hl with | [_], _ => rfl, fo__law_is_part T F⟩
abbrev N__law_line_plus : List Str := ["one", "two", "by", "a", "b"]
theorem nd__law_line_plus : (N__law_line_plus).Nodup := by decide +kernel
theorem sc__law_line_plus : FnScope N__law_line_plus ["one", "two", "by"] (defScope (top 43)) := ⟨rfl, rfl, rfl, by decide +kernel, rfl, by decide +kernel, by decide +kernel⟩
theorem db__law_line_plus (T : Tb P w K mg) (hx : Hx) (cdv : Value) (A : Around) (outer : List Env) (s : Shared) (H : Hp) (E : XK) (f : Addr) (hr : Room 2 (A.deeper (envOfC "_law_line_plus" (defScope (top 43)) s.heap.objs.size f cdv))) : DB (cxF P w K mg base N__law_line_plus "_law_line_plus" (defScope (top 43)) f cdv A outer s H E) hx (defBody (top 43)) b__law_line_plus := by
  have hu : (A.deeper (envOfC "_law_line_plus" (defScope (top 43)) s.heap.objs.size f cdv)).units + 65 < cLine := by have := hr.un; omega
  have hu64 : (A.deeper (envOfC "_law_line_plus" (defScope (top 43)) s.heap.objs.size f cdv)).units + 64 < cLine := by have := hr.un; omega
  exact db_one (ds_ret (d_callTy cal_tuple T.m_tuple (da_cons (d_lcG finV_ok rfl nd__law_line_plus [("a", 3), ("b", 4)] (di_zipX T.m_zip (da_cons (d_var 0) (da_cons (d_var 1) (da_nil)))) (blkOk_by (by kernel_rfl)) (by decide) (fun _ _ _ _ _ => dg_tup rfl (dgs_cons (dg_name nd__law_line_plus) (dgs_cons (dg_name nd__law_line_plus) (dgs_nil)))) (fun _ _ _ _ _ => dts_nil) (fun _ _ _ _ _ => d_call ((ok__law_plus T).mono (by omega)) hr (da_cons (d_var 3) (da_cons (d_call ((ok__law_times T).mono (by omega)) hr (da_cons (d_var 2) (da_cons (d_var 4) (da_nil)))) (da_nil))))) (da_nil))))
theorem fo__law_line_plus (T : Tb P w K mg) {f : Addr} {fd : FuncData} (F : FunD K "_law_line_plus" "_law_line_plus" (defArgs (top 43)) (defBody (top 43)) (defScope (top 43)) [] [] f fd) : FnOk P w K mg base (L2.CX P w) 3 f fd ["one", "two", "by"] (spOf K F__law_line_plus) :=
  fn_ok F sc__law_line_plus fun hx cdv A outer s H E hr => db__law_line_plus T hx cdv A outer s H E f hr
theorem ok__law_line_plus (T : Tb P w K mg) : Fn P w K mg base "_law_line_plus" 3 ["one", "two", "by"] F__law_line_plus := by
  obtain ⟨f, fd, F, hm⟩ := T.f__law_line_plus
  exact ⟨f, fd, hm, F.kp, F.bindsN fun _ _ _ _ _ _ us hl => match us, hl with | [_, _, _], _ => rfl, fo__law_line_plus T F⟩
abbrev N__law_alone : List Str := ["line", "each"]
theorem nd__law_alone : (N__law_alone).Nodup := by decide +kernel
theorem sc__law_alone : FnScope N__law_alone ["line"] (defScope (top 44)) := ⟨rfl, rfl, rfl, by decide +kernel, rfl, by decide +kernel, by decide +kernel⟩
theorem db__law_alone (T : Tb P w K mg) (hx : Hx) (cdv : Value) (A : Around) (outer : List Env) (s : Shared) (H : Hp) (E : XK) (f : Addr) (hr : Room 0 (A.deeper (envOfC "_law_alone" (defScope (top 44)) s.heap.objs.size f cdv))) : DB (cxF P w K mg base N__law_alone "_law_alone" (defScope (top 44)) f cdv A outer s H E) hx (defBody (top 44)) b__law_alone := by
  have hu : (A.deeper (envOfC "_law_alone" (defScope (top 44)) s.heap.objs.size f cdv)).units + 65 < cLine := by have := hr.un; omega
  have hu64 : (A.deeper (envOfC "_law_alone" (defScope (top 44)) s.heap.objs.size f cdv)).units + 64 < cLine := by have := hr.un; omega
  exact db_one (ds_ret (d_callB (cal_all rfl) T.m_all (da_cons (d_lcG finV_ok rfl nd__law_alone [("each", 1)] (di_val (d_sl (d_var 0) (do_none) (do_some (d_neg (d_int))))) (blkOk_by (by kernel_rfl)) (by decide) (fun _ _ _ _ _ => dg_name nd__law_alone) (fun _ _ _ _ _ => dts_nil) (fun _ _ _ _ _ => d_cmp (od_eq hu64) (d_ix hu (d_var 1) (d_int)) (d_int))) (da_nil))))
theorem fo__law_alone (T : Tb P w K mg) {f : Addr} {fd : FuncData} (F : FunD K "_law_alone" "_law_alone" (defArgs (top 44)) (defBody (top 44)) (defScope (top 44)) [] [] f fd) : FnOk P w K mg base (L2.CX P w) 1 f fd ["line"] (spOf K F__law_alone) :=
  fn_ok F sc__law_alone fun hx cdv A outer s H E hr => db__law_alone T hx cdv A outer s H E f hr
theorem ok__law_alone (T : Tb P w K mg) : Fn P w K mg base "_law_alone" 1 ["line"] F__law_alone := by
  obtain ⟨f, fd, F, hm⟩ := T.f__law_alone
  exact ⟨f, fd, hm, F.kp, F.bindsN fun _ _ _ _ _ _ us hl => match us, hl with | [_], _ => rfl, fo__law_alone T F⟩
abbrev N__law_sign : List Str := ["part"]
theorem nd__law_sign : (N__law_sign).Nodup := by decide +kernel
theorem sc__law_sign : FnScope N__law_sign ["part"] (defScope (top 45)) := ⟨rfl, rfl, rfl, by decide +kernel, rfl, by decide +kernel, by decide +kernel⟩
theorem db__law_sign (T : Tb P w K mg) (hx : Hx) (cdv : Value) (A : Around) (outer : List Env) (s : Shared) (H : Hp) (E : XK) (f : Addr) (hr : Room 0 (A.deeper (envOfC "_law_sign" (defScope (top 45)) s.heap.objs.size f cdv))) : DB (cxF P w K mg base N__law_sign "_law_sign" (defScope (top 45)) f cdv A outer s H E) hx (defBody (top 45)) b__law_sign := by
  have hu : (A.deeper (envOfC "_law_sign" (defScope (top 45)) s.heap.objs.size f cdv)).units + 65 < cLine := by have := hr.un; omega
  have hu64 : (A.deeper (envOfC "_law_sign" (defScope (top 45)) s.heap.objs.size f cdv)).units + 64 < cLine := by have := hr.un; omega
  exact db_one (ds_ret (d_bin od_subB (d_cmp od_gt (d_ix hu (d_var 0) (d_int)) (d_int)) (d_cmp od_lt (d_ix hu (d_var 0) (d_int)) (d_int))))
theorem fo__law_sign (T : Tb P w K mg) {f : Addr} {fd : FuncData} (F : FunD K "_law_sign" "_law_sign" (defArgs (top 45)) (defBody (top 45)) (defScope (top 45)) [] [] f fd) : FnOk P w K mg base (L2.CX P w) 1 f fd ["part"] (spOf K F__law_sign) :=
  fn_ok F sc__law_sign fun hx cdv A outer s H E hr => db__law_sign T hx cdv A outer s H E f hr
theorem ok__law_sign (T : Tb P w K mg) : Fn P w K mg base "_law_sign" 1 ["part"] F__law_sign := by
  obtain ⟨f, fd, F, hm⟩ := T.f__law_sign
  exact ⟨f, fd, hm, F.kp, F.bindsN fun _ _ _ _ _ _ us hl => match us, hl with | [_], _ => rfl, fo__law_sign T F⟩
abbrev N__law_as_line : List Str := ["form", "each"]
theorem nd__law_as_line : (N__law_as_line).Nodup := by decide +kernel
theorem sc__law_as_line : FnScope N__law_as_line ["form"] (defScope (top 46)) := ⟨rfl, rfl, rfl, by decide +kernel, rfl, by decide +kernel, by decide +kernel⟩
theorem db__law_as_line (T : Tb P w K mg) (hx : Hx) (cdv : Value) (A : Around) (outer : List Env) (s : Shared) (H : Hp) (E : XK) (f : Addr) (hr : Room 0 (A.deeper (envOfC "_law_as_line" (defScope (top 46)) s.heap.objs.size f cdv))) : DB (cxF P w K mg base N__law_as_line "_law_as_line" (defScope (top 46)) f cdv A outer s H E) hx (defBody (top 46)) b__law_as_line := by
  have hu : (A.deeper (envOfC "_law_as_line" (defScope (top 46)) s.heap.objs.size f cdv)).units + 65 < cLine := by have := hr.un; omega
  have hu64 : (A.deeper (envOfC "_law_as_line" (defScope (top 46)) s.heap.objs.size f cdv)).units + 64 < cLine := by have := hr.un; omega
  exact db_one (ds_ret (d_callTy cal_tuple T.m_tuple (da_cons (d_lcG finV_ok rfl nd__law_as_line [("each", 1)] (di_val (d_var 0)) (blkOk_by (by kernel_rfl)) (by decide) (fun _ _ _ _ _ => dg_name nd__law_as_line) (fun _ _ _ _ _ => dts_nil) (fun _ _ _ _ _ => d_tup (da_cons (d_var 1) (da_cons (d_int) (da_nil))))) (da_nil))))
theorem fo__law_as_line (T : Tb P w K mg) {f : Addr} {fd : FuncData} (F : FunD K "_law_as_line" "_law_as_line" (defArgs (top 46)) (defBody (top 46)) (defScope (top 46)) [] [] f fd) : FnOk P w K mg base (L2.CX P w) 1 f fd ["form"] (spOf K F__law_as_line) :=
  fn_ok F sc__law_as_line fun hx cdv A outer s H E hr => db__law_as_line T hx cdv A outer s H E f hr
theorem ok__law_as_line (T : Tb P w K mg) : Fn P w K mg base "_law_as_line" 1 ["form"] F__law_as_line := by
  obtain ⟨f, fd, F, hm⟩ := T.f__law_as_line
  exact ⟨f, fd, hm, F.kp, F.bindsN fun _ _ _ _ _ _ us hl => match us, hl with | [_], _ => rfl, fo__law_as_line T F⟩
abbrev N__law_without : List Str := ["rows", "k", "same", "row", "line", "sign", "taken", "found", "by", "high", "low", "each", "is_idle", "other"]
theorem nd__law_without : (N__law_without).Nodup := by decide +kernel
theorem sc__law_without : FnScope N__law_without ["rows", "k"] (defScope (top 47)) := ⟨rfl, rfl, rfl, by decide +kernel, rfl, by decide +kernel, by decide +kernel⟩
theorem db__law_without (T : Tb P w K mg) (hx : Hx) (cdv : Value) (A : Around) (outer : List Env) (s : Shared) (H : Hp) (E : XK) (f : Addr) (hr : Room 3 (A.deeper (envOfC "_law_without" (defScope (top 47)) s.heap.objs.size f cdv))) : DB (cxF P w K mg base N__law_without "_law_without" (defScope (top 47)) f cdv A outer s H E) hx (defBody (top 47)) b__law_without := by
  have hu : (A.deeper (envOfC "_law_without" (defScope (top 47)) s.heap.objs.size f cdv)).units + 65 < cLine := by have := hr.un; omega
  have hu64 : (A.deeper (envOfC "_law_without" (defScope (top 47)) s.heap.objs.size f cdv)).units + 64 < cLine := by have := hr.un; omega
  exact db_cons (ds_setLcG finV_ok rfl nd__law_without [("row", 3)] (di_val (d_var 0)) (blkOk_by (by kernel_rfl)) (by decide) (fun _ _ _ _ _ => dg_name nd__law_without) (fun _ _ _ _ _ => dts_one (DW.dt (dw_and (dt_cmp (od_eq hu64) (d_ix hu (d_var 3) (d_int)) (d_str)) (dw_and1 (dt_cmp (od_ne hu64) (d_ix hu (d_ix hu (d_ix hu (d_var 3) (d_int)) (d_var 1)) (d_int)) (d_int)))))) (fun _ _ _ _ _ => d_var 3))
      (db_cons (ds_if (dt_cmp (od_ne hu64) (d_var 2) (d_lst (da_nil)))
      (db_cons (ds_asg (d_ix hu (d_var 2) (d_int)) (dg_tup rfl (dgs_cons (dg_name nd__law_without) (dgs_cons (dg_name nd__law_without) (dgs_cons (dg_name nd__law_without) (dgs_nil))))))
      (db_cons (ds_set nd__law_without (d_lstL (da_nil)))
      (db_cons (ds_for (passes_of rfl) rfl (di_val (d_var 0)) (dg_name nd__law_without)
      (db_one (ds_if (dt_cmp (od_ne hu64) (d_var 3) (d_ix hu (d_var 2) (d_int)))
      (db_cons (ds_set nd__law_without (d_call ((ok__law_over T).mono (by omega)) hr (da_cons (d_tup (da_cons (d_bin od_subB (d_int) (d_ix hu (d_ix hu (d_ix hu (d_var 3) (d_int)) (d_var 1)) (d_int))) (da_cons (d_ix hu (d_ix hu (d_ix hu (d_var 3) (d_int)) (d_var 1)) (d_int)) (da_nil)))) (da_cons (d_ix hu (d_var 4) (d_var 1)) (da_nil)))))
      (db_one (ds_expr (d_app (d_var 7) (d_tup (da_cons (d_call ((ok__law_line_plus T).mono (by omega)) hr (da_cons (d_ix hu (d_var 3) (d_int)) (da_cons (d_var 4) (da_cons (d_var 8) (da_nil))))) (da_cons (d_ix hu (d_var 3) (d_int)) (da_cons (d_call ((ok__law_line_plus T).mono (by omega)) hr (da_cons (d_ix hu (d_var 3) (d_int)) (da_cons (d_var 6) (da_cons (d_var 8) (da_nil))))) (da_nil)))))))))
      (db_nil))))
      (db_one (ds_ret (d_var 7))))))
      (db_nil))
      (db_cons (ds_setLcG finL_ok rfl nd__law_without [("row", 3)] (di_val (d_var 0)) (blkOk_by (by kernel_rfl)) (by decide) (fun _ _ _ _ _ => dg_name nd__law_without) (fun _ _ _ _ _ => dts_one (dt_cmp (od_eq hu64) (d_ix hu (d_ix hu (d_ix hu (d_var 3) (d_int)) (d_var 1)) (d_int)) (d_int))) (fun _ _ _ _ _ => d_var 3))
      (db_cons (ds_for (passes_of rfl) rfl (di_val (d_lcG finV_ok rfl nd__law_without [("row", 3)] (di_val (d_var 0)) (blkOk_by (by kernel_rfl)) (by decide) (fun _ _ _ _ _ => dg_name nd__law_without) (fun _ _ _ _ _ => dts_one (dt_cmp od_gt (d_ix hu (d_ix hu (d_ix hu (d_var 3) (d_int)) (d_var 1)) (d_int)) (d_int))) (fun _ _ _ _ _ => d_var 3))) (dg_name nd__law_without)
      (db_one (ds_for (passes_of rfl) rfl (di_val (d_lcG finV_ok rfl nd__law_without [("row", 3)] (di_val (d_var 0)) (blkOk_by (by kernel_rfl)) (by decide) (fun _ _ _ _ _ => dg_name nd__law_without) (fun _ _ _ _ _ => dts_one (dt_cmp od_lt (d_ix hu (d_ix hu (d_ix hu (d_var 3) (d_int)) (d_var 1)) (d_int)) (d_int))) (fun _ _ _ _ _ => d_var 3))) (dg_name nd__law_without)
      (db_cons (ds_par rfl nd__law_without (da_cons (d_call ((ok__law_over T).mono (by omega)) hr (da_cons (d_ix hu (d_ix hu (d_var 9) (d_int)) (d_var 1)) (da_cons (d_tup (da_cons (d_bin od_subB (d_int) (d_ix hu (d_ix hu (d_ix hu (d_var 10) (d_int)) (d_var 1)) (d_int))) (da_cons (d_ix hu (d_ix hu (d_ix hu (d_var 10) (d_int)) (d_var 1)) (d_int)) (da_nil)))) (da_nil)))) (da_cons (d_if (dt_cmp (od_in hu) (d_str) (d_tup (da_cons (d_ix hu (d_var 9) (d_int)) (da_cons (d_ix hu (d_var 10) (d_int)) (da_nil))))) (d_str) (d_str)) (da_nil))))
      (db_cons (ds_set nd__law_without (d_tup (da_cons (d_call ((ok__law_line_plus T).mono (by omega)) hr (da_cons (d_ix hu (d_var 9) (d_int)) (da_cons (d_ix hu (d_var 10) (d_int)) (da_cons (d_var 8) (da_nil))))) (da_cons (d_var 5) (da_cons (d_call ((ok__law_line_plus T).mono (by omega)) hr (da_cons (d_ix hu (d_var 9) (d_int)) (da_cons (d_ix hu (d_var 10) (d_int)) (da_cons (d_var 8) (da_nil))))) (da_nil))))))
      (db_cons (ds_set nd__law_without (d_and (d_call ((ok__law_alone T).mono (by omega)) hr (da_cons (d_ix hu (d_var 11) (d_int)) (da_nil))) (d_one (d_or (d_cmp od_lt (d_ix hu (d_ix hu (d_ix hu (d_var 11) (d_int)) (d_neg (d_int))) (d_int)) (d_int)) (d_one (d_and (d_cmp (od_eq hu64) (d_ix hu (d_ix hu (d_ix hu (d_var 11) (d_int)) (d_neg (d_int))) (d_int)) (d_int)) (d_one (d_cmp (od_eq hu64) (d_var 5) (d_str)))))))))
      (db_one (ds_if (DW.dt (dw_and (dt_not (dt_tru (d_var 12))) (dw_and1 (dt_not (dt_tru (d_callB (cal_any rfl) T.m_any (da_cons (d_lcKG finV_ok rfl nd__law_without [("other", 13)] (d_var 7) (blkOk_by (by kernel_rfl)) (by decide) (fun _ _ _ _ _ => dg_name nd__law_without) (fun _ _ _ _ _ => dts_nil) (fun _ _ _ _ _ => d_cmp (od_eq hu64) (d_sl (d_var 13) (do_none) (do_some (d_int))) (d_sl (d_var 11) (do_none) (do_some (d_int))))) (da_nil))))))))
      (db_one (ds_expr (d_app (d_var 7) (d_var 11))))
      (db_nil)))))))))
      (db_one (ds_ret (d_var 7))))))
theorem fo__law_without (T : Tb P w K mg) {f : Addr} {fd : FuncData} (F : FunD K "_law_without" "_law_without" (defArgs (top 47)) (defBody (top 47)) (defScope (top 47)) [] [] f fd) : FnOk P w K mg base (L2.CX P w) 4 f fd ["rows", "k"] (spOf K F__law_without) :=
  fn_ok F sc__law_without fun hx cdv A outer s H E hr => db__law_without T hx cdv A outer s H E f hr
theorem ok__law_without (T : Tb P w K mg) : Fn P w K mg base "_law_without" 4 ["rows", "k"] F__law_without := by
  obtain ⟨f, fd, F, hm⟩ := T.f__law_without
  exact ⟨f, fd, hm, F.kp, F.bindsN fun _ _ _ _ _ _ us hl => match us, hl with | [_, _], _ => rfl, fo__law_without T F⟩
abbrev N__law_as_rows : List Str := ["rows", "j", "k", "row"]
theorem nd__law_as_rows : (N__law_as_rows).Nodup := by decide +kernel
theorem sc__law_as_rows : FnScope N__law_as_rows ["rows"] (defScope (top 48)) := ⟨rfl, rfl, rfl, by decide +kernel, rfl, by decide +kernel, by decide +kernel⟩
theorem db__law_as_rows (T : Tb P w K mg) (hx : Hx) (cdv : Value) (A : Around) (outer : List Env) (s : Shared) (H : Hp) (E : XK) (f : Addr) (hr : Room 0 (A.deeper (envOfC "_law_as_rows" (defScope (top 48)) s.heap.objs.size f cdv))) : DB (cxF P w K mg base N__law_as_rows "_law_as_rows" (defScope (top 48)) f cdv A outer s H E) hx (defBody (top 48)) b__law_as_rows := by
  have hu : (A.deeper (envOfC "_law_as_rows" (defScope (top 48)) s.heap.objs.size f cdv)).units + 65 < cLine := by have := hr.un; omega
  have hu64 : (A.deeper (envOfC "_law_as_rows" (defScope (top 48)) s.heap.objs.size f cdv)).units + 64 < cLine := by have := hr.un; omega
  exact db_one (ds_ret (d_lcG finV_ok rfl nd__law_as_rows [("k", 2), ("row", 3)] (di_enu T.m_enumerate (da_cons (d_var 0) (da_nil))) (blkOk_by (by kernel_rfl)) (by decide) (fun _ _ _ _ _ => dg_tup rfl (dgs_cons (dg_name nd__law_as_rows) (dgs_cons (dg_name nd__law_as_rows) (dgs_nil)))) (fun _ _ _ _ _ => dts_nil) (fun _ _ _ _ _ => d_tup (da_cons (d_ix hu (d_var 3) (d_int)) (da_cons (d_ix hu (d_var 3) (d_int)) (da_cons (d_callTy cal_tuple T.m_tuple (da_cons (d_lcG finV_ok rfl nd__law_as_rows [("j", 1)] (di_rng1 T.m_range (da_cons (d_callB cal_len T.m_len (da_cons (d_var 0) (da_nil))) (da_nil))) (blkOk_by (by kernel_rfl)) (by decide) (fun _ _ _ _ _ => dg_name nd__law_as_rows) (fun _ _ _ _ _ => dts_nil) (fun _ _ _ _ _ => d_tup (da_cons (d_callTy cal_int T.m_int (da_cons (d_cmp (od_eq hu64) (d_var 1) (d_var 2)) (da_nil))) (da_cons (d_int) (da_nil))))) (da_nil))) (da_nil)))))))
theorem fo__law_as_rows (T : Tb P w K mg) {f : Addr} {fd : FuncData} (F : FunD K "_law_as_rows" "_law_as_rows" (defArgs (top 48)) (defBody (top 48)) (defScope (top 48)) [] [] f fd) : FnOk P w K mg base (L2.CX P w) 1 f fd ["rows"] (spOf K F__law_as_rows) :=
  fn_ok F sc__law_as_rows fun hx cdv A outer s H E hr => db__law_as_rows T hx cdv A outer s H E f hr
theorem ok__law_as_rows (T : Tb P w K mg) : Fn P w K mg base "_law_as_rows" 1 ["rows"] F__law_as_rows := by
  obtain ⟨f, fd, F, hm⟩ := T.f__law_as_rows
  exact ⟨f, fd, hm, F.kp, F.bindsN fun _ _ _ _ _ _ us hl => match us, hl with | [_], _ => rfl, fo__law_as_rows T F⟩
abbrev N__law_bars : List Str := ["rows", "many", "line", "k", "row", "sign", "taken", "last"]
theorem nd__law_bars : (N__law_bars).Nodup := by decide +kernel
theorem sc__law_bars : FnScope N__law_bars ["rows", "many"] (defScope (top 49)) := ⟨rfl, rfl, rfl, by decide +kernel, rfl, by decide +kernel, by decide +kernel⟩
theorem db__law_bars (T : Tb P w K mg) (hx : Hx) (cdv : Value) (A : Around) (outer : List Env) (s : Shared) (H : Hp) (E : XK) (f : Addr) (hr : Room 4 (A.deeper (envOfC "_law_bars" (defScope (top 49)) s.heap.objs.size f cdv))) : DB (cxF P w K mg base N__law_bars "_law_bars" (defScope (top 49)) f cdv A outer s H E) hx (defBody (top 49)) b__law_bars := by
  have hu : (A.deeper (envOfC "_law_bars" (defScope (top 49)) s.heap.objs.size f cdv)).units + 65 < cLine := by have := hr.un; omega
  have hu64 : (A.deeper (envOfC "_law_bars" (defScope (top 49)) s.heap.objs.size f cdv)).units + 64 < cLine := by have := hr.un; omega
  exact db_cons (ds_set nd__law_bars (d_call ((ok__law_as_rows T).mono (by omega)) hr (da_cons (d_var 0) (da_nil))))
      (db_cons (ds_for (passes_of rfl) rfl (di_rng1 T.m_range (da_cons (d_var 1) (da_nil))) (dg_name nd__law_bars)
      (db_one (ds_set nd__law_bars (d_call ((ok__law_without T).mono (by omega)) hr (da_cons (d_var 2) (da_cons (d_var 3) (da_nil)))))))
      (db_cons (ds_for (passes_of rfl) rfl (di_val (d_var 2)) (dg_tup rfl (dgs_cons (dg_name nd__law_bars) (dgs_cons (dg_name nd__law_bars) (dgs_cons (dg_name nd__law_bars) (dgs_nil)))))
      (db_cons (ds_set nd__law_bars (d_call ((ok__law_sign T).mono (by omega)) hr (da_cons (d_ix hu (d_var 4) (d_neg (d_int))) (da_nil))))
      (db_one (ds_if (DW.dt (dw_or (dt_cmp od_gt (d_var 7) (d_int)) (dw_or (DW.dt (dw_and (dt_cmp (od_eq hu64) (d_var 7) (d_int)) (dw_and1 (dt_cmp (od_eq hu64) (d_var 5) (d_str))))) (dw_or1 (DW.dt (dw_and (dt_cmp od_lt (d_var 7) (d_int)) (dw_and1 (dt_cmp (od_eq hu64) (d_var 5) (d_str)))))))))
      (db_one (ds_ret (d_var 6)))
      (db_nil)))))
      (db_one (ds_ret (d_non)))))
theorem fo__law_bars (T : Tb P w K mg) {f : Addr} {fd : FuncData} (F : FunD K "_law_bars" "_law_bars" (defArgs (top 49)) (defBody (top 49)) (defScope (top 49)) [] [] f fd) : FnOk P w K mg base (L2.CX P w) 5 f fd ["rows", "many"] (spOf K F__law_bars) :=
  fn_ok F sc__law_bars fun hx cdv A outer s H E hr => db__law_bars T hx cdv A outer s H E f hr
theorem ok__law_bars (T : Tb P w K mg) : Fn P w K mg base "_law_bars" 5 ["rows", "many"] F__law_bars := by
  obtain ⟨f, fd, F, hm⟩ := T.f__law_bars
  exact ⟨f, fd, hm, F.kp, F.bindsN fun _ _ _ _ _ _ us hl => match us, hl with | [_, _], _ => rfl, fo__law_bars T F⟩
abbrev N__law_do_bar : List Str := ["rows", "many", "value", "each", "k", "whole_v", "words", "last"]
theorem nd__law_do_bar : (N__law_do_bar).Nodup := by decide +kernel
theorem sc__law_do_bar : FnScope N__law_do_bar ["rows", "many", "value"] (defScope (top 50)) := ⟨rfl, rfl, rfl, by decide +kernel, rfl, by decide +kernel, by decide +kernel⟩
theorem db__law_do_bar (T : Tb P w K mg) (hx : Hx) (cdv : Value) (A : Around) (outer : List Env) (s : Shared) (H : Hp) (E : XK) (f : Addr) (hr : Room 3 (A.deeper (envOfC "_law_do_bar" (defScope (top 50)) s.heap.objs.size f cdv))) : DB (cxF P w K mg base N__law_do_bar "_law_do_bar" (defScope (top 50)) f cdv A outer s H E) hx (defBody (top 50)) b__law_do_bar := by
  have hu : (A.deeper (envOfC "_law_do_bar" (defScope (top 50)) s.heap.objs.size f cdv)).units + 65 < cLine := by have := hr.un; omega
  have hu64 : (A.deeper (envOfC "_law_do_bar" (defScope (top 50)) s.heap.objs.size f cdv)).units + 64 < cLine := by have := hr.un; omega
  exact db_cons (ds_if (DW.dt (dw_or (dt_not (dt_tru (d_callB cal_isi T.m_isinstance (da_cons (d_var 2) (da_cons (d_ty T.m_tuple) (da_nil)))))) (dw_or (dt_cmp (od_ne hu64) (d_callB cal_len T.m_len (da_cons (d_var 2) (da_nil))) (d_callB cal_len T.m_len (da_cons (d_var 0) (da_nil)))) (dw_or1 (dt_not (dt_tru (d_callB (cal_all rfl) T.m_all (da_cons (d_lcG finV_ok rfl nd__law_do_bar [("each", 3)] (di_val (d_var 2)) (blkOk_by (by kernel_rfl)) (by decide) (fun _ _ _ _ _ => dg_name nd__law_do_bar) (fun _ _ _ _ _ => dts_nil) (fun _ _ _ _ _ => d_call ((ok__law_is_part T).mono (by omega)) hr (da_cons (d_var 3) (da_nil)))) (da_nil)))))))))
      (db_one (ds_ret (d_bl)))
      (db_nil))
      (db_cons (ds_if (dt_tru (d_callB (cal_any rfl) T.m_any (da_cons (d_lcG finV_ok rfl nd__law_do_bar [("k", 4)] (di_rng1 T.m_range (da_cons (d_callB cal_len T.m_len (da_cons (d_var 0) (da_nil))) (da_nil))) (blkOk_by (by kernel_rfl)) (by decide) (fun _ _ _ _ _ => dg_name nd__law_do_bar) (fun _ _ _ _ _ => dts_nil) (fun _ _ _ _ _ => d_and (d_cmp od_lt (d_ix hu (d_ix hu (d_var 2) (d_var 4)) (d_int)) (d_int)) (d_one (d_cmp (od_ne hu64) (d_ix hu (d_ix hu (d_var 0) (d_var 4)) (d_int)) (d_str))))) (da_nil))))
      (db_one (ds_ret (d_bl)))
      (db_nil))
      (db_cons (ds_set nd__law_do_bar (d_bin od_mulT (d_tup (da_cons (d_tup (da_cons (d_int) (da_cons (d_int) (da_nil)))) (da_nil))) (d_bin od_add (d_var 1) (d_int))))
      (db_cons (ds_for (passes_of rfl) rfl (di_rng1 T.m_range (da_cons (d_callB cal_len T.m_len (da_cons (d_var 0) (da_nil))) (da_nil))) (dg_name nd__law_do_bar)
      (db_one (ds_set nd__law_do_bar (d_call ((ok__law_line_plus T).mono (by omega)) hr (da_cons (d_var 5) (da_cons (d_ix hu (d_ix hu (d_var 0) (d_var 4)) (d_int)) (da_cons (d_ix hu (d_var 2) (d_var 4)) (da_nil))))))))
      (db_cons (ds_if (dt_not (dt_tru (d_call ((ok__law_alone T).mono (by omega)) hr (da_cons (d_var 5) (da_nil)))))
      (db_one (ds_ret (d_bl)))
      (db_nil))
      (db_cons (ds_setLcG finV_ok rfl nd__law_do_bar [("k", 4)] (di_rng1 T.m_range (da_cons (d_callB cal_len T.m_len (da_cons (d_var 0) (da_nil))) (da_nil))) (blkOk_by (by kernel_rfl)) (by decide) (fun _ _ _ _ _ => dg_name nd__law_do_bar) (fun _ _ _ _ _ => dts_one (dt_cmp (od_ne hu64) (d_ix hu (d_ix hu (d_var 2) (d_var 4)) (d_int)) (d_int))) (fun _ _ _ _ _ => d_ix hu (d_ix hu (d_var 0) (d_var 4)) (d_int)))
      (db_cons (ds_set nd__law_do_bar (d_call ((ok__law_sign T).mono (by omega)) hr (da_cons (d_ix hu (d_var 5) (d_neg (d_int))) (da_nil))))
      (db_one (ds_ret (d_or (d_cmp od_gt (d_var 7) (d_int)) (d_or (d_and (d_cmp (od_eq hu64) (d_var 7) (d_int)) (d_one (d_cmp (od_in hu) (d_str) (d_var 6)))) (d_one (d_and (d_cmp (od_ne hu64) (d_var 7) (d_int)) (d_one (d_cmp (od_eq hu64) (d_var 6) (d_bin od_mulT (d_lst (da_cons (d_str) (da_nil))) (d_callB cal_len T.m_len (da_cons (d_var 6) (da_nil))))))))))))))))))
theorem fo__law_do_bar (T : Tb P w K mg) {f : Addr} {fd : FuncData} (F : FunD K "_law_do_bar" "_law_do_bar" (defArgs (top 50)) (defBody (top 50)) (defScope (top 50)) [] [] f fd) : FnOk P w K mg base (L2.CX P w) 4 f fd ["rows", "many", "value"] (spOf K F__law_do_bar) :=
  fn_ok F sc__law_do_bar fun hx cdv A outer s H E hr => db__law_do_bar T hx cdv A outer s H E f hr
theorem ok__law_do_bar (T : Tb P w K mg) : Fn P w K mg base "_law_do_bar" 4 ["rows", "many", "value"] F__law_do_bar := by
  obtain ⟨f, fd, F, hm⟩ := T.f__law_do_bar
  exact ⟨f, fd, hm, F.kp, F.bindsN fun _ _ _ _ _ _ us hl => match us, hl with | [_, _, _], _ => rfl, fo__law_do_bar T F⟩
abbrev N__law_of : List Str := ["well", "things"]
theorem nd__law_of : (N__law_of).Nodup := by decide +kernel
theorem sc__law_of : FnScope N__law_of ["well", "things"] (defScope (top 51)) := ⟨rfl, rfl, rfl, by decide +kernel, rfl, by decide +kernel, by decide +kernel⟩
theorem db__law_of (T : Tb P w K mg) (hx : Hx) (cdv : Value) (A : Around) (outer : List Env) (s : Shared) (H : Hp) (E : XK) (f : Addr) (hr : Room 1 (A.deeper (envOfC "_law_of" (defScope (top 51)) s.heap.objs.size f cdv))) : DB (cxF P w K mg base N__law_of "_law_of" (defScope (top 51)) f cdv A outer s H E) hx (defBody (top 51)) b__law_of := by
  have hu : (A.deeper (envOfC "_law_of" (defScope (top 51)) s.heap.objs.size f cdv)).units + 65 < cLine := by have := hr.un; omega
  have hu64 : (A.deeper (envOfC "_law_of" (defScope (top 51)) s.heap.objs.size f cdv)).units + 64 < cLine := by have := hr.un; omega
  exact db_one (ds_ret (d_ix hu (d_var 1) (d_call ((ok__law_take T).mono (by omega)) hr (da_cons (d_var 0) (da_cons (d_callB cal_len T.m_len (da_cons (d_var 1) (da_nil))) (da_nil))))))
theorem fo__law_of (T : Tb P w K mg) {f : Addr} {fd : FuncData} (F : FunD K "_law_of" "_law_of" (defArgs (top 51)) (defBody (top 51)) (defScope (top 51)) [] [] f fd) : FnOk P w K mg base (L2.CX P w) 2 f fd ["well", "things"] (spOf K F__law_of) :=
  fn_ok F sc__law_of fun hx cdv A outer s H E hr => db__law_of T hx cdv A outer s H E f hr
theorem ok__law_of (T : Tb P w K mg) : Fn P w K mg base "_law_of" 2 ["well", "things"] F__law_of := by
  obtain ⟨f, fd, F, hm⟩ := T.f__law_of
  exact ⟨f, fd, hm, F.kp, F.bindsN fun _ _ _ _ _ _ us hl => match us, hl with | [_, _], _ => rfl, fo__law_of T F⟩
abbrev N__law_drawn_rows : List Str := ["well", "many", "most", "found", "go", "form", "k"]
theorem nd__law_drawn_rows : (N__law_drawn_rows).Nodup := by decide +kernel
theorem sc__law_drawn_rows : FnScope N__law_drawn_rows ["well", "many", "most"] (defScope (top 52)) := ⟨rfl, rfl, rfl, by decide +kernel, rfl, by decide +kernel, by decide +kernel⟩
theorem db__law_drawn_rows (T : Tb P w K mg) (hx : Hx) (cdv : Value) (A : Around) (outer : List Env) (s : Shared) (H : Hp) (E : XK) (f : Addr) (hr : Room 2 (A.deeper (envOfC "_law_drawn_rows" (defScope (top 52)) s.heap.objs.size f cdv))) : DB (cxF P w K mg base N__law_drawn_rows "_law_drawn_rows" (defScope (top 52)) f cdv A outer s H E) hx (defBody (top 52)) b__law_drawn_rows := by
  have hu : (A.deeper (envOfC "_law_drawn_rows" (defScope (top 52)) s.heap.objs.size f cdv)).units + 65 < cLine := by have := hr.un; omega
  have hu64 : (A.deeper (envOfC "_law_drawn_rows" (defScope (top 52)) s.heap.objs.size f cdv)).units + 64 < cLine := by have := hr.un; omega
  exact db_cons (ds_set nd__law_drawn_rows (d_lstL (da_nil)))
      (db_cons (ds_for (passes_of rfl) rfl (di_rng1 T.m_range (da_cons (d_call ((ok__law_take T).mono (by omega)) hr (da_cons (d_var 0) (da_cons (d_bin od_add (d_var 2) (d_int)) (da_nil)))) (da_nil))) (dg_name nd__law_drawn_rows)
      (db_cons (ds_set nd__law_drawn_rows (d_bin od_add (d_lcG finV_ok rfl nd__law_drawn_rows [("k", 6)] (di_rng1 T.m_range (da_cons (d_var 1) (da_nil))) (blkOk_by (by kernel_rfl)) (by decide) (fun _ _ _ _ _ => dg_name nd__law_drawn_rows) (fun _ _ _ _ _ => dts_nil) (fun _ _ _ _ _ => d_bin od_subB (d_call ((ok__law_take T).mono (by omega)) hr (da_cons (d_var 0) (da_cons (d_int) (da_nil)))) (d_int))) (d_lst (da_cons (d_bin od_subB (d_call ((ok__law_take T).mono (by omega)) hr (da_cons (d_var 0) (da_cons (d_int) (da_nil)))) (d_int)) (da_nil)))))
      (db_one (ds_expr (d_app (d_var 3) (d_tup (da_cons (d_callTy cal_tuple T.m_tuple (da_cons (d_var 5) (da_nil))) (da_cons (d_call ((ok__law_of T).mono (by omega)) hr (da_cons (d_var 0) (da_cons (d_tup (da_cons (d_str) (da_cons (d_str) (da_cons (d_str) (da_cons (d_str) (da_nil)))))) (da_nil)))) (da_nil)))))))))
      (db_one (ds_ret (d_callTy cal_tuple T.m_tuple (da_cons (d_var 3) (da_nil))))))
theorem fo__law_drawn_rows (T : Tb P w K mg) {f : Addr} {fd : FuncData} (F : FunD K "_law_drawn_rows" "_law_drawn_rows" (defArgs (top 52)) (defBody (top 52)) (defScope (top 52)) [] [] f fd) : FnOk P w K mg base (L2.CX P w) 3 f fd ["well", "many", "most"] (spOf K F__law_drawn_rows) :=
  fn_ok F sc__law_drawn_rows fun hx cdv A outer s H E hr => db__law_drawn_rows T hx cdv A outer s H E f hr
theorem ok__law_drawn_rows (T : Tb P w K mg) : Fn P w K mg base "_law_drawn_rows" 3 ["well", "many", "most"] F__law_drawn_rows := by
  obtain ⟨f, fd, F, hm⟩ := T.f__law_drawn_rows
  exact ⟨f, fd, hm, F.kp, F.bindsN fun _ _ _ _ _ _ us hl => match us, hl with | [_, _, _], _ => rfl, fo__law_drawn_rows T F⟩
abbrev N__law_rows_of : List Str := ["rows", "form", "sign"]
theorem nd__law_rows_of : (N__law_rows_of).Nodup := by decide +kernel
theorem sc__law_rows_of : FnScope N__law_rows_of ["rows"] (defScope (top 53)) := ⟨rfl, rfl, rfl, by decide +kernel, rfl, by decide +kernel, by decide +kernel⟩
theorem db__law_rows_of (T : Tb P w K mg) (hx : Hx) (cdv : Value) (A : Around) (outer : List Env) (s : Shared) (H : Hp) (E : XK) (f : Addr) (hr : Room 1 (A.deeper (envOfC "_law_rows_of" (defScope (top 53)) s.heap.objs.size f cdv))) : DB (cxF P w K mg base N__law_rows_of "_law_rows_of" (defScope (top 53)) f cdv A outer s H E) hx (defBody (top 53)) b__law_rows_of := by
  have hu : (A.deeper (envOfC "_law_rows_of" (defScope (top 53)) s.heap.objs.size f cdv)).units + 65 < cLine := by have := hr.un; omega
  have hu64 : (A.deeper (envOfC "_law_rows_of" (defScope (top 53)) s.heap.objs.size f cdv)).units + 64 < cLine := by have := hr.un; omega
  exact db_one (ds_ret (d_lcG finV_ok rfl nd__law_rows_of [("form", 1), ("sign", 2)] (di_val (d_var 0)) (blkOk_by (by kernel_rfl)) (by decide) (fun _ _ _ _ _ => dg_tup rfl (dgs_cons (dg_name nd__law_rows_of) (dgs_cons (dg_name nd__law_rows_of) (dgs_nil)))) (fun _ _ _ _ _ => dts_nil) (fun _ _ _ _ _ => d_tup (da_cons (d_call ((ok__law_as_line T).mono (by omega)) hr (da_cons (d_var 1) (da_nil))) (da_cons (d_var 2) (da_nil))))))
theorem fo__law_rows_of (T : Tb P w K mg) {f : Addr} {fd : FuncData} (F : FunD K "_law_rows_of" "_law_rows_of" (defArgs (top 53)) (defBody (top 53)) (defScope (top 53)) [] [] f fd) : FnOk P w K mg base (L2.CX P w) 2 f fd ["rows"] (spOf K F__law_rows_of) :=
  fn_ok F sc__law_rows_of fun hx cdv A outer s H E hr => db__law_rows_of T hx cdv A outer s H E f hr
theorem ok__law_rows_of (T : Tb P w K mg) : Fn P w K mg base "_law_rows_of" 2 ["rows"] F__law_rows_of := by
  obtain ⟨f, fd, F, hm⟩ := T.f__law_rows_of
  exact ⟨f, fd, hm, F.kp, F.bindsN fun _ _ _ _ _ _ us hl => match us, hl with | [_], _ => rfl, fo__law_rows_of T F⟩
abbrev N__law_near : List Str := ["well", "taken", "found", "each", "k", "part", "odds", "odd"]
theorem nd__law_near : (N__law_near).Nodup := by decide +kernel
theorem sc__law_near : FnScope N__law_near ["well", "taken"] (defScope (top 54)) := ⟨rfl, rfl, rfl, by decide +kernel, rfl, by decide +kernel, by decide +kernel⟩
theorem db__law_near (T : Tb P w K mg) (hx : Hx) (cdv : Value) (A : Around) (outer : List Env) (s : Shared) (H : Hp) (E : XK) (f : Addr) (hr : Room 2 (A.deeper (envOfC "_law_near" (defScope (top 54)) s.heap.objs.size f cdv))) : DB (cxF P w K mg base N__law_near "_law_near" (defScope (top 54)) f cdv A outer s H E) hx (defBody (top 54)) b__law_near := by
  have hu : (A.deeper (envOfC "_law_near" (defScope (top 54)) s.heap.objs.size f cdv)).units + 65 < cLine := by have := hr.un; omega
  have hu64 : (A.deeper (envOfC "_law_near" (defScope (top 54)) s.heap.objs.size f cdv)).units + 64 < cLine := by have := hr.un; omega
  exact db_cons (ds_set nd__law_near (d_lstL (da_cons (d_var 1) (da_cons (d_callTy cal_tuple T.m_tuple (da_cons (d_lcG finV_ok rfl nd__law_near [("each", 3)] (di_val (d_var 1)) (blkOk_by (by kernel_rfl)) (by decide) (fun _ _ _ _ _ => dg_name nd__law_near) (fun _ _ _ _ _ => dts_nil) (fun _ _ _ _ _ => d_call ((ok__law_times T).mono (by omega)) hr (da_cons (d_tup (da_cons (d_int) (da_cons (d_int) (da_nil)))) (da_cons (d_var 3) (da_nil))))) (da_nil))) (da_cons (d_callTy cal_tuple T.m_tuple (da_cons (d_lcG finV_ok rfl nd__law_near [("each", 3)] (di_val (d_var 1)) (blkOk_by (by kernel_rfl)) (by decide) (fun _ _ _ _ _ => dg_name nd__law_near) (fun _ _ _ _ _ => dts_nil) (fun _ _ _ _ _ => d_tup (da_cons (d_bin od_subB (d_int) (d_ix hu (d_var 3) (d_int))) (da_cons (d_ix hu (d_var 3) (d_int)) (da_nil))))) (da_nil))) (da_cons (d_callTy cal_list T.m_list (da_cons (d_var 1) (da_nil))) (da_cons (d_rev (d_var 1)) (da_cons (d_bin od_add (d_var 1) (d_tup (da_cons (d_tup (da_cons (d_int) (da_cons (d_int) (da_nil)))) (da_nil)))) (da_nil)))))))))
      (db_cons (ds_set nd__law_near (d_bin od_catL (d_var 2) (d_lst (da_cons (d_sl (d_var 1) (do_some (d_int)) (do_none)) (da_cons (d_bin od_mulT (d_tup (da_cons (d_tup (da_cons (d_int) (da_cons (d_int) (da_nil)))) (da_nil))) (d_callB cal_len T.m_len (da_cons (d_var 1) (da_nil)))) (da_cons (d_non) (da_cons (d_tup (da_nil)) (da_cons (d_tup (da_cons (d_var 1) (da_nil))) (da_nil)))))))))
      (db_cons (ds_if (dt_cmp (od_ne hu64) (d_var 1) (d_tup (da_nil)))
      (db_cons (ds_set nd__law_near (d_call ((ok__law_take T).mono (by omega)) hr (da_cons (d_var 0) (da_cons (d_callB cal_len T.m_len (da_cons (d_var 1) (da_nil))) (da_nil)))))
      (db_cons (ds_set nd__law_near (d_ix hu (d_var 1) (d_var 4)))
      (db_cons (ds_set nd__law_near (d_lst (da_cons (d_call ((ok__law_plus T).mono (by omega)) hr (da_cons (d_var 5) (da_cons (d_tup (da_cons (d_int) (da_cons (d_int) (da_nil)))) (da_nil)))) (da_cons (d_call ((ok__law_plus T).mono (by omega)) hr (da_cons (d_var 5) (da_cons (d_tup (da_cons (d_neg (d_int)) (da_cons (d_int) (da_nil)))) (da_nil)))) (da_cons (d_tup (da_cons (d_int) (da_cons (d_int) (da_nil)))) (da_cons (d_tup (da_cons (d_bin od_subB (d_int) (d_ix hu (d_var 5) (d_int))) (da_cons (d_ix hu (d_var 5) (d_int)) (da_nil)))) (da_cons (d_non) (da_cons (d_int) (da_cons (d_lst (da_cons (d_int) (da_cons (d_int) (da_nil)))) (da_cons (d_tup (da_cons (d_bin od_mulT (d_int) (d_ix hu (d_var 5) (d_int))) (da_cons (d_bin od_mulT (d_int) (d_ix hu (d_var 5) (d_int))) (da_nil)))) (da_nil)))))))))))
      (db_one (ds_for (passes_of rfl) rfl (di_val (d_bin od_add (d_var 6) (d_lst (da_cons (d_tup (da_cons (d_ix hu (d_var 5) (d_int)) (da_cons (d_bin od_subB (d_int) (d_ix hu (d_var 5) (d_int))) (da_nil)))) (da_cons (d_tup (da_cons (d_ix hu (d_var 5) (d_int)) (da_cons (d_ix hu (d_var 5) (d_int)) (da_cons (d_int) (da_nil))))) (da_cons (d_tup (da_cons (d_callTy cal_str T.m_str (da_cons (d_ix hu (d_var 5) (d_int)) (da_nil))) (da_cons (d_int) (da_nil)))) (da_cons (d_tup (da_cons (d_bl) (da_cons (d_int) (da_nil)))) (da_nil)))))))) (dg_name nd__law_near)
      (db_one (ds_expr (d_app (d_var 2) (d_bin od_add (d_bin od_add (d_sl (d_var 1) (do_none) (do_some (d_var 4))) (d_tup (da_cons (d_var 7) (da_nil)))) (d_sl (d_var 1) (do_some (d_bin od_add (d_var 4) (d_int))) (do_none)))))))))))
      (db_nil))
      (db_one (ds_ret (d_bin od_add (d_var 2) (d_lst (da_cons (d_callTy cal_tuple T.m_tuple (da_cons (d_lcG finV_ok rfl nd__law_near [("each", 3)] (di_val (d_var 1)) (blkOk_by (by kernel_rfl)) (by decide) (fun _ _ _ _ _ => dg_name nd__law_near) (fun _ _ _ _ _ => dts_nil) (fun _ _ _ _ _ => d_tup (da_cons (d_bin od_subB (d_call ((ok__law_take T).mono (by omega)) hr (da_cons (d_var 0) (da_cons (d_int) (da_nil)))) (d_int)) (da_cons (d_bin od_add (d_int) (d_call ((ok__law_take T).mono (by omega)) hr (da_cons (d_var 0) (da_cons (d_int) (da_nil))))) (da_nil))))) (da_nil))) (da_nil))))))))
theorem fo__law_near (T : Tb P w K mg) {f : Addr} {fd : FuncData} (F : FunD K "_law_near" "_law_near" (defArgs (top 54)) (defBody (top 54)) (defScope (top 54)) [] [] f fd) : FnOk P w K mg base (L2.CX P w) 3 f fd ["well", "taken"] (spOf K F__law_near) :=
  fn_ok F sc__law_near fun hx cdv A outer s H E hr => db__law_near T hx cdv A outer s H E f hr
theorem ok__law_near (T : Tb P w K mg) : Fn P w K mg base "_law_near" 3 ["well", "taken"] F__law_near := by
  obtain ⟨f, fd, F, hm⟩ := T.f__law_near
  exact ⟨f, fd, hm, F.kp, F.bindsN fun _ _ _ _ _ _ us hl => match us, hl with | [_, _], _ => rfl, fo__law_near T F⟩
abbrev N__law_right : List Str := ["well", "many", "most", "rows", "taken", "total", "row", "k", "value", "due"]
theorem nd__law_right : (N__law_right).Nodup := by decide +kernel
theorem sc__law_right : FnScope N__law_right ["well", "many", "most"] (defScope (top 55)) := ⟨rfl, rfl, rfl, by decide +kernel, rfl, by decide +kernel, by decide +kernel⟩
theorem db__law_right (T : Tb P w K mg) (hx : Hx) (cdv : Value) (A : Around) (outer : List Env) (s : Shared) (H : Hp) (E : XK) (f : Addr) (hr : Room 6 (A.deeper (envOfC "_law_right" (defScope (top 55)) s.heap.objs.size f cdv))) : DB (cxF P w K mg base N__law_right "_law_right" (defScope (top 55)) f cdv A outer s H E) hx (defBody (top 55)) b__law_right := by
  have hu : (A.deeper (envOfC "_law_right" (defScope (top 55)) s.heap.objs.size f cdv)).units + 65 < cLine := by have := hr.un; omega
  have hu64 : (A.deeper (envOfC "_law_right" (defScope (top 55)) s.heap.objs.size f cdv)).units + 64 < cLine := by have := hr.un; omega
  exact db_cons (ds_set nd__law_right (d_call ((ok__law_drawn_rows T).mono (by omega)) hr (da_cons (d_var 0) (da_cons (d_var 1) (da_cons (d_var 2) (da_nil))))))
      (db_cons (ds_set nd__law_right (d_call ((ok__law_bars T).mono (by omega)) hr (da_cons (d_call ((ok__law_rows_of T).mono (by omega)) hr (da_cons (d_var 3) (da_nil))) (da_cons (d_var 1) (da_nil)))))
      (db_cons (ds_if (dt_cmp od_is (d_var 4) (d_non))
      (db_cons (ds_set nd__law_right (d_callTy cal_tuple T.m_tuple (da_cons (d_lcG finV_ok rfl nd__law_right [("k", 7)] (di_rng1 T.m_range (da_cons (d_bin od_add (d_var 1) (d_int)) (da_nil))) (blkOk_by (by kernel_rfl)) (by decide) (fun _ _ _ _ _ => dg_name nd__law_right) (fun _ _ _ _ _ => dts_nil) (fun _ _ _ _ _ => d_bin od_subB (d_int) (d_callB (cal_sum rfl) T.m_sum (da_cons (d_lcG finV_ok rfl nd__law_right [("row", 6)] (di_val (d_var 3)) (blkOk_by (by kernel_rfl)) (by decide) (fun _ _ _ _ _ => dg_name nd__law_right) (fun _ _ _ _ _ => dts_one (dt_cmp (od_ne hu64) (d_ix hu (d_var 6) (d_int)) (d_str))) (fun _ _ _ _ _ => d_ix hu (d_ix hu (d_var 6) (d_int)) (d_var 7))) (da_nil))))) (da_nil))))
      (db_cons (ds_set nd__law_right (d_bin od_add (d_var 3) (d_tup (da_cons (d_tup (da_cons (d_bin od_add (d_sl (d_var 5) (do_none) (do_some (d_neg (d_int)))) (d_tup (da_cons (d_bin od_add (d_ix hu (d_var 5) (d_neg (d_int))) (d_call ((ok__law_take T).mono (by omega)) hr (da_cons (d_var 0) (da_cons (d_int) (da_nil))))) (da_nil)))) (da_cons (d_str) (da_nil)))) (da_nil)))))
      (db_one (ds_set nd__law_right (d_call ((ok__law_bars T).mono (by omega)) hr (da_cons (d_call ((ok__law_rows_of T).mono (by omega)) hr (da_cons (d_var 3) (da_nil))) (da_cons (d_var 1) (da_nil))))))))
      (db_nil))
      (db_cons (ds_if (dt_cmp od_is (d_var 4) (d_non))
      (db_one (ds_ret (d_bl)))
      (db_nil))
      (db_cons (ds_for (passes_of rfl) rfl (di_val (d_call ((ok__law_near T).mono (by omega)) hr (da_cons (d_var 0) (da_cons (d_var 4) (da_nil))))) (dg_name nd__law_right)
      (db_cons (ds_set nd__law_right (d_call ((ok__law_do_bar T).mono (by omega)) hr (da_cons (d_call ((ok__law_rows_of T).mono (by omega)) hr (da_cons (d_var 3) (da_nil))) (da_cons (d_var 1) (da_cons (d_var 8) (da_nil))))))
      (db_one (ds_if (dt_not (dt_tru (d_call ((ok__law_says T).mono (by omega)) hr (da_cons (d_if (dt_cmp (od_eq hu64) (d_call ((ok__law_take T).mono (by omega)) hr (da_cons (d_var 0) (da_cons (d_int) (da_nil)))) (d_int)) (d_callKw0 ((kw_do_bar_0_value_rows_many T).mono (by omega)) hr (dk_cons (d_var 8) (dk_cons (d_var 3) (dk_cons (d_var 1) (dk_nil))))) (d_call ((ok_do_bar T).mono (by omega)) hr (da_cons (d_var 3) (da_cons (d_var 1) (da_cons (d_var 8) (da_nil)))))) (da_cons (d_var 9) (da_nil))))))
      (db_one (ds_ret (d_bl)))
      (db_nil)))))
      (db_one (ds_ret (d_cmp od_is (d_call ((ok_do_bar T).mono (by omega)) hr (da_cons (d_var 3) (da_cons (d_var 1) (da_cons (d_var 4) (da_nil))))) (d_bl))))))))
theorem fo__law_right (T : Tb P w K mg) {f : Addr} {fd : FuncData} (F : FunD K "_law_right" "_law_right" (defArgs (top 55)) (defBody (top 55)) (defScope (top 55)) [] [] f fd) : FnOk P w K mg base (L2.CX P w) 7 f fd ["well", "many", "most"] (spOf K F__law_right) :=
  fn_ok F sc__law_right fun hx cdv A outer s H E hr => db__law_right T hx cdv A outer s H E f hr
theorem ok__law_right (T : Tb P w K mg) : Fn P w K mg base "_law_right" 7 ["well", "many", "most"] F__law_right := by
  obtain ⟨f, fd, F, hm⟩ := T.f__law_right
  exact ⟨f, fd, hm, F.kp, F.bindsN fun _ _ _ _ _ _ us hl => match us, hl with | [_, _, _], _ => rfl, fo__law_right T F⟩
abbrev N_law : List Str := ["script", "lap", "well", "go", "many", "most", "same", "below", "told"]
theorem nd_law : (N_law).Nodup := by decide +kernel
theorem sc_law : FnScope N_law ["script"] (defScope (top 56)) := ⟨rfl, rfl, rfl, by decide +kernel, rfl, by decide +kernel, by decide +kernel⟩
theorem db_law (T : Tb P w K mg) (hx : Hx) (cdv : Value) (A : Around) (outer : List Env) (s : Shared) (H : Hp) (E : XK) (f : Addr) (hr : Room 7 (A.deeper (envOfC "law" (defScope (top 56)) s.heap.objs.size f cdv))) : DB (cxF P w K mg base N_law "law" (defScope (top 56)) f cdv A outer s H E) hx (defBody (top 56)) b_law := by
  have hu : (A.deeper (envOfC "law" (defScope (top 56)) s.heap.objs.size f cdv)).units + 65 < cLine := by have := hr.un; omega
  have hu64 : (A.deeper (envOfC "law" (defScope (top 56)) s.heap.objs.size f cdv)).units + 64 < cLine := by have := hr.un; omega
  exact db_cons (ds_for (passes_of rfl) rfl (di_rng1 T.m_range (da_cons (d_callB (cal_max rfl) T.m_max (da_cons (d_int) (da_cons (d_callB (cal_min rfl) T.m_min (da_cons (d_callB cal_len T.m_len (da_cons (d_var 0) (da_nil))) (da_cons (d_int) (da_nil)))) (da_nil)))) (da_nil))) (dg_name nd_law)
      (db_cons (ds_set nd_law (d_call ((ok__law_well T).mono (by omega)) hr (da_cons (d_var 0) (da_cons (d_var 1) (da_nil)))))
      (db_one (ds_for (passes_of rfl) rfl (di_rng1 T.m_range (da_cons (d_int) (da_nil))) (dg_name nd_law)
      (db_one (ds_for (passes_of rfl) rfl (di_val (d_tup (da_cons (d_tup (da_cons (d_int) (da_cons (d_int) (da_nil)))) (da_cons (d_tup (da_cons (d_int) (da_cons (d_int) (da_nil)))) (da_cons (d_tup (da_cons (d_int) (da_cons (d_int) (da_nil)))) (da_cons (d_tup (da_cons (d_int) (da_cons (d_int) (da_nil)))) (da_nil))))))) (dg_tup rfl (dgs_cons (dg_name nd_law) (dgs_cons (dg_name nd_law) (dgs_nil))))
      (db_one (ds_if (dt_not (dt_tru (d_call ((ok__law_right T).mono (by omega)) hr (da_cons (d_var 2) (da_cons (d_var 4) (da_cons (d_var 5) (da_nil)))))))
      (db_one (ds_ret (d_bl)))
      (db_nil)))))))))
      (db_cons (ds_asg (d_tup (da_cons (d_tup (da_cons (d_tup (da_cons (d_tup (da_cons (d_int) (da_cons (d_neg (d_int)) (da_nil)))) (da_cons (d_str) (da_nil)))) (da_cons (d_tup (da_cons (d_tup (da_cons (d_neg (d_int)) (da_cons (d_int) (da_nil)))) (da_cons (d_str) (da_nil)))) (da_nil)))) (da_cons (d_tup (da_cons (d_tup (da_cons (d_tup (da_cons (d_int) (da_cons (d_neg (d_int)) (da_nil)))) (da_cons (d_str) (da_nil)))) (da_cons (d_tup (da_cons (d_tup (da_cons (d_neg (d_int)) (da_cons (d_int) (da_nil)))) (da_cons (d_str) (da_nil)))) (da_nil)))) (da_nil)))) (dg_tup rfl (dgs_cons (dg_name nd_law) (dgs_cons (dg_name nd_law) (dgs_nil)))))
      (db_cons (ds_set nd_law (d_lst (da_cons (d_call ((ok_do_bar T).mono (by omega)) hr (da_cons (d_var 6) (da_cons (d_int) (da_cons (d_tup (da_cons (d_tup (da_cons (d_int) (da_cons (d_int) (da_nil)))) (da_cons (d_tup (da_cons (d_int) (da_cons (d_int) (da_nil)))) (da_nil)))) (da_nil))))) (da_cons (d_call ((ok_do_bar T).mono (by omega)) hr (da_cons (d_var 6) (da_cons (d_int) (da_cons (d_tup (da_cons (d_tup (da_cons (d_neg (d_int)) (da_cons (d_int) (da_nil)))) (da_cons (d_tup (da_cons (d_neg (d_int)) (da_cons (d_int) (da_nil)))) (da_nil)))) (da_nil))))) (da_cons (d_call ((ok_do_bar T).mono (by omega)) hr (da_cons (d_var 7) (da_cons (d_int) (da_cons (d_tup (da_cons (d_tup (da_cons (d_int) (da_cons (d_int) (da_nil)))) (da_cons (d_tup (da_cons (d_int) (da_cons (d_int) (da_nil)))) (da_nil)))) (da_nil))))) (da_cons (d_call ((ok_do_bar T).mono (by omega)) hr (da_cons (d_var 7) (da_cons (d_int) (da_cons (d_tup (da_cons (d_tup (da_cons (d_int) (da_cons (d_int) (da_nil)))) (da_cons (d_tup (da_cons (d_int) (da_cons (d_int) (da_nil)))) (da_nil)))) (da_nil))))) (da_nil)))))))
      (db_cons (ds_set nd_law (d_bin od_add (d_var 8) (d_lst (da_cons (d_call ((ok_do_bar T).mono (by omega)) hr (da_cons (d_tup (da_cons (d_tup (da_cons (d_tup (da_cons (d_int) (da_cons (d_int) (da_nil)))) (da_cons (d_str) (da_nil)))) (da_nil))) (da_cons (d_int) (da_cons (d_tup (da_cons (d_tup (da_cons (d_int) (da_cons (d_int) (da_nil)))) (da_nil))) (da_nil))))) (da_cons (d_call ((ok_do_bar T).mono (by omega)) hr (da_cons (d_tup (da_cons (d_tup (da_cons (d_tup (da_cons (d_int) (da_cons (d_int) (da_nil)))) (da_cons (d_str) (da_nil)))) (da_nil))) (da_cons (d_int) (da_cons (d_tup (da_cons (d_tup (da_cons (d_int) (da_cons (d_int) (da_nil)))) (da_nil))) (da_nil))))) (da_nil))))))
      (db_one (ds_ret (d_cmp (od_eq hu64) (d_var 8) (d_lst (da_cons (d_bl) (da_cons (d_bl) (da_cons (d_bl) (da_cons (d_bl) (da_cons (d_bl) (da_cons (d_bl) (da_nil))))))))))))))
theorem fo_law (T : Tb P w K mg) {f : Addr} {fd : FuncData} (F : FunD K "law" "law" (defArgs (top 56)) (defBody (top 56)) (defScope (top 56)) [] [] f fd) : FnOk P w K mg base (L2.CX P w) 8 f fd ["script"] (spOf K F_law) :=
  fn_ok F sc_law fun hx cdv A outer s H E hr => db_law T hx cdv A outer s H E f hr
theorem ok_law (T : Tb P w K mg) : Fn P w K mg base "law" 8 ["script"] F_law := by
  obtain ⟨f, fd, F, hm⟩ := T.f_law
  exact ⟨f, fd, hm, F.kp, F.bindsN fun _ _ _ _ _ _ us hl => match us, hl with | [_], _ => rfl, fo_law T F⟩
end
def names0 : List PySem.Str := ["DuelError", "NotRows", "InvalidNumber", "is_whole", "is_between", "is_tuple_of", "fraction", "is_fraction_by", "whole", "sum_of", "times", "MOST_NUMBERS", "check_many", "NOUGHT", "BELOW", "AT_MOST", "EQUAL", "SIGNS", "MOST_ROWS", "is_row"]
def names1 : List PySem.Str := ["are_rows_by", "is_multiple", "are_multiples", "added_up", "do_bar_by", "check_rows", "do_bar", "_law_well", "_law_take", "_law_says", "_law_whole", "_law_part_of", "_law_plus", "_law_times", "_law_over", "_law_is_part", "_law_line_plus", "_law_alone", "_law_sign", "_law_as_line"]
def names2 : List PySem.Str := ["_law_without", "_law_as_rows", "_law_bars", "_law_do_bar", "_law_of", "_law_drawn_rows", "_law_rows_of", "_law_near", "_law_right"]
def names : List PySem.Str := names0 ++ names1 ++ names2
def dd0 : He.DefD := ⟨("is_whole", none), "is_whole", "is_whole", defArgs (top 6), defBody (top 6), defScope (top 6), [], []⟩
def dd1 : He.DefD := ⟨("is_between", none), "is_between", "is_between", defArgs (top 7), defBody (top 7), defScope (top 7), [], []⟩
def dd2 : He.DefD := ⟨("is_tuple_of", none), "is_tuple_of", "is_tuple_of", defArgs (top 8), defBody (top 8), defScope (top 8), [], []⟩
def dd3 : He.DefD := ⟨("fraction", none), "fraction", "fraction", defArgs (top 9), defBody (top 9), defScope (top 9), [], []⟩
def dd4 : He.DefD := ⟨("is_fraction_by", none), "is_fraction_by", "is_fraction_by", defArgs (top 10), defBody (top 10), defScope (top 10), [], []⟩
def dd5 : He.DefD := ⟨("whole", none), "whole", "whole", defArgs (top 11), defBody (top 11), defScope (top 11), [], []⟩
def dd6 : He.DefD := ⟨("sum_of", none), "sum_of", "sum_of", defArgs (top 12), defBody (top 12), defScope (top 12), [], []⟩
def dd7 : He.DefD := ⟨("times", none), "times", "times", defArgs (top 13), defBody (top 13), defScope (top 13), [], []⟩
def dd8 : He.DefD := ⟨("check_many", none), "check_many", "check_many", defArgs (top 16), defBody (top 16), defScope (top 16), [], []⟩
def dd9 : He.DefD := ⟨("is_row", none), "is_row", "is_row", defArgs (top 24), defBody (top 24), defScope (top 24), [], []⟩
def dd10 : He.DefD := ⟨("are_rows_by", none), "are_rows_by", "are_rows_by", defArgs (top 25), defBody (top 25), defScope (top 25), [], []⟩
def dd11 : He.DefD := ⟨("is_multiple", none), "is_multiple", "is_multiple", defArgs (top 26), defBody (top 26), defScope (top 26), [], []⟩
def dd12 : He.DefD := ⟨("are_multiples", none), "are_multiples", "are_multiples", defArgs (top 27), defBody (top 27), defScope (top 27), [], []⟩
def dd13 : He.DefD := ⟨("added_up", none), "added_up", "added_up", defArgs (top 28), defBody (top 28), defScope (top 28), [], []⟩
def dd14 : He.DefD := ⟨("do_bar_by", none), "do_bar_by", "do_bar_by", defArgs (top 29), defBody (top 29), defScope (top 29), [], []⟩
def dd15 : He.DefD := ⟨("check_rows", none), "check_rows", "check_rows", defArgs (top 31), defBody (top 31), defScope (top 31), [], []⟩
def dd16 : He.DefD := ⟨("do_bar", none), "do_bar", "do_bar", defArgs (top 32), defBody (top 32), defScope (top 32), [], []⟩
def dd17 : He.DefD := ⟨("_law_well", none), "_law_well", "_law_well", defArgs (top 34), defBody (top 34), defScope (top 34), [], []⟩
def dd18 : He.DefD := ⟨("_law_take", none), "_law_take", "_law_take", defArgs (top 35), defBody (top 35), defScope (top 35), [], []⟩
def dd19 : He.DefD := ⟨("_law_says", none), "_law_says", "_law_says", defArgs (top 36), defBody (top 36), defScope (top 36), [], []⟩
def dd20 : He.DefD := ⟨("_law_whole", none), "_law_whole", "_law_whole", defArgs (top 37), defBody (top 37), defScope (top 37), [], []⟩
def dd21 : He.DefD := ⟨("_law_part_of", none), "_law_part_of", "_law_part_of", defArgs (top 38), defBody (top 38), defScope (top 38), [], []⟩
def dd22 : He.DefD := ⟨("_law_plus", none), "_law_plus", "_law_plus", defArgs (top 39), defBody (top 39), defScope (top 39), [], []⟩
def dd23 : He.DefD := ⟨("_law_times", none), "_law_times", "_law_times", defArgs (top 40), defBody (top 40), defScope (top 40), [], []⟩
def dd24 : He.DefD := ⟨("_law_over", none), "_law_over", "_law_over", defArgs (top 41), defBody (top 41), defScope (top 41), [], []⟩
def dd25 : He.DefD := ⟨("_law_is_part", none), "_law_is_part", "_law_is_part", defArgs (top 42), defBody (top 42), defScope (top 42), [], []⟩
def dd26 : He.DefD := ⟨("_law_line_plus", none), "_law_line_plus", "_law_line_plus", defArgs (top 43), defBody (top 43), defScope (top 43), [], []⟩
def dd27 : He.DefD := ⟨("_law_alone", none), "_law_alone", "_law_alone", defArgs (top 44), defBody (top 44), defScope (top 44), [], []⟩
def dd28 : He.DefD := ⟨("_law_sign", none), "_law_sign", "_law_sign", defArgs (top 45), defBody (top 45), defScope (top 45), [], []⟩
def dd29 : He.DefD := ⟨("_law_as_line", none), "_law_as_line", "_law_as_line", defArgs (top 46), defBody (top 46), defScope (top 46), [], []⟩
def dd30 : He.DefD := ⟨("_law_without", none), "_law_without", "_law_without", defArgs (top 47), defBody (top 47), defScope (top 47), [], []⟩
def dd31 : He.DefD := ⟨("_law_as_rows", none), "_law_as_rows", "_law_as_rows", defArgs (top 48), defBody (top 48), defScope (top 48), [], []⟩
def dd32 : He.DefD := ⟨("_law_bars", none), "_law_bars", "_law_bars", defArgs (top 49), defBody (top 49), defScope (top 49), [], []⟩
def dd33 : He.DefD := ⟨("_law_do_bar", none), "_law_do_bar", "_law_do_bar", defArgs (top 50), defBody (top 50), defScope (top 50), [], []⟩
def dd34 : He.DefD := ⟨("_law_of", none), "_law_of", "_law_of", defArgs (top 51), defBody (top 51), defScope (top 51), [], []⟩
def dd35 : He.DefD := ⟨("_law_drawn_rows", none), "_law_drawn_rows", "_law_drawn_rows", defArgs (top 52), defBody (top 52), defScope (top 52), [], []⟩
def dd36 : He.DefD := ⟨("_law_rows_of", none), "_law_rows_of", "_law_rows_of", defArgs (top 53), defBody (top 53), defScope (top 53), [], []⟩
def dd37 : He.DefD := ⟨("_law_near", none), "_law_near", "_law_near", defArgs (top 54), defBody (top 54), defScope (top 54), [], []⟩
def dd38 : He.DefD := ⟨("_law_right", none), "_law_right", "_law_right", defArgs (top 55), defBody (top 55), defScope (top 55), [], []⟩
def dd39 : He.DefD := ⟨("law", none), "law", "law", defArgs (top 56), defBody (top 56), defScope (top 56), [], []⟩
def fn : List He.DefD := [dd0, dd1, dd2, dd3, dd4, dd5, dd6, dd7, dd8, dd9, dd10, dd11, dd12, dd13, dd14, dd15, dd16, dd17, dd18, dd19, dd20, dd21, dd22, dd23, dd24, dd25, dd26, dd27, dd28, dd29, dd30, dd31, dd32, dd33, dd34, dd35, dd36, dd37, dd38, dd39]
def i1s : List (Str × Str) := []
def i0s : List Str := []
def exC (K : PySem.W.Frag) : Bool := i1s.all (ini1B K) && (i0s.all (ini0B K) && ((true && true) && (true)))
def fa : List He.Fa := [.glo "is_whole", .glo "is_between", .glo "is_tuple_of", .glo "fraction", .glo "is_fraction_by", .glo "whole", .glo "sum_of", .glo "times", .glo "check_many", .glo "is_row", .glo "are_rows_by", .glo "is_multiple", .glo "are_multiples", .glo "added_up", .glo "do_bar_by", .glo "check_rows", .glo "do_bar", .glo "_law_well", .glo "_law_take", .glo "_law_says", .glo "_law_whole", .glo "_law_part_of", .glo "_law_plus", .glo "_law_times", .glo "_law_over", .glo "_law_is_part", .glo "_law_line_plus", .glo "_law_alone", .glo "_law_sign", .glo "_law_as_line", .glo "_law_without", .glo "_law_as_rows", .glo "_law_bars", .glo "_law_do_bar", .glo "_law_of", .glo "_law_drawn_rows", .glo "_law_rows_of", .glo "_law_near", .glo "_law_right", .glo "law", .free "abs", .free "all", .free "any", .free "bool", .free "divmod", .free "enumerate", .free "int", .free "isinstance", .free "len", .free "list", .free "max", .free "min", .free "range", .free "str", .free "sum", .free "tuple", .free "zip"]
def kons : List (PySem.Str × D) := [("AT_MOST", K_AT_MOST), ("BELOW", K_BELOW), ("EQUAL", K_EQUAL), ("MOST_NUMBERS", K_MOST_NUMBERS), ("MOST_ROWS", K_MOST_ROWS), ("NOUGHT", K_NOUGHT), ("SIGNS", K_SIGNS)]
def gcds : List PySem.Str := ["gcd"]
def exB (K : PySem.W.Frag) : Bool := (kons.all (konB K) && gcds.all (gcdB K)) && exC K
abbrev R : PySem.W.OpenRow := PySem.W.OpenLaw.row PySem.Challenge.rw_openduels_k42_whole_multiples_of_anythin
abbrev hk : PySem.W.Hook := He.hookX 6 fa fn [] [] exB
def ob (s : PySem.W.SharedT) : He.AlX := He.obsX 6 fa fn [] [] exB (HandSHeadRun.getT s)
theorem ob_eq (s : PySem.W.SharedT) : ob s = hk.obs s.abs := He.obsX_eq (HandSHeadRun.getT_eq s)
theorem run (w : World) : HandSHeadRun.RunEqI R (PySem.W.view R.prog [0, 56]) hk ob 60000 names w := by
  unfold HandSHeadRun.RunEqI
  kernel_rfl
theorem facts {P : Program} {w : World} {K : PySem.W.Frag} {h : Heap} {mg : Str → Option Value} (X : K.In h) (G : h.Ns mainGlobals mg) (c : He.SaysX fa fn [] [] exB w h K) : Tb P w K mg := by
  have ex : exB K = true := c.more
  unfold exB at ex
  obtain ⟨ex, exc⟩ := He.ba ex
  obtain ⟨exc1, exc⟩ := He.ba exc
  obtain ⟨exc0, exc⟩ := He.ba exc
  obtain ⟨exc2, exc3⟩ := He.ba exc
  rw [Bool.and_eq_true] at ex
  have in1 : ∀ (i : Nat) (p : Str × Str), i1s[i]? = some p → IniF K mg p.1 p.2 := fun i p e => ini1B_ok X G (List.all_eq_true.mp exc1 p (List.mem_of_getElem? e))
  have in0 : ∀ (i : Nat) (C : Str), i0s[i]? = some C → Ini0 P w K mg C := fun i p e => ini0B_ok X G (List.all_eq_true.mp exc0 p (List.mem_of_getElem? e))
  have kon : ∀ (i : Nat) (p : Str × D), kons[i]? = some p → ∃ u v, mg p.1 = some u ∧ RelV v u ∧ ∀ lv H, RP K lv H p.2 v := fun i p e => konB_ok X G (List.all_eq_true.mp ex.1 p (List.mem_of_getElem? e))
  have gcd : ∀ (i : Nat) (x : Str), gcds[i]? = some x → mg x = some (.builtin "math.gcd") := fun i x e => gcdB_ok X G (List.all_eq_true.mp ex.2 x (List.mem_of_getElem? e))
  exact {
    f_is_whole := by
      obtain ⟨fd, F⟩ := c.t.d.def_ 0 (d := dd0) rfl
      exact ⟨_, fd, F, He.glo_ok X G (c.t.d.fact 0 (f := .glo "is_whole") rfl)⟩
    f_is_between := by
      obtain ⟨fd, F⟩ := c.t.d.def_ 1 (d := dd1) rfl
      exact ⟨_, fd, F, He.glo_ok X G (c.t.d.fact 1 (f := .glo "is_between") rfl)⟩
    f_is_tuple_of := by
      obtain ⟨fd, F⟩ := c.t.d.def_ 2 (d := dd2) rfl
      exact ⟨_, fd, F, He.glo_ok X G (c.t.d.fact 2 (f := .glo "is_tuple_of") rfl)⟩
    f_fraction := by
      obtain ⟨fd, F⟩ := c.t.d.def_ 3 (d := dd3) rfl
      exact ⟨_, fd, F, He.glo_ok X G (c.t.d.fact 3 (f := .glo "fraction") rfl)⟩
    f_is_fraction_by := by
      obtain ⟨fd, F⟩ := c.t.d.def_ 4 (d := dd4) rfl
      exact ⟨_, fd, F, He.glo_ok X G (c.t.d.fact 4 (f := .glo "is_fraction_by") rfl)⟩
    f_whole := by
      obtain ⟨fd, F⟩ := c.t.d.def_ 5 (d := dd5) rfl
      exact ⟨_, fd, F, He.glo_ok X G (c.t.d.fact 5 (f := .glo "whole") rfl)⟩
    f_sum_of := by
      obtain ⟨fd, F⟩ := c.t.d.def_ 6 (d := dd6) rfl
      exact ⟨_, fd, F, He.glo_ok X G (c.t.d.fact 6 (f := .glo "sum_of") rfl)⟩
    f_times := by
      obtain ⟨fd, F⟩ := c.t.d.def_ 7 (d := dd7) rfl
      exact ⟨_, fd, F, He.glo_ok X G (c.t.d.fact 7 (f := .glo "times") rfl)⟩
    f_check_many := by
      obtain ⟨fd, F⟩ := c.t.d.def_ 8 (d := dd8) rfl
      exact ⟨_, fd, F, He.glo_ok X G (c.t.d.fact 8 (f := .glo "check_many") rfl)⟩
    f_is_row := by
      obtain ⟨fd, F⟩ := c.t.d.def_ 9 (d := dd9) rfl
      exact ⟨_, fd, F, He.glo_ok X G (c.t.d.fact 9 (f := .glo "is_row") rfl)⟩
    f_are_rows_by := by
      obtain ⟨fd, F⟩ := c.t.d.def_ 10 (d := dd10) rfl
      exact ⟨_, fd, F, He.glo_ok X G (c.t.d.fact 10 (f := .glo "are_rows_by") rfl)⟩
    f_is_multiple := by
      obtain ⟨fd, F⟩ := c.t.d.def_ 11 (d := dd11) rfl
      exact ⟨_, fd, F, He.glo_ok X G (c.t.d.fact 11 (f := .glo "is_multiple") rfl)⟩
    f_are_multiples := by
      obtain ⟨fd, F⟩ := c.t.d.def_ 12 (d := dd12) rfl
      exact ⟨_, fd, F, He.glo_ok X G (c.t.d.fact 12 (f := .glo "are_multiples") rfl)⟩
    f_added_up := by
      obtain ⟨fd, F⟩ := c.t.d.def_ 13 (d := dd13) rfl
      exact ⟨_, fd, F, He.glo_ok X G (c.t.d.fact 13 (f := .glo "added_up") rfl)⟩
    f_do_bar_by := by
      obtain ⟨fd, F⟩ := c.t.d.def_ 14 (d := dd14) rfl
      exact ⟨_, fd, F, He.glo_ok X G (c.t.d.fact 14 (f := .glo "do_bar_by") rfl)⟩
    f_check_rows := by
      obtain ⟨fd, F⟩ := c.t.d.def_ 15 (d := dd15) rfl
      exact ⟨_, fd, F, He.glo_ok X G (c.t.d.fact 15 (f := .glo "check_rows") rfl)⟩
    f_do_bar := by
      obtain ⟨fd, F⟩ := c.t.d.def_ 16 (d := dd16) rfl
      exact ⟨_, fd, F, He.glo_ok X G (c.t.d.fact 16 (f := .glo "do_bar") rfl)⟩
    f__law_well := by
      obtain ⟨fd, F⟩ := c.t.d.def_ 17 (d := dd17) rfl
      exact ⟨_, fd, F, He.glo_ok X G (c.t.d.fact 17 (f := .glo "_law_well") rfl)⟩
    f__law_take := by
      obtain ⟨fd, F⟩ := c.t.d.def_ 18 (d := dd18) rfl
      exact ⟨_, fd, F, He.glo_ok X G (c.t.d.fact 18 (f := .glo "_law_take") rfl)⟩
    f__law_says := by
      obtain ⟨fd, F⟩ := c.t.d.def_ 19 (d := dd19) rfl
      exact ⟨_, fd, F, He.glo_ok X G (c.t.d.fact 19 (f := .glo "_law_says") rfl)⟩
    f__law_whole := by
      obtain ⟨fd, F⟩ := c.t.d.def_ 20 (d := dd20) rfl
      exact ⟨_, fd, F, He.glo_ok X G (c.t.d.fact 20 (f := .glo "_law_whole") rfl)⟩
    f__law_part_of := by
      obtain ⟨fd, F⟩ := c.t.d.def_ 21 (d := dd21) rfl
      exact ⟨_, fd, F, He.glo_ok X G (c.t.d.fact 21 (f := .glo "_law_part_of") rfl)⟩
    f__law_plus := by
      obtain ⟨fd, F⟩ := c.t.d.def_ 22 (d := dd22) rfl
      exact ⟨_, fd, F, He.glo_ok X G (c.t.d.fact 22 (f := .glo "_law_plus") rfl)⟩
    f__law_times := by
      obtain ⟨fd, F⟩ := c.t.d.def_ 23 (d := dd23) rfl
      exact ⟨_, fd, F, He.glo_ok X G (c.t.d.fact 23 (f := .glo "_law_times") rfl)⟩
    f__law_over := by
      obtain ⟨fd, F⟩ := c.t.d.def_ 24 (d := dd24) rfl
      exact ⟨_, fd, F, He.glo_ok X G (c.t.d.fact 24 (f := .glo "_law_over") rfl)⟩
    f__law_is_part := by
      obtain ⟨fd, F⟩ := c.t.d.def_ 25 (d := dd25) rfl
      exact ⟨_, fd, F, He.glo_ok X G (c.t.d.fact 25 (f := .glo "_law_is_part") rfl)⟩
    f__law_line_plus := by
      obtain ⟨fd, F⟩ := c.t.d.def_ 26 (d := dd26) rfl
      exact ⟨_, fd, F, He.glo_ok X G (c.t.d.fact 26 (f := .glo "_law_line_plus") rfl)⟩
    f__law_alone := by
      obtain ⟨fd, F⟩ := c.t.d.def_ 27 (d := dd27) rfl
      exact ⟨_, fd, F, He.glo_ok X G (c.t.d.fact 27 (f := .glo "_law_alone") rfl)⟩
    f__law_sign := by
      obtain ⟨fd, F⟩ := c.t.d.def_ 28 (d := dd28) rfl
      exact ⟨_, fd, F, He.glo_ok X G (c.t.d.fact 28 (f := .glo "_law_sign") rfl)⟩
    f__law_as_line := by
      obtain ⟨fd, F⟩ := c.t.d.def_ 29 (d := dd29) rfl
      exact ⟨_, fd, F, He.glo_ok X G (c.t.d.fact 29 (f := .glo "_law_as_line") rfl)⟩
    f__law_without := by
      obtain ⟨fd, F⟩ := c.t.d.def_ 30 (d := dd30) rfl
      exact ⟨_, fd, F, He.glo_ok X G (c.t.d.fact 30 (f := .glo "_law_without") rfl)⟩
    f__law_as_rows := by
      obtain ⟨fd, F⟩ := c.t.d.def_ 31 (d := dd31) rfl
      exact ⟨_, fd, F, He.glo_ok X G (c.t.d.fact 31 (f := .glo "_law_as_rows") rfl)⟩
    f__law_bars := by
      obtain ⟨fd, F⟩ := c.t.d.def_ 32 (d := dd32) rfl
      exact ⟨_, fd, F, He.glo_ok X G (c.t.d.fact 32 (f := .glo "_law_bars") rfl)⟩
    f__law_do_bar := by
      obtain ⟨fd, F⟩ := c.t.d.def_ 33 (d := dd33) rfl
      exact ⟨_, fd, F, He.glo_ok X G (c.t.d.fact 33 (f := .glo "_law_do_bar") rfl)⟩
    f__law_of := by
      obtain ⟨fd, F⟩ := c.t.d.def_ 34 (d := dd34) rfl
      exact ⟨_, fd, F, He.glo_ok X G (c.t.d.fact 34 (f := .glo "_law_of") rfl)⟩
    f__law_drawn_rows := by
      obtain ⟨fd, F⟩ := c.t.d.def_ 35 (d := dd35) rfl
      exact ⟨_, fd, F, He.glo_ok X G (c.t.d.fact 35 (f := .glo "_law_drawn_rows") rfl)⟩
    f__law_rows_of := by
      obtain ⟨fd, F⟩ := c.t.d.def_ 36 (d := dd36) rfl
      exact ⟨_, fd, F, He.glo_ok X G (c.t.d.fact 36 (f := .glo "_law_rows_of") rfl)⟩
    f__law_near := by
      obtain ⟨fd, F⟩ := c.t.d.def_ 37 (d := dd37) rfl
      exact ⟨_, fd, F, He.glo_ok X G (c.t.d.fact 37 (f := .glo "_law_near") rfl)⟩
    f__law_right := by
      obtain ⟨fd, F⟩ := c.t.d.def_ 38 (d := dd38) rfl
      exact ⟨_, fd, F, He.glo_ok X G (c.t.d.fact 38 (f := .glo "_law_right") rfl)⟩
    f_law := by
      obtain ⟨fd, F⟩ := c.t.d.def_ 39 (d := dd39) rfl
      exact ⟨_, fd, F, He.glo_ok X G (c.t.d.fact 39 (f := .glo "law") rfl)⟩
    m_abs := He.free_ok X G (c.t.d.fact 40 (f := .free "abs") rfl)
    m_all := He.free_ok X G (c.t.d.fact 41 (f := .free "all") rfl)
    m_any := He.free_ok X G (c.t.d.fact 42 (f := .free "any") rfl)
    m_bool := He.free_ok X G (c.t.d.fact 43 (f := .free "bool") rfl)
    m_divmod := He.free_ok X G (c.t.d.fact 44 (f := .free "divmod") rfl)
    m_enumerate := He.free_ok X G (c.t.d.fact 45 (f := .free "enumerate") rfl)
    m_int := He.free_ok X G (c.t.d.fact 46 (f := .free "int") rfl)
    m_isinstance := He.free_ok X G (c.t.d.fact 47 (f := .free "isinstance") rfl)
    m_len := He.free_ok X G (c.t.d.fact 48 (f := .free "len") rfl)
    m_list := He.free_ok X G (c.t.d.fact 49 (f := .free "list") rfl)
    m_max := He.free_ok X G (c.t.d.fact 50 (f := .free "max") rfl)
    m_min := He.free_ok X G (c.t.d.fact 51 (f := .free "min") rfl)
    m_range := He.free_ok X G (c.t.d.fact 52 (f := .free "range") rfl)
    m_str := He.free_ok X G (c.t.d.fact 53 (f := .free "str") rfl)
    m_sum := He.free_ok X G (c.t.d.fact 54 (f := .free "sum") rfl)
    m_tuple := He.free_ok X G (c.t.d.fact 55 (f := .free "tuple") rfl)
    m_zip := He.free_ok X G (c.t.d.fact 56 (f := .free "zip") rfl)
    m_gcd := gcd 0 "gcd" rfl
    k_AT_MOST := kon 0 ("AT_MOST", K_AT_MOST) rfl
    k_BELOW := kon 1 ("BELOW", K_BELOW) rfl
    k_EQUAL := kon 2 ("EQUAL", K_EQUAL) rfl
    k_MOST_NUMBERS := kon 3 ("MOST_NUMBERS", K_MOST_NUMBERS) rfl
    k_MOST_ROWS := kon 4 ("MOST_ROWS", K_MOST_ROWS) rfl
    k_NOUGHT := kon 5 ("NOUGHT", K_NOUGHT) rfl
    k_SIGNS := kon 6 ("SIGNS", K_SIGNS) rfl
  }
end K42
open PySem PySem.W PySem.Calls PyProof.Rows
theorem PySem.Challenge.close_k42 (hF : ∀ ns : List Int, ns.length ≤ 63 → (∀ z ∈ ns, Builtin.Int.intBits z ≤ 1048576) → ∃ S, K42.F_law [Y.scr ns] [] = .ok (.d (.bl true)) S) : PySem.Challenge.rw_openduels_k42_whole_multiples_of_anythin.Holds := by
  w_on; o_law
  refine HandSHeadRun.head_imp (r := OpenLaw.row PySem.Challenge.rw_openduels_k42_whole_multiples_of_anythin) (q := view (OpenLaw.row PySem.Challenge.rw_openduels_k42_whole_multiples_of_anythin).prog [0, 56]) (H := K42.hk) (ob := K42.ob) (M := 60000) (loose := K42.names) (d := HandSHeadRun.topDef (OpenLaw.row PySem.Challenge.rw_openduels_k42_whole_multiples_of_anythin).prog 56) (kwd := []) K42.ob_eq
     K42.run (by kernel_rfl) (by kernel_rfl) (by kernel_rfl) (by rfl) (by first | assumption | decide +kernel) (by decide +kernel) ⟨rfl, rfl, rfl, rfl, rfl, by decide +kernel⟩ ?hw ?hc
  case hw => w_witness2
  case hc =>
    refine Y.walk_Y (l := PySem.Challenge.rw_openduels_k42_whole_multiples_of_anythin) (n := 63) (k := 8) (x := "script") (F := K42.F_law) rfl (by decide) (by kernel_rfl) ⟨rfl, by decide, by decide⟩ ?F hF
    intro w mg fa h YY G hmg0
    obtain ⟨K, KX, c⟩ := YY
    have hmg : mg ("law" : PySem.Str) = some (.ref fa) := by
      have e : (HandSHeadRun.topDef (OpenLaw.row PySem.Challenge.rw_openduels_k42_whole_multiples_of_anythin).prog 56).name = ("law" : PySem.Str) := by kernel_rfl
      rw [← e]
      exact hmg0
    have T : K42.Tb (PySem.Challenge.rw_openduels_k42_whole_multiples_of_anythin).prog w K mg := K42.facts KX G c
    obtain ⟨f, fd, F, hm⟩ := T.f_law
    obtain rfl : f = fa := by
      rw [hm] at hmg
      cases hmg
      rfl
    have b := L2.FunD.bindsA (ps := ["script"]) F fun _ _ _ _ _ _ us hl => match us, hl with | [_], _ => rfl
    exact ⟨K, fd, KX, fun s v => b s [v] rfl, fun base _ _ => K42.fo_law T F⟩
end
theorem PySem.Challenge.cw_openduels_k42_whole_multiples_of_anythin_holds : PySem.Challenge.rw_openduels_k42_whole_multiples_of_anythin.Holds := by
  exact PySem.Challenge.close_k42 fun ns h1 h2 => K42.law_ok ns h1 h2
