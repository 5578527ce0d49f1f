import PyProof.Rows.All
import Wide.All
import OpenK.AllK
import Wide.FinOn
import KE.KStateDown
import HandS.Base
import HandS.Call
import HandS.List
import HandS.Comp
import HandS.Ends
import HandS.More
import HandS.Words
import HandS.WordsExc
import HandS.Defaults
import HandS.HeadHook1
import HandS.ExcInit
import HandS.TupAny
import HandS.TupMul
import HandS.Wide
import HandS.WideBits
import HandS.Gcd
import HandS.Exc
import HandS.Text
import HandS.Style
import HandS.Deep
import PyProof.StrBlock2
import HandS.Flow
import HandS.Dict
import HandS.IsInst
import HandS.SortInts
import HandS.Conv
import HandS.WordsDict
import HandS.ExcOwn
import HandS.CallSlots
import HandS.Iter
import HandS.Zip
import KE.GoesEnum
import HandS.MakeKwOnly
import HandS.MapJoin
import HandS.EndBits
import HandS.HeadEnd
import HandS.HeadWalk
import HandS.Head0
import HandS.Head1
import HandS.Head2
import HandS.HeadHook2
import HandS.HeadHook3
import HandS.HeadHook4
import HandS.ExcField
import HandS.ExcIs
import HandS.Small
import HandS.TryMany
import HandS.Replace
import HandS.ReplaceLit
import HandS.SetFor
import KE.GoesMore
import KE.GoesZip
import PyProof.Draws
import HandS.Head3
import PySem.Challenge.RW_openduels_k15_main_whole_worths_of_kinks
set_option Elab.async false
set_option linter.all false
set_option maxRecDepth 100000
section
/-! Y1: deep values, the store, the relation to the abstract heap. -/
namespace Y
open PySem PySem.Spec PyProof.Rows L2

/-- deep values: fls a list that is read alone (the script); gl x what the module's name x stands for; exo an exception held as a value -/
inductive D where
  | non | bl (b : Bool) | int (i : Int) | str (x : Str)
  | tup (l : List D) | lst (l : List D) | fls (l : List D) | dct (ks : List Key) (l : List D)
  | gl (x : Str) | ty (n : String)
  | exo (C : Str) (ns : List Str) (l : List D)
  deriving Inhabited
/-- what a name holds: deep data; the n-th cell of the store; the exception that an except suite holds -/
inductive Wt where
  | d (x : D) | loc (n : Nat) | hex (C : Str) (ns : List Str) (l : List D)
  deriving Inhabited

inductive Cell where
  | dead | lst (l : List D) | dK (l : List (Key × D)) | frz (d : D) | ins (C : Str) (l : List (Str × D))
  deriving Inhabited
def Cell.live : Cell → Bool
  | .lst _ => true
  | .dK _ => true
  | .ins _ _ => true
  | _ => false
abbrev Store := List Cell
abbrev Ads := List (Option Addr)
abbrev Ev := List (Option Wt)

/-- a list that is read alone: let alone, or the module's own -/
def FL (K : PySem.W.Frag) (lv : Addr → Prop) (H : Hp) (a : Addr) (xs : List V) : Prop := (¬ lv a ∧ Rd H a (.lst xs)) ∨
  ∃ (o : Obj) (its : Array Value) (n : Nat), K.lookup a = some o ∧ o.cls = .type "list" ∧ o.dict = none ∧ o.data = .seq its n ∧ its.size ≤ sizeLine ∧ Vals xs its.toList
theorem FL.sq {K : PySem.W.Frag} {lv : Addr → Prop} {H : Hp} {a : Addr} {xs : List V} (h : FL K lv H a xs) : SqL K H a xs := by
  rcases h with ⟨_, h⟩ | h
  · exact .inl h
  · exact .inr h
/-- at a: an exception of the class at C, its dict at d, held as a value -/
def exv (a C : Addr) (d : Option Addr) : HO := .ext fun h => ∃ (oe : Obj) (vs : Array Value), h.get? a = some oe ∧ Zc (.ref C) d oe ∧ oe.data = .fields vs
mutual
inductive RP (K : PySem.W.Frag) (lv : Addr → Prop) (H : Hp) : D → V → Prop
  | non : RP K lv H .non .non
  | bl (b : Bool) : RP K lv H (.bl b) (.bl b)
  | int (i : Int) : RP K lv H (.int i) (.int i)
  | str (x : Str) : RP K lv H (.str x) (.str x)
  | tup {a : Addr} {vs : List V} {ds : List D} : SqT K H a vs → RPs K lv H ds vs → RP K lv H (.tup ds) (.ref a)
  | lst {a : Addr} {vs : List V} {ds : List D} : ¬ lv a → H a = some (.lst vs) → RPs K lv H ds vs → RP K lv H (.lst ds) (.ref a)
  | fls {a : Addr} {vs : List V} {ds : List D} : FL K lv H a vs → RPs K lv H ds vs → RP K lv H (.fls ds) (.ref a)
  | dct {a : Addr} {kvs : List (Key × V)} {ds : List D} : ¬ lv a → Rd H a (.dK kvs) → RPs K lv H ds (kvs.map (·.2)) → RP K lv H (.dct (kvs.map (·.1)) ds) (.ref a)
  | gl (x : Str) : RP K lv H (.gl x) (.ref (He.ga K x))
  | ty (n : String) : RP K lv H (.ty n) (.ty n)
  | exo {C : Str} {ns : List Str} {ds : List D} {a d : Addr} {vs : List V} : ¬ lv a → H a = some (exv a (He.ga K C) (some d)) → ¬ lv d → H d = some (.xd (ns.zip vs)) → ns.length = ds.length → RPs K lv H ds vs → RP K lv H (.exo C ns ds) (.ref a)
  | exo0 {C : Str} {a : Addr} : ¬ lv a → H a = some (exv a (He.ga K C) none) → RP K lv H (.exo C [] []) (.ref a)
inductive RPs (K : PySem.W.Frag) (lv : Addr → Prop) (H : Hp) : List D → List V → Prop
  | nil : RPs K lv H [] []
  | cons {d : D} {v : V} {ds : List D} {vs : List V} : RP K lv H d v → RPs K lv H ds vs → RPs K lv H (d :: ds) (v :: vs)
end

section
variable {K : PySem.W.Frag} {lv lv' : Addr → Prop} {H H' : Hp}
theorem RPs.length : ∀ {ds : List D} {vs : List V}, RPs K lv H ds vs → ds.length = vs.length
  | [], _, h => by cases h; rfl
  | _ :: ds, _, h => by
    cases h with
    | cons _ h2 => simp [RPs.length h2]
theorem rd_mono (hl : ∀ a u, ¬ lv a → H a = some u → ¬ lv' a ∧ H' a = some u) {a : Addr} {u : HO} (n : ¬ lv a) (h : Rd H a u) : ¬ lv' a ∧ Rd H' a u := by
  rcases h with h | ⟨o, h⟩
  · exact ⟨(hl a _ n h).1, .inl (hl a _ n h).2⟩
  · exact ⟨(hl a _ n h).1, .inr ⟨o, (hl a _ n h).2⟩⟩
theorem FL.mono (hl : ∀ a u, ¬ lv a → H a = some u → ¬ lv' a ∧ H' a = some u) {a : Addr} {xs : List V} (h : FL K lv H a xs) : FL K lv' H' a xs := by
  rcases h with ⟨n, h⟩ | h
  · exact .inl (rd_mono hl n h)
  · exact .inr h
mutual
theorem RP.mono (ht : ∀ a vs, SqT K H a vs → SqT K H' a vs) (hl : ∀ a u, ¬ lv a → H a = some u → ¬ lv' a ∧ H' a = some u) : ∀ (d : D) (v : V), RP K lv H d v → RP K lv' H' d v
  | .non, _, h => by cases h; exact .non
  | .bl b, _, h => by cases h; exact .bl b
  | .int b, _, h => by cases h; exact .int b
  | .str b, _, h => by cases h; exact .str b
  | .tup ds, _, h => by
    cases h with
    | tup h1 h2 => exact .tup (ht _ _ h1) (RPs.mono ht hl ds _ h2)
  | .lst ds, _, h => by
    cases h with
    | lst h0 h1 h2 => exact .lst (hl _ _ h0 h1).1 (hl _ _ h0 h1).2 (RPs.mono ht hl ds _ h2)
  | .fls ds, _, h => by
    cases h with
    | fls h1 h2 => exact .fls (h1.mono hl) (RPs.mono ht hl ds _ h2)
  | .dct ks ds, _, h => by
    cases h with
    | dct h0 h1 h2 => exact .dct (rd_mono hl h0 h1).1 (rd_mono hl h0 h1).2 (RPs.mono ht hl ds _ h2)
  | .gl x, _, h => by cases h; exact .gl x
  | .ty n, _, h => by cases h; exact .ty n
  | .exo C ns ds, _, h => by
    cases h with
    | exo h0 h1 h2 h3 h4 h5 => exact .exo (hl _ _ h0 h1).1 (hl _ _ h0 h1).2 (hl _ _ h2 h3).1 (hl _ _ h2 h3).2 h4 (RPs.mono ht hl ds _ h5)
    | exo0 h0 h1 => exact .exo0 (hl _ _ h0 h1).1 (hl _ _ h0 h1).2
theorem RPs.mono (ht : ∀ a vs, SqT K H a vs → SqT K H' a vs) (hl : ∀ a u, ¬ lv a → H a = some u → ¬ lv' a ∧ H' a = some u) : ∀ (ds : List D) (vs : List V), RPs K lv H ds vs → RPs K lv' H' ds vs
  | [], _, h => by cases h; exact .nil
  | d :: ds, _, h => by
    cases h with
    | cons h1 h2 => exact .cons (RP.mono ht hl d _ h1) (RPs.mono ht hl ds _ h2)
end
theorem RPs.get : ∀ {ds : List D} {vs : List V} {i : Nat} {d : D}, RPs K lv H ds vs → ds[i]? = some d → ∃ v, vs[i]? = some v ∧ RP K lv H d v
  | _, _, _, _, .nil, e => by simp at e
  | _, _, 0, _, .cons r _, e => by simp at e; subst e; exact ⟨_, rfl, r⟩
  | _, _, i + 1, x, .cons _ t, e => by
    obtain ⟨u, h1, h2⟩ := RPs.get (i := i) (d := x) t (by simpa using e)
    exact ⟨u, by simpa using h1, h2⟩
theorem RPs.get' : ∀ {ds : List D} {vs : List V} {i : Nat} {v : V}, RPs K lv H ds vs → vs[i]? = some v → ∃ d, ds[i]? = some d ∧ RP K lv H d v
  | _, _, _, _, .nil, e => by simp at e
  | _, _, 0, _, .cons r _, e => by simp at e; subst e; exact ⟨_, rfl, r⟩
  | _, _, i + 1, x, .cons _ t, e => by
    obtain ⟨u, h1, h2⟩ := RPs.get' (i := i) (v := x) t (by simpa using e)
    exact ⟨u, by simpa using h1, h2⟩
theorem RPs.append : ∀ {ds es : List D} {vs us : List V}, RPs K lv H ds vs → RPs K lv H es us → RPs K lv H (ds ++ es) (vs ++ us)
  | _, _, _, _, .nil, s => s
  | _, _, _, _, .cons r t, s => .cons r (RPs.append t s)
theorem RPs.one {d : D} {v : V} (h : RP K lv H d v) : RPs K lv H [d] [v] := .cons h .nil
theorem RPs.take : ∀ {ds : List D} {vs : List V} (n : Nat), RPs K lv H ds vs → RPs K lv H (ds.take n) (vs.take n)
  | _, _, 0, _ => by simpa using RPs.nil
  | _, _, _ + 1, .nil => by simpa using RPs.nil
  | _, _, n + 1, .cons r t => by simpa using RPs.cons r (RPs.take n t)
theorem RPs.drop : ∀ {ds : List D} {vs : List V} (n : Nat), RPs K lv H ds vs → RPs K lv H (ds.drop n) (vs.drop n)
  | _, _, 0, h => by simpa using h
  | _, _, _ + 1, .nil => by simpa using RPs.nil
  | _, _, n + 1, .cons r t => by simpa using RPs.drop n t
theorem RPs.set {d : D} {v : V} (r : RP K lv H d v) : ∀ {ds : List D} {vs : List V} (i : Nat), RPs K lv H ds vs → RPs K lv H (ds.set i d) (vs.set i v)
  | _, _, _, .nil => by simpa using RPs.nil
  | _, _, 0, .cons _ t => by simpa using RPs.cons r t
  | _, _, i + 1, .cons q t => by simpa using RPs.cons q (RPs.set r i t)
theorem RPs.rev : ∀ {ds : List D} {vs : List V}, RPs K lv H ds vs → RPs K lv H ds.reverse vs.reverse
  | _, _, .nil => by simpa using RPs.nil
  | _, _, .cons r t => by simpa using RPs.append (RPs.rev t) (RPs.one r)
end

/-! ### the store over the heap -/
def Live (A : Ads) (S : Store) (a : Addr) : Prop := ∃ (n : Nat) (c : Cell), A[n]? = some (some a) ∧ S[n]? = some c ∧ c.live = true
def COk (K : PySem.W.Frag) (lv : Addr → Prop) (H : Hp) (a : Addr) : Cell → Prop
  | .dead => False
  | .lst l => ∃ vs, H a = some (.lst vs) ∧ RPs K lv H l vs
  | .dK l => ∃ kvs, H a = some (.dK kvs) ∧ kvs.map (·.1) = l.map (·.1) ∧ RPs K lv H (l.map (·.2)) (kvs.map (·.2))
  | .frz d => RP K lv H d (.ref a) ∧ ∃ u, H a = some u
  | .ins C l => ∃ dx fs, H a = some (.ins (He.ga K C) dx fs) ∧ fs.map (·.1) = l.map (·.1) ∧ RPs K lv H (l.map (·.2)) (fs.map (·.2))
structure Rel (K : PySem.W.Frag) (A : Ads) (S : Store) (H : Hp) : Prop where
  len : A.length = S.length
  inj : ∀ (n m : Nat) (a : Addr), A[n]? = some (some a) → A[m]? = some (some a) → n = m
  cell : ∀ (n : Nat) (c : Cell), S[n]? = some c → (c = .dead ∧ A[n]? = some none) ∨ ∃ a, A[n]? = some (some a) ∧ COk K (Live A S) H a c
/-- what is not live stands as it stood, what is live was so or is new -/
structure Fr (A : Ads) (S : Store) (H : Hp) (A' : Ads) (S' : Store) (H' : Hp) : Prop where
  frame : ∀ b o, H b = some o → ¬ Live A S b → H' b = some o
  new : ∀ b, Live A' S' b → Live A S b ∨ H b = none
structure Stp (A : Ads) (S : Store) (H : Hp) (A' : Ads) (S' : Store) (H' : Hp) : Prop where
  ext : ∀ (n : Nat) (a : Addr), A[n]? = some (some a) → A'[n]? = some (some a)
  le : A.length ≤ A'.length
  fr : Fr A S H A' S' H'
section
variable {K : PySem.W.Frag} {A A' A1 A2 : Ads} {S S' S1 S2 : Store} {H H' H1 H2 : Hp}
theorem Fr.refl : Fr A S H A S H := ⟨fun _ _ h _ => h, fun _ h => .inl h⟩
theorem Fr.trans (x : Fr A S H A1 S1 H1) (y : Fr A1 S1 H1 A2 S2 H2) : Fr A S H A2 S2 H2 := by
  refine ⟨fun b o h n => y.frame b o (x.frame b o h n) fun l => ?_, fun b l => ?_⟩
  · rcases x.new b l with l | e
    · exact n l
    · rw [e] at h; cases h
  · rcases y.new b l with l | e
    · exact x.new b l
    · by_cases n : Live A S b
      · exact .inl n
      · cases q : H b with
        | none => exact .inr rfl
        | some o => rw [x.frame b o q n] at e; cases e
theorem Stp.refl : Stp A S H A S H := ⟨fun _ _ h => h, Nat.le_refl _, .refl⟩
theorem Stp.trans (x : Stp A S H A1 S1 H1) (y : Stp A1 S1 H1 A2 S2 H2) : Stp A S H A2 S2 H2 := ⟨fun n a h => y.ext n a (x.ext n a h), Nat.le_trans x.le y.le, x.fr.trans y.fr⟩
/-- a live address holds a list, a dict, an instance -/
theorem Rel.live (R : Rel K A S H) {a : Addr} (l : Live A S a) : ∃ u, H a = some u ∧ ((∃ vs, u = .lst vs) ∨ (∃ kvs, u = .dK kvs) ∨ ∃ C dx fs, u = .ins C dx fs) := by
  obtain ⟨n, c, ha, hc, hl⟩ := l
  rcases R.cell n c hc with ⟨rfl, _⟩ | ⟨a', ha', ok⟩
  · cases hl
  · rw [ha] at ha'
    obtain rfl := Option.some.inj (Option.some.inj ha')
    cases c with
    | dead => cases hl
    | frz d => cases hl
    | lst l => obtain ⟨vs, h, _⟩ := ok; exact ⟨_, h, .inl ⟨_, rfl⟩⟩
    | dK l => obtain ⟨vs, h, _⟩ := ok; exact ⟨_, h, .inr (.inl ⟨_, rfl⟩)⟩
    | ins C l => obtain ⟨dx, vs, h, _⟩ := ok; exact ⟨_, h, .inr (.inr ⟨_, _, _, rfl⟩)⟩
theorem Rel.notLive (R : Rel K A S H) {a : Addr} {u : HO} (h : H a = some u) (n : ∀ vs, u ≠ .lst vs) (n2 : ∀ kvs, u ≠ .dK kvs) (n3 : ∀ C dx fs, u ≠ .ins C dx fs) : ¬ Live A S a := fun l => by
  obtain ⟨u', h', q⟩ := R.live l
  rw [h] at h'
  cases h'
  rcases q with ⟨_, e⟩ | ⟨_, e⟩ | ⟨_, _, _, e⟩
  · exact n _ e
  · exact n2 _ e
  · exact n3 _ _ _ e
theorem Rel.known (R : Rel K A S H) {n : Nat} {a : Addr} (h : A[n]? = some (some a)) : ∃ c u, S[n]? = some c ∧ H a = some u ∧ COk K (Live A S) H a c := by
  have hn : n < S.length := by rw [← R.len]; exact (List.getElem?_eq_some_iff.mp h).1
  have hc : S[n]? = some S[n] := List.getElem?_eq_getElem hn
  rcases R.cell n _ hc with ⟨_, e⟩ | ⟨a', ha', ok⟩
  · rw [h] at e; cases e
  · rw [h] at ha'
    obtain rfl := Option.some.inj (Option.some.inj ha')
    generalize S[n] = c at hc ok
    cases c with
    | dead => exact ok.elim
    | frz d => exact ⟨_, _, hc, ok.2.choose_spec, ok⟩
    | lst l => obtain ⟨vs, q, z⟩ := id ok; exact ⟨_, _, hc, q, ok⟩
    | dK l => obtain ⟨vs, q, z⟩ := id ok; exact ⟨_, _, hc, q, ok⟩
    | ins C l => obtain ⟨dx, vs, q, z⟩ := id ok; exact ⟨_, _, hc, q, ok⟩
theorem Fr.sqT (R : Rel K A S H) (f : Fr A S H A' S' H') {a : Addr} {vs : List V} (h : SqT K H a vs) : SqT K H' a vs := by
  rcases h with (h | ⟨o, h⟩) | h
  · exact .inl (.inl (f.frame _ _ h (R.notLive h (fun _ e => nomatch e) (fun _ e => nomatch e) (fun _ _ _ e => nomatch e))))
  · exact .inl (.inr ⟨o, f.frame _ _ h (R.notLive h (fun _ e => nomatch e) (fun _ e => nomatch e) (fun _ _ _ e => nomatch e))⟩)
  · exact .inr h
theorem Fr.tr (f : Fr A S H A' S' H') (a : Addr) (u : HO) (n : ¬ Live A S a) (h : H a = some u) : ¬ Live A' S' a ∧ H' a = some u := by
  refine ⟨fun l => ?_, f.frame _ _ h n⟩
  rcases f.new a l with l | e
  · exact n l
  · rw [e] at h; cases h
theorem RP.fr (R : Rel K A S H) (f : Fr A S H A' S' H') {d : D} {v : V} (h : RP K (Live A S) H d v) : RP K (Live A' S') H' d v :=
  RP.mono (fun _ _ q => f.sqT R q) f.tr d v h
theorem RPs.fr (R : Rel K A S H) (f : Fr A S H A' S' H') {ds : List D} {vs : List V} (h : RPs K (Live A S) H ds vs) : RPs K (Live A' S') H' ds vs :=
  RPs.mono (fun _ _ q => f.sqT R q) f.tr ds vs h
end

/-! ### what a slot holds -/
/-- the exception that a suite holds: where it stands, its class, its dict -/
abbrev Hx := Addr → Addr → Addr → Prop
abbrev hx0 : Hx := fun _ _ _ => False
def RV (K : PySem.W.Frag) (hx : Hx) (A : Ads) (lv : Addr → Prop) (H : Hp) (d : Wt) (v : V) : Prop := match d with
  | .loc n => ∃ a, A[n]? = some (some a) ∧ v = .ref a
  | .hex C ns l => ∃ a dd vs, v = .ref a ∧ hx a (He.ga K C) dd ∧ H dd = some (.xd (ns.zip vs)) ∧ RPs K lv H l vs ∧ ns.length = l.length
  | .d x => RP K lv H x v
structure RE (K : PySem.W.Frag) (hx : Hx) (A : Ads) (lv : Addr → Prop) (H : Hp) (σd : Ev) (σ : L2.St) : Prop where
  len : σd.length = σ.length
  at_ : ∀ (i : Nat) (d : Wt), σd[i]? = some (some d) → ∃ v, σ[i]? = some (some v) ∧ RV K hx A lv H d v
section
variable {K : PySem.W.Frag} {hx : Hx} {A A' A1 A2 : Ads} {S S' S1 S2 : Store} {H H' H1 H2 : Hp} {d : Wt} {x : D} {v : V} {lv : Addr → Prop}
theorem RV.of (h : RP K lv H x v) : RV K hx A lv H (.d x) v := h
theorem RV.fr (R : Rel K A S H) (f : Fr A S H A' S' H') (e : ∀ (n : Nat) (a : Addr), d = .loc n → A[n]? = some (some a) → A'[n]? = some (some a)) (h : RV K hx A (Live A S) H d v) : RV K hx A' (Live A' S') H' d v := by
  cases d with
  | loc n =>
    obtain ⟨a, h1, h2⟩ := h
    exact ⟨a, e n a rfl h1, h2⟩
  | hex C ns l =>
    obtain ⟨a, dd, vs, h1, h2, h3, h4, h5⟩ := h
    exact ⟨a, dd, vs, h1, h2, f.frame _ _ h3 (R.notLive h3 (fun _ e => nomatch e) (fun _ e => nomatch e) (fun _ _ _ e => nomatch e)), h4.fr R f, h5⟩
  | d x => exact RP.fr R f h
theorem RV.step (R : Rel K A S H) (f : Stp A S H A' S' H') (h : RV K hx A (Live A S) H d v) : RV K hx A' (Live A' S') H' d v := h.fr R f.fr fun n a _ q => f.ext n a q
theorem RE.step {σd : Ev} {σ : L2.St} (R : Rel K A S H) (f : Stp A S H A' S' H') (h : RE K hx A (Live A S) H σd σ) : RE K hx A' (Live A' S') H' σd σ :=
  ⟨h.len, fun i d e => let ⟨v, h1, h2⟩ := h.at_ i d e; ⟨v, h1, h2.step R f⟩⟩
theorem RE.set {σd : Ev} {σ : L2.St} {i : Nat} (h : RE K hx A lv H σd σ) (r : RV K hx A lv H d v) : RE K hx A lv H (σd.set i (some d)) (σ.set i (some v)) := by
  refine ⟨by simp [h.len], fun j d' e => ?_⟩
  by_cases hj : i = j
  · subst hj
    by_cases hl : i < σd.length
    · rw [List.getElem?_set_self hl] at e
      cases e
      exact ⟨v, by rw [List.getElem?_set_self (by rw [← h.len]; exact hl)], r⟩
    · rw [List.getElem?_eq_none (by simpa using hl)] at e; cases e
  · rw [List.getElem?_set_ne hj] at e
    obtain ⟨v', h1, h2⟩ := h.at_ j d' e
    exact ⟨v', by rw [List.getElem?_set_ne hj]; exact h1, h2⟩
/-- fewer slots known -/
theorem RE.weak {σd : Ev} {σ σ' : L2.St} {σd' : Ev} (h : RE K hx A lv H σd σ) (l : σd'.length = σ'.length) (e : ∀ (i : Nat) (d : Wt), σd'[i]? = some (some d) → σd[i]? = some (some d) ∧ ∀ v, σ[i]? = some (some v) → σ'[i]? = some (some v)) : RE K hx A lv H σd' σ' :=
  ⟨l, fun i d q => let ⟨v, h1, h2⟩ := h.at_ i d (e i d q).1; ⟨v, (e i d q).2 v h1, h2⟩⟩
end

/-! ### read through a loc -/
def cellD : Option Cell → Option D
  | some (.lst l) => some (.lst l)
  | some (.dK l) => some (.dct (l.map (·.1)) (l.map (·.2)))
  | some (.frz d) => some d
  | _ => none
def deref (S : Store) : Wt → Option D
  | .d x => some x
  | .loc n => cellD S[n]?
  | .hex _ _ _ => none
/-- what is read, its top not asked to be let alone -/
def RX (K : PySem.W.Frag) (lv : Addr → Prop) (H : Hp) (d : D) (v : V) : Prop :=
  RP K lv H d v ∨ (∃ l a vs, d = .lst l ∧ v = .ref a ∧ H a = some (.lst vs) ∧ RPs K lv H l vs) ∨
    ∃ l a kvs, d = .dct (kvs.map (·.1)) l ∧ v = .ref a ∧ H a = some (.dK kvs) ∧ RPs K lv H l (kvs.map (·.2))
section
variable {K : PySem.W.Frag} {hx : Hx} {A : Ads} {S : Store} {H : Hp} {d : Wt} {x : D} {v : V} {lv : Addr → Prop}
theorem RV.read (R : Rel K A S H) (h : RV K hx A (Live A S) H d v) (e : deref S d = some x) : RX K (Live A S) H x v := by
  cases d with
  | loc n =>
    obtain ⟨a, ha, rfl⟩ := h
    have e : cellD S[n]? = some x := e
    cases hc : S[n]? with
    | none => rw [hc] at e; cases e
    | some c =>
      rw [hc] at e
      rcases R.cell n c hc with ⟨rfl, _⟩ | ⟨a', ha', ok⟩
      · cases e
      · rw [ha] at ha'
        obtain rfl := Option.some.inj (Option.some.inj ha')
        cases c with
        | dead => cases e
        | frz d => cases e; exact .inl ok.1
        | lst l => cases e; obtain ⟨vs, h1, h2⟩ := ok; exact .inr (.inl ⟨l, a, vs, rfl, rfl, h1, h2⟩)
        | dK l =>
          cases e
          obtain ⟨kvs, h1, h2, h3⟩ := ok
          refine .inr (.inr ⟨l.map (·.2), a, kvs, ?_, rfl, h1, h3⟩)
          show D.dct (l.map (·.1)) (l.map (·.2)) = _
          rw [h2]
        | ins C l => cases e
  | hex C ns l => cases e
  | d y => cases e; exact .inl h
theorem RX.lst {l : List D} (h : RX K lv H (.lst l) v) : ∃ a vs, v = .ref a ∧ H a = some (.lst vs) ∧ RPs K lv H l vs := by
  rcases h with h | ⟨l', a, vs, e, rfl, h1, h2⟩ | ⟨l', a, kvs, e, _⟩
  · cases h with
    | lst h0 h1 h2 => exact ⟨_, _, rfl, h1, h2⟩
  · cases e; exact ⟨_, _, rfl, h1, h2⟩
  · cases e
theorem RX.fls {l : List D} (h : RX K lv H (.fls l) v) : ∃ a vs, v = .ref a ∧ SqL K H a vs ∧ RPs K lv H l vs := by
  rcases h with h | ⟨l', a, vs, e, rfl, h1, h2⟩ | ⟨l', a, kvs, e, _⟩
  · cases h with
    | fls h1 h2 => exact ⟨_, _, rfl, h1.sq, h2⟩
  · cases e
  · cases e
theorem RX.tup {l : List D} (h : RX K lv H (.tup l) v) : ∃ a vs, v = .ref a ∧ SqT K H a vs ∧ RPs K lv H l vs := by
  rcases h with h | ⟨l', a, vs, e, _⟩ | ⟨l', a, kvs, e, _⟩
  · cases h with
    | tup h1 h2 => exact ⟨_, _, rfl, h1, h2⟩
  · cases e
  · cases e
theorem RX.dct {ks : List Key} {l : List D} (h : RX K lv H (.dct ks l) v) : ∃ a kvs, v = .ref a ∧ Rd H a (.dK kvs) ∧ kvs.map (·.1) = ks ∧ RPs K lv H l (kvs.map (·.2)) := by
  rcases h with h | ⟨l', a, vs, e, _⟩ | ⟨l', a, kvs, e, rfl, h1, h2⟩
  · cases h with
    | dct h0 h1 h2 => exact ⟨_, _, rfl, h1, rfl, h2⟩
  · cases e
  · cases e; exact ⟨_, _, rfl, .inl h1, rfl, h2⟩
theorem RX.int {i : Int} (h : RX K lv H (.int i) v) : v = .int i := by
  rcases h with h | ⟨l', a, vs, e, _⟩ | ⟨l', a, kvs, e, _⟩
  · cases h; rfl
  · cases e
  · cases e
theorem RX.str {i : Str} (h : RX K lv H (.str i) v) : v = .str i := by
  rcases h with h | ⟨l', a, vs, e, _⟩ | ⟨l', a, kvs, e, _⟩
  · cases h; rfl
  · cases e
  · cases e
theorem RX.bl {i : Bool} (h : RX K lv H (.bl i) v) : v = .bl i := by
  rcases h with h | ⟨l', a, vs, e, _⟩ | ⟨l', a, kvs, e, _⟩
  · cases h; rfl
  · cases e
  · cases e
theorem RX.non (h : RX K lv H .non v) : v = .non := by
  rcases h with h | ⟨l', a, vs, e, _⟩ | ⟨l', a, kvs, e, _⟩
  · cases h; rfl
  · cases e
  · cases e
theorem RX.gl {x : Str} (h : RX K lv H (.gl x) v) : v = .ref (He.ga K x) := by
  rcases h with h | ⟨l', a, vs, e, _⟩ | ⟨l', a, kvs, e, _⟩
  · cases h; rfl
  · cases e
  · cases e
theorem RX.ty {x : String} (h : RX K lv H (.ty x) v) : v = .ty x := by
  rcases h with h | ⟨l', a, vs, e, _⟩ | ⟨l', a, kvs, e, _⟩
  · cases h; rfl
  · cases e
  · cases e
end
end Y
end
section
/-! Y2: what a part does over deep values, and that the machine does it. -/
namespace Y
open PySem PySem.Spec PyProof.Rows L2

inductive Res (α : Type) where
  | ok (a : α) (S : Store) | exc (C : Str) (ns : List Str) (l : List D) (S : Store) | bad
  deriving Inhabited
def Res.bind {α β : Type} (r : Res α) (f : α → Store → Res β) : Res β := match r with
  | .ok a S => f a S
  | .exc C ns l S => .exc C ns l S
  | .bad => .bad
abbrev EM := Ev → Store → Res Wt
abbrev AM := Ev → Store → Res (List Wt)
abbrev TM := Ev → Store → Res Bool

structure Cn where
  K : PySem.W.Frag
  hx : Hx
  W : WX
abbrev RR (α β : Type) := Ads → Store → Hp → α → β → Prop
def rV (c : Cn) : RR Wt V := fun A S H d v => RV c.K c.hx A (Live A S) H d v
def rVs (c : Cn) : RR (List Wt) (List V) := fun A S H ds vs => Paired (rV c A S H) ds vs
def rB : RR Bool Bool := fun _ _ _ a b => a = b
def Post {α β : Type} (c : Cn) (R : RR α β) (σ : L2.St) (A : Ads) (S : Store) (H : Hp) (Q : β → Hp → Prop) : Res α → Prop
  | .ok a S' => ∀ A' H' b, Rel c.K A' S' H' → Stp A S H A' S' H' → R A' S' H' a b → Q b H'
  | .exc C ns l S' => ∀ A' H' dx vs, Rel c.K A' S' H' → Stp A S H A' S' H' → H' dx = some (.xd (ns.zip vs)) → RPs c.K (Live A' S') H' l vs → ns.length = l.length → c.W (.ref (He.ga c.K C)) (some dx) σ H'
  | .bad => False
section
variable {α β γ δ : Type} {c : Cn} {R1 : RR α β} {R2 : RR γ δ} {σ : L2.St} {A A1 : Ads} {S S1 : Store} {H H1 : Hp}
theorem Post.mono {Q Q' : β → Hp → Prop} {r : Res α} (p : Post c R1 σ A S H Q r) (h : ∀ b H', Q b H' → Q' b H') : Post c R1 σ A S H Q' r := by
  cases r with
  | ok a S' => exact fun A' H' b x y z => h _ _ (p A' H' b x y z)
  | exc C ns l S' => exact p
  | bad => exact p
theorem Post.shift {Q : β → Hp → Prop} {r : Res α} (f : Stp A S H A1 S1 H1) (p : Post c R1 σ A S H Q r) : Post c R1 σ A1 S1 H1 Q r := by
  cases r with
  | ok a S' => exact fun A' H' b x y z => p A' H' b x (f.trans y) z
  | exc C ns l S' => exact fun A' H' dx vs x y => p A' H' dx vs x (f.trans y)
  | bad => exact p
theorem Post.bind {Q : δ → Hp → Prop} {r : Res α} {g : α → Store → Res γ} (p : Post c R2 σ A S H Q (r.bind g)) :
    Post c R1 σ A S H (fun b H1 => ∃ A1 S1 a, Rel c.K A1 S1 H1 ∧ Stp A S H A1 S1 H1 ∧ R1 A1 S1 H1 a b ∧ Post c R2 σ A1 S1 H1 Q (g a S1)) r := by
  cases r with
  | ok a S' => exact fun A' H' b x y z => ⟨A', S', a, x, y, z, Post.shift y p⟩
  | exc C ns l S' => exact p
  | bad => exact p
end

/-! ### steps of the store -/
section
variable {K : PySem.W.Frag} {A A' : Ads} {S S' : Store} {H H' : Hp} {p : Addr} {o : HO}
theorem Live.ne (R : Rel K A S H) {a : Addr} (l : Live A S a) (h : H p = none) : a ≠ p := fun e => by
  obtain ⟨u, hu, _⟩ := R.live l
  rw [e, h] at hu
  cases hu
theorem Fr.upd_new (h : H p = none) : Fr A S H A S (upd H p o) := ⟨fun b u e _ => by rw [upd_ne (ne_of_none e h)]; exact e, fun b l => .inl l⟩
theorem COk.fr (R : Rel K A S H) (f : Fr A S H A' S' H') {a : Addr} {c : Cell} (hk : ∀ u, H a = some u → H' a = some u) (ok : COk K (Live A S) H a c) : COk K (Live A' S') H' a c := by
  cases c with
  | dead => exact ok
  | lst l => obtain ⟨vs, h1, h2⟩ := ok; exact ⟨vs, hk _ h1, h2.fr R f⟩
  | dK l => obtain ⟨vs, h1, h2, h3⟩ := ok; exact ⟨vs, hk _ h1, h2, h3.fr R f⟩
  | frz d => exact ⟨RP.fr R f ok.1, _, hk _ ok.2.choose_spec⟩
  | ins C l => obtain ⟨dx, vs, h1, h2, h3⟩ := ok; exact ⟨dx, vs, hk _ h1, h2, h3.fr R f⟩
theorem Rel.new (R : Rel K A S H) (h : H p = none) : Rel K A S (upd H p o) := by
  refine ⟨R.len, R.inj, fun n c hc => ?_⟩
  rcases R.cell n c hc with e | ⟨a, ha, ok⟩
  · exact .inl e
  · exact .inr ⟨a, ha, ok.fr R (Fr.upd_new h) fun u hu => by rw [upd_ne (ne_of_none hu h)]; exact hu⟩
theorem Stp.new (h : H p = none) : Stp A S H A S (upd H p o) := ⟨fun _ _ e => e, Nat.le_refl _, Fr.upd_new h⟩
theorem live_app {c : Cell} (len : A.length = S.length) {b : Addr} (l : Live (A ++ [some p]) (S ++ [c]) b) : Live A S b ∨ (b = p ∧ c.live = true) := by
  obtain ⟨n, c', h1, h2, h3⟩ := l
  by_cases hn : n < A.length
  · rw [List.getElem?_append_left hn] at h1
    rw [List.getElem?_append_left (by omega)] at h2
    exact .inl ⟨n, c', h1, h2, h3⟩
  · rw [List.getElem?_append_right (by omega)] at h1
    rw [List.getElem?_append_right (by omega)] at h2
    have e : n = A.length := by
      have := (List.getElem?_eq_some_iff.mp h1).1
      simp at this
      omega
    subst e
    simp at h1
    rw [len] at h2
    simp at h2
    subst h1 h2
    exact .inr ⟨rfl, h3⟩
/-- a new cell at a new address -/
theorem Fr.alloc {c : Cell} (len : A.length = S.length) (h : H p = none) : Fr A S H (A ++ [some p]) (S ++ [c]) (upd H p o) :=
  ⟨fun b u e _ => by rw [upd_ne (ne_of_none e h)]; exact e, fun b l => by
    rcases live_app len l with l | ⟨e, _⟩
    · exact .inl l
    · rw [e]; exact .inr h⟩
theorem Rel.alloc {c : Cell} (R : Rel K A S H) (h : H p = none) (new : COk K (Live (A ++ [some p]) (S ++ [c])) (upd H p o) p c) :
    Rel K (A ++ [some p]) (S ++ [c]) (upd H p o) ∧ Stp A S H (A ++ [some p]) (S ++ [c]) (upd H p o) := by
  have f : Fr A S H (A ++ [some p]) (S ++ [c]) (upd H p o) := Fr.alloc R.len h
  refine ⟨⟨by simp [R.len], fun n m a h1 h2 => ?_, fun n c' hc => ?_⟩, fun n a e => by rw [List.getElem?_append_left (List.getElem?_eq_some_iff.mp e).1]; exact e, by simp, f⟩
  · have cs : ∀ k : Nat, (A ++ [some p])[k]? = some (some a) → (k < A.length ∧ A[k]? = some (some a)) ∨ (k = A.length ∧ a = p) := fun k hk => by
      by_cases hn : k < A.length
      · rw [List.getElem?_append_left hn] at hk
        exact .inl ⟨hn, hk⟩
      · rw [List.getElem?_append_right (by omega)] at hk
        have e : k = A.length := by
          have := (List.getElem?_eq_some_iff.mp hk).1
          simp at this
          omega
        subst e
        simp at hk
        exact .inr ⟨rfl, hk.symm⟩
    rcases cs n h1 with ⟨l1, q1⟩ | ⟨l1, q1⟩ <;> rcases cs m h2 with ⟨l2, q2⟩ | ⟨l2, q2⟩
    · exact R.inj n m a q1 q2
    · subst q2
      obtain ⟨_, u, _, hu, _⟩ := R.known q1
      rw [h] at hu; cases hu
    · subst q1
      obtain ⟨_, u, _, hu, _⟩ := R.known q2
      rw [h] at hu; cases hu
    · omega
  · by_cases hn : n < S.length
    · rw [List.getElem?_append_left hn] at hc
      rcases R.cell n c' hc with ⟨e, e2⟩ | ⟨a, ha, ok⟩
      · exact .inl ⟨e, by rw [List.getElem?_append_left (by rw [R.len]; exact hn)]; exact e2⟩
      · exact .inr ⟨a, by rw [List.getElem?_append_left (by rw [R.len]; exact hn)]; exact ha, ok.fr R f fun u hu => by rw [upd_ne (ne_of_none hu h)]; exact hu⟩
    · rw [List.getElem?_append_right (by omega)] at hc
      have e : n = S.length := by
        have := (List.getElem?_eq_some_iff.mp hc).1
        simp at this
        omega
      subst e
      simp at hc
      subst hc
      exact .inr ⟨p, by rw [← R.len]; simp, new⟩
end
end Y
end
section
/-! Y3: the judgements, names, constants, displays, operators, tests. -/
namespace Y
open PySem PySem.Spec PyProof.Rows L2

def tE (c : Cn) (f : EM) : TE := fun σ H Q => ∃ A S σd, Rel c.K A S H ∧ RE c.K c.hx A (Live A S) H σd σ ∧ Post c (rV c) σ A S H Q (f σd S)
def tT (c : Cn) (f : TM) : TT := fun σ H Q => ∃ A S σd, Rel c.K A S H ∧ RE c.K c.hx A (Live A S) H σd σ ∧ Post c rB σ A S H Q (f σd S)
def tA (c : Cn) (f : AM) : TA := fun σ H Q => ∃ A S σd, Rel c.K A S H ∧ RE c.K c.hx A (Live A S) H σd σ ∧ Post c (rVs c) σ A S H Q (f σd S)
structure DE (X : Cx) (hx : Hx) (e : Expr) (f : EM) : Prop where
  run : ∀ W, Takes X W → PE X e (tE ⟨X.K, hx, W⟩ f)
structure DT (X : Cx) (hx : Hx) (e : Expr) (f : TM) : Prop where
  run : ∀ W, Takes X W → PT X e (tT ⟨X.K, hx, W⟩ f)
structure DW (X : Cx) (hx : Hx) (e : Expr) (f : TM) : Prop where
  run : ∀ W, Takes X W → PW X e (tT ⟨X.K, hx, W⟩ f)
structure DA (X : Cx) (hx : Hx) (es : List Expr) (f : AM) : Prop where
  run : ∀ W, Takes X W → PA X es (tA ⟨X.K, hx, W⟩ f)
theorem DW.dt {X : Cx} {hx : Hx} {e : Expr} {f : TM} (h : DW X hx e f) : DT X hx e f := ⟨fun W tk => (h.run W tk).pt⟩
theorem PEimp {X : Cx} {e : Expr} {t t' : TE} (h : PE X e t) (i : ∀ σ H Q, t' σ H Q → t σ H Q) : PE X e t' := ⟨fun pins s σ H Q I q => h.run pins s σ H Q I (i σ H Q q)⟩
theorem PTimp {X : Cx} {e : Expr} {t t' : TT} (h : PT X e t) (i : ∀ σ H Q, t' σ H Q → t σ H Q) : PT X e t' := ⟨fun pins s σ H Q I q => h.run pins s σ H Q I (i σ H Q q)⟩
theorem PWimp {X : Cx} {e : Expr} {t t' : TT} (h : PW X e t) (i : ∀ σ H Q, t' σ H Q → t σ H Q) : PW X e t' := ⟨fun w pins s σ H Q I q => h.run w pins s σ H Q I (i σ H Q q)⟩
theorem PAimp {X : Cx} {e : List Expr} {t t' : TA} (h : PA X e t) (i : ∀ σ H Q, t' σ H Q → t σ H Q) : PA X e t' := ⟨fun p pins s σ H Q I q => h.run p pins s σ H Q I (i σ H Q q)⟩
theorem PSimp {X : Cx} {e : Stmt} {t t' : TS} (h : PS X e t) (i : ∀ σ H Q, t' Q σ H → t Q σ H) : PS X e t' := ⟨fun pins s σ H Q I q => h.run pins s σ H Q I (i σ H Q q)⟩

section
variable {α β γ δ : Type} {c : Cn} {R1 : RR α β} {σ : L2.St} {A : Ads} {S : Store} {H : Hp} {Q : V → Hp → Prop}
theorem Post.here {Q : β → Hp → Prop} {a : α} {b : β} (p : Post c R1 σ A S H Q (.ok a S)) (R : Rel c.K A S H) (r : R1 A S H a b) : Q b H := p A H b R .refl r
theorem Post.hereV {d : D} {v : V} (p : Post c (rV c) σ A S H Q (.ok (.d d) S)) (R : Rel c.K A S H) (r : RP c.K (Live A S) H d v) : Q v H := p A H v R .refl (RV.of r)
theorem fr_new {K : PySem.W.Frag} {p : Addr} {o : HO} {ds : List D} {vs : List V} (R : Rel K A S H) (h : H p = none) (r : RPs K (Live A S) H ds vs) : RPs K (Live A S) (upd H p o) ds vs := r.fr R (Fr.upd_new h)
theorem notLive_new {K : PySem.W.Frag} {p : Addr} (R : Rel K A S H) (h : H p = none) : ¬ Live A S p := fun l => (Live.ne R l h) rfl
theorem Post.tup {l : List D} {vs : List V} {p : Addr} (q : Post c (rV c) σ A S H Q (.ok (.d (.tup l)) S)) (R : Rel c.K A S H) (r : RPs c.K (Live A S) H l vs) (h : H p = none) : Q (.ref p) (upd H p (.tup vs)) :=
  q A _ _ (R.new h) (Stp.new h) (RV.of (.tup (SqT.of upd_same) (fr_new R h r)))
theorem Post.lst {l : List D} {vs : List V} {p : Addr} (q : Post c (rV c) σ A S H Q (.ok (.d (.lst l)) S)) (R : Rel c.K A S H) (r : RPs c.K (Live A S) H l vs) (h : H p = none) : Q (.ref p) (upd H p (.lst vs)) :=
  q A _ _ (R.new h) (Stp.new h) (RV.of (.lst (notLive_new R h) upd_same (fr_new R h r)))
end

/-! ### names and constants -/
def eVar (i : Nat) : EM := fun σd S => match σd[i]? with
  | some (some d) => .ok d S
  | _ => .bad
def eC (d : D) : EM := fun _ S => .ok (.d d) S
section
variable {X : Cx} {hx : Hx}
theorem d_var (i : Nat) {x : Str} {pos : Pos} (hN : X.N[i]? = some x := by rfl) (hv : Vis X.env.scope x := by first | exact Or.inl rfl | exact Or.inr (Or.inl rfl) | exact Or.inr (Or.inr rfl)) (hd : (x == ("__debug__" : Str)) = false := by decide)
    (hcd : (x == ("__classdict__" : Str)) = false := by decide) : DE X hx (.Name x pos) (eVar i) := ⟨fun W tk => PEimp (pv i hN hv hd hcd) fun σ H Q ⟨A, S, σd, R, E, p⟩ => by
  unfold eVar at p
  split at p
  · rename_i d e
    obtain ⟨v, h1, h2⟩ := E.at_ i d e
    exact ⟨v, h1, p.here R h2⟩
  · exact p.elim⟩
theorem d_c {e : Expr} {d : D} {v : V} (h : PE X e (tC v)) (r : ∀ lv H, RP X.K lv H d v) : DE X hx e (eC d) := ⟨fun W tk => PEimp h fun σ H Q ⟨A, S, σd, R, E, p⟩ => Post.hereV (c := ⟨X.K, hx, W⟩) p R (r _ _)⟩
theorem d_int {i j pos} : DE X hx (.Constant (.int i) j pos) (eC (.int i)) := d_c pe_int fun _ _ => .int i
theorem d_bl {b j pos} : DE X hx (.Constant (.bool b) j pos) (eC (.bl b)) := d_c pe_bl fun _ _ => .bl b
theorem d_non {j pos} : DE X hx (.Constant .none j pos) (eC .non) := d_c pe_non fun _ _ => .non
theorem d_str {x j pos} : DE X hx (.Constant (.str x) j pos) (eC (.str x)) := d_c pe_str fun _ _ => .str x
/-- a module's constant -/
structure Kon (X : Cx) (x : Str) (d : D) : Prop where
  is : ∃ u v, X.mg x = some u ∧ RelV v u ∧ ∀ lv H, RP X.K lv H d v
theorem d_glob {x : Str} {pos : Pos} {d : D} (k : Kon X x d) (hg : Gl X x := by rfl) (hd : (x == ("__debug__" : Str)) = false := by decide) : DE X hx (.Name x pos) (eC d) := by
  obtain ⟨u, v, h1, h2, h3⟩ := k.is
  exact d_c (pe_glob hg h1 h2 hd) h3

/-! ### argument lists, displays -/
def aNil : AM := fun _ S => .ok [] S
def aCons (f : EM) (g : AM) : AM := fun σd S => (f σd S).bind fun d S1 => (g σd S1).bind fun ds S2 => .ok (d :: ds) S2
theorem da_nil : DA X hx [] aNil := ⟨fun W tk => PAimp pa_nil fun σ H Q ⟨A, S, σd, R, E, p⟩ => p.here R .nil⟩
theorem da_cons {e : Expr} {es : List Expr} {f : EM} {g : AM} (h1 : DE X hx e f) (h2 : DA X hx es g) (hs : starEach (e :: es) X.env = (false, eval e X.env) :: starEach es X.env := by rfl) : DA X hx (e :: es) (aCons f g) :=
  ⟨fun W tk => PAimp (pa_cons (h1.run W tk) (h2.run W tk) hs) fun σ H Q ⟨A, S, σd, R, E, p⟩ =>
    ⟨A, S, σd, R, E, (Post.bind (R1 := rV _) p).mono fun v H1 ⟨A1, S1, d, R1, T1, r1, p1⟩ => ⟨A1, S1, σd, R1, E.step R T1, (Post.bind (R1 := rVs _) p1).mono fun vs H2 ⟨A2, S2, ds, R2, T2, r2, p2⟩ =>
      p2.here R2 (.cons (r1.step R1 T2) r2)⟩⟩⟩
/-- what goes into a container is let alone from then on -/
def fzC (S : Store) (n : Nat) : Option Cell → Res D
  | some (.lst l) => .ok (.lst l) (S.set n (.frz (.lst l)))
  | some (.dK l) => .ok (.dct (l.map (·.1)) (l.map (·.2))) (S.set n (.frz (.dct (l.map (·.1)) (l.map (·.2)))))
  | some (.frz d) => .ok d S
  | _ => .bad
def fz1 (S : Store) : Wt → Res D
  | .d x => .ok x S
  | .loc n => fzC S n S[n]?
  | .hex _ _ _ => .bad
def fzs (S : Store) : List Wt → Res (List D)
  | [] => .ok [] S
  | d :: ds => (fz1 S d).bind fun d' S1 => (fzs S1 ds).bind fun ds' S2 => .ok (d' :: ds') S2
end
section
variable {K : PySem.W.Frag} {hx : Hx} {A : Ads} {S : Store} {H : Hp} {d : Wt} {v : V}
theorem set_cases {S : Store} {n m : Nat} {c c' : Cell} (h : (S.set n c)[m]? = some c') : (m = n ∧ c' = c) ∨ (m ≠ n ∧ S[m]? = some c') := by
  by_cases e : n = m
  · subst e
    by_cases hl : n < S.length
    · rw [List.getElem?_set_self hl] at h
      exact .inl ⟨rfl, (Option.some.inj h).symm⟩
    · rw [List.getElem?_eq_none (by simpa using hl)] at h; cases h
  · rw [List.getElem?_set_ne e] at h
    exact .inr ⟨fun z => e z.symm, h⟩
/-- a live cell is let alone from now on -/
theorem freeze_ok {n : Nat} {a : Addr} {e : D} (R : Rel K A S H) (ha : A[n]? = some (some a)) (hr : ∀ lv, ¬ lv a → (∀ b, lv b → Live A S b) → RP K lv H e (.ref a)) (hu : ∃ u, H a = some u) :
    Rel K A (S.set n (.frz e)) H ∧ Stp A S H A (S.set n (.frz e)) H ∧ RP K (Live A (S.set n (.frz e))) H e (.ref a) := by
  have sub : ∀ b, Live A (S.set n (.frz e)) b → Live A S b ∧ b ≠ a := fun b ⟨m, c, h1, h2, h3⟩ => by
    rcases set_cases h2 with ⟨rfl, rfl⟩ | ⟨hm, h2⟩
    · cases h3
    · refine ⟨⟨m, c, h1, h2, h3⟩, fun z => hm (R.inj m n a (by rw [← z]; exact h1) ha)⟩
  have f : Fr A S H A (S.set n (.frz e)) H := ⟨fun _ _ h _ => h, fun b l => .inl (sub b l).1⟩
  have rp : RP K (Live A (S.set n (.frz e))) H e (.ref a) := hr _ (fun l => (sub a l).2 rfl) fun b l => (sub b l).1
  refine ⟨⟨by simp [R.len], R.inj, fun m c hc => ?_⟩, ⟨fun _ _ h => h, Nat.le_refl _, f⟩, rp⟩
  rcases set_cases hc with ⟨rfl, rfl⟩ | ⟨hm, h2⟩
  · exact .inr ⟨a, ha, rp, hu⟩
  · rcases R.cell m c h2 with q | ⟨a', ha', ok⟩
    · exact .inl q
    · exact .inr ⟨a', ha', ok.fr R f fun _ h => h⟩
theorem fz1_ok (R : Rel K A S H) (r : RV K hx A (Live A S) H d v) {d' : D} {S' : Store} (h : fz1 S d = .ok d' S') : Rel K A S' H ∧ Stp A S H A S' H ∧ RP K (Live A S') H d' v := by
  cases d with
  | loc n =>
    obtain ⟨a, ha, rfl⟩ := r
    obtain ⟨c, u, hc, hu, ok⟩ := R.known ha
    have h : fzC S n S[n]? = .ok d' S' := h
    rw [hc] at h
    cases c with
    | dead => exact ok.elim
    | ins C l => cases h
    | frz d => cases h; exact ⟨R, .refl, ok.1⟩
    | lst l =>
      cases h
      obtain ⟨vs, h1, h2⟩ := ok
      exact freeze_ok R ha (fun lv n s => .lst n h1 (RPs.mono (fun _ _ q => q) (fun b u nb q => ⟨fun z => nb (s b z), q⟩) _ _ h2)) ⟨_, h1⟩
    | dK l =>
      cases h
      obtain ⟨kvs, h1, h2, h3⟩ := ok
      refine freeze_ok R ha (fun lv n s => ?_) ⟨_, h1⟩
      rw [← h2]
      exact .dct n (.inl h1) (RPs.mono (fun _ _ q => q) (fun b u nb q => ⟨fun z => nb (s b z), q⟩) _ _ h3)
  | hex C ns l => cases h
  | d x => cases h; exact ⟨R, .refl, r⟩
theorem fz1_exc {C : Str} {ns : List Str} {l : List D} {S' : Store} : fz1 S d ≠ .exc C ns l S' := by
  cases d with
  | loc n =>
    intro h
    have h : fzC S n S[n]? = .exc C ns l S' := h
    unfold fzC at h
    split at h <;> cases h
  | _ => intro h; cases h
theorem fzs_ok : ∀ {S : Store} {ds : List Wt} {vs : List V}, Rel K A S H → Paired (fun d v => RV K hx A (Live A S) H d v) ds vs → ∀ {l : List D} {S' : Store}, fzs S ds = .ok l S' → Rel K A S' H ∧ Stp A S H A S' H ∧ RPs K (Live A S') H l vs
  | S, _, _, R, .nil, l, S', h => by cases h; exact ⟨R, .refl, .nil⟩
  | S, _, _, R, .cons (a := d) (l₁ := ds) r t, l, S', h => by
    unfold fzs Res.bind at h
    cases e : fz1 S d with
    | bad => rw [e] at h; cases h
    | exc C ns k S2 => exact (fz1_exc e).elim
    | ok d' S1 =>
      rw [e] at h
      obtain ⟨R1, T1, r1⟩ := fz1_ok R r e
      cases e2 : fzs S1 ds with
      | bad => simp [e2] at h
      | exc C ns k S2 => simp [e2] at h
      | ok ds' S2 =>
        simp only [e2] at h
        cases h
        obtain ⟨R2, T2, r2⟩ := fzs_ok R1 (Paired.mapP t fun d v q => RV.step (hx := hx) R T1 q) e2
        exact ⟨R2, T1.trans T2, .cons (r1.fr R1 T2.fr) r2⟩
theorem fzs_exc : ∀ {S : Store} {ds : List Wt} {C : Str} {ns : List Str} {l : List D} {S' : Store}, fzs S ds ≠ .exc C ns l S'
  | S, [], _, _, _, _ => fun h => by cases h
  | S, d :: ds, C, ns, l, S' => fun h => by
    unfold fzs Res.bind at h
    cases e : fz1 S d with
    | bad => rw [e] at h; cases h
    | exc C ns k S2 => exact (fz1_exc e).elim
    | ok d' S1 =>
      rw [e] at h
      cases e2 : fzs S1 ds with
      | bad => simp [e2] at h
      | exc C ns k S2 => exact (fzs_exc e2).elim
      | ok ds' S2 => simp [e2] at h
end
abbrev lim : Nat := 10000000
theorem lim_line {n : Nat} (h : n ≤ lim) : n ≤ sizeLine := by rw [sizeLine_eq]; have : n ≤ 10000000 := h; omega
theorem lim_lt {n : Nat} (h : n < lim) : n < sizeLine := by rw [sizeLine_eq]; have : n < 10000000 := h; omega
/-- a tuple, a list of written items; listL: a new cell of the store -/
def mkSeq (t : Bool) (l : List D) (S : Store) : Res Wt := if l.length ≤ lim then .ok (.d (if t then .tup l else .lst l)) S else .bad
def eTup (g : AM) : EM := fun σd S => (g σd S).bind fun ds S1 => (fzs S1 ds).bind fun l S2 => mkSeq true l S2
def eLst (g : AM) : EM := fun σd S => (g σd S).bind fun ds S1 => (fzs S1 ds).bind fun l S2 => mkSeq false l S2
def eLstL (g : AM) : EM := fun σd S => (g σd S).bind fun ds S1 => (fzs S1 ds).bind fun l S2 => if l.length ≤ lim then .ok (.loc S2.length) (S2 ++ [.lst l]) else .bad
section
variable {X : Cx} {hx : Hx} {es : List Expr} {g : AM} {pos : Pos}
/-- what goes in is made ready -/
theorem Post.fzs {c : Cn} {σ : L2.St} {A : Ads} {S : Store} {H : Hp} {ds : List Wt} {vs : List V} {γ δ : Type} {R2 : RR γ δ} {Q : δ → Hp → Prop} {k : List D → Store → Res γ} (R : Rel c.K A S H) (r : rVs c A S H ds vs)
    (p : Post c R2 σ A S H Q ((Y.fzs S ds).bind k)) : ∃ l S', Rel c.K A S' H ∧ Stp A S H A S' H ∧ RPs c.K (Live A S') H l vs ∧ l.length = vs.length ∧ Post c R2 σ A S' H Q (k l S') := by
  cases e : Y.fzs S ds with
  | bad => rw [e] at p; exact p.elim
  | exc C ns k S2 => exact (fzs_exc e).elim
  | ok l S' =>
    rw [e] at p
    obtain ⟨R1, T1, r1⟩ := fzs_ok R r e
    exact ⟨l, S', R1, T1, r1, r1.length, Post.shift T1 p⟩
theorem Post.fz1 {c : Cn} {σ : L2.St} {A : Ads} {S : Store} {H : Hp} {d : Wt} {v : V} {γ δ : Type} {R2 : RR γ δ} {Q : δ → Hp → Prop} {k : D → Store → Res γ} (R : Rel c.K A S H) (r : rV c A S H d v)
    (p : Post c R2 σ A S H Q ((Y.fz1 S d).bind k)) : ∃ d' S', Rel c.K A S' H ∧ Stp A S H A S' H ∧ RP c.K (Live A S') H d' v ∧ Post c R2 σ A S' H Q (k d' S') := by
  cases e : Y.fz1 S d with
  | bad => rw [e] at p; exact p.elim
  | exc C ns k S2 => exact (fz1_exc e).elim
  | ok l S' =>
    rw [e] at p
    obtain ⟨R1, T1, r1⟩ := fz1_ok R r e
    exact ⟨l, S', R1, T1, r1, Post.shift T1 p⟩
theorem Post.iteP {c : Cn} {γ δ : Type} {R2 : RR γ δ} {σ : L2.St} {A : Ads} {S : Store} {H : Hp} {Q : δ → Hp → Prop} {b : Prop} [Decidable b] {r : Res γ} (p : Post c R2 σ A S H Q (if b then r else .bad)) : b ∧ Post c R2 σ A S H Q r := by
  by_cases h : b
  · rw [if_pos h] at p; exact ⟨h, p⟩
  · rw [if_neg h] at p; exact p.elim
theorem d_tup {x1} (h : DA X hx es g) : DE X hx (.Tuple es x1 pos) (eTup g) := ⟨fun W tk => PEimp (pe_tup (h.run W tk)) fun σ H Q ⟨A, S, σd, R, E, p⟩ =>
  ⟨A, S, σd, R, E, (Post.bind (R1 := rVs _) p).mono fun vs H1 ⟨A1, S1, ds, R1, T1, r1, p1⟩ => by
    obtain ⟨l, S2, R2, T2, r2, hl, p2⟩ := p1.fzs R1 r1
    obtain ⟨hz, p3⟩ := Post.iteP p2
    exact ⟨by rw [← hl]; exact lim_line hz, fun q hq => p3.tup R2 r2 hq⟩⟩⟩
theorem d_lst (h : DA X hx es g) : DE X hx (.List es pos) (eLst g) := ⟨fun W tk => PEimp (pe_lst (h.run W tk)) fun σ H Q ⟨A, S, σd, R, E, p⟩ =>
  ⟨A, S, σd, R, E, (Post.bind (R1 := rVs _) p).mono fun vs H1 ⟨A1, S1, ds, R1, T1, r1, p1⟩ => by
    obtain ⟨l, S2, R2, T2, r2, hl, p2⟩ := p1.fzs R1 r1
    obtain ⟨hz, p3⟩ := Post.iteP p2
    exact ⟨by rw [← hl]; exact lim_line hz, fun q hq => p3.lst R2 r2 hq⟩⟩⟩
theorem Post.alloc {c : Cn} {σ : L2.St} {A : Ads} {S : Store} {H : Hp} {Q : V → Hp → Prop} {l : List D} {vs : List V} {p : Addr} (q : Post c (rV c) σ A S H Q (.ok (.loc S.length) (S ++ [.lst l]))) (R : Rel c.K A S H) (r : RPs c.K (Live A S) H l vs) (h : H p = none) :
    Q (.ref p) (upd H p (.lst vs)) := by
  obtain ⟨R1, T1⟩ := Rel.alloc (c := .lst l) (o := .lst vs) R h ⟨vs, upd_same, r.fr R (Fr.alloc R.len h)⟩
  exact q _ _ _ R1 T1 ⟨p, by rw [← R.len]; simp, rfl⟩
theorem d_lstL (h : DA X hx es g) : DE X hx (.List es pos) (eLstL g) := ⟨fun W tk => PEimp (pe_lst (h.run W tk)) fun σ H Q ⟨A, S, σd, R, E, p⟩ =>
  ⟨A, S, σd, R, E, (Post.bind (R1 := rVs _) p).mono fun vs H1 ⟨A1, S1, ds, R1, T1, r1, p1⟩ => by
    obtain ⟨l, S2, R2, T2, r2, hl, p2⟩ := p1.fzs R1 r1
    obtain ⟨hz, p3⟩ := Post.iteP p2
    exact ⟨by rw [← hl]; exact lim_line hz, fun q hq => p3.alloc R2 r2 hq⟩⟩⟩
end
end Y
end
section
/-! Y4: operators and comparisons. -/
namespace Y
open PySem PySem.Spec PyProof.Rows L2

def rD (c : Cn) (f : Wt → Wt → Store → Res Wt) : R2 := fun x y H Q => ∃ A S σ d1 d2, Rel c.K A S H ∧ rV c A S H d1 x ∧ rV c A S H d2 y ∧ Post c (rV c) σ A S H Q (f d1 d2 S)
def OpD (X : Cx) (hx : Hx) (op : Value → Value → Sem Value) (f : Wt → Wt → Store → Res Wt) : Prop := ∀ W, OpR X op (rD ⟨X.K, hx, W⟩ f)
theorem readAs {c : Cn} {A : Ads} {S : Store} {H : Hp} {d : Wt} {d' : D} {v : V} (R : Rel c.K A S H) (r : rV c A S H d v) (e : deref S d = some d') : RX c.K (Live A S) H d' v := RV.read R r e

def opAdd (a b : Wt) (S : Store) : Res Wt := match deref S a, deref S b with
  | some (.int i), some (.int j) => .ok (.d (.int (i + j))) S
  | some (.str x), some (.str y) => if x.length + y.length ≤ lim then .ok (.d (.str (x ++ y))) S else .bad
  | some (.tup l), some (.tup m) => if l.length + m.length ≤ lim then .ok (.d (.tup (l ++ m))) S else .bad
  | some (.lst l), some (.lst m) => if l.length + m.length ≤ lim then .ok (.d (.lst (l ++ m))) S else .bad
  | _, _ => .bad
/-- a list + a list, into a new cell -/
def opCatL (a b : Wt) (S : Store) : Res Wt := match deref S a, deref S b with
  | some (.lst l), some (.lst m) => if l.length + m.length ≤ lim then .ok (.loc S.length) (S ++ [.lst (l ++ m)]) else .bad
  | _, _ => .bad
def opSub (a b : Wt) (S : Store) : Res Wt := match deref S a, deref S b with
  | some (.int i), some (.int j) => .ok (.d (.int (i - j))) S
  | _, _ => .bad
def mulOk (i j : Int) : Bool := decide (i.natAbs.log2 + j.natAbs.log2 ≤ 100000000)
def repT (l : List D) (k : Int) : Option (List D) := if l = [] ∨ k ≤ 0 then none else none
def opMul (a b : Wt) (S : Store) : Res Wt := match deref S a, deref S b with
  | some (.int i), some (.int j) => if mulOk i j then .ok (.d (.int (i * j))) S else .bad
  | some (.lst l), some (.int k) => if 0 ≤ k ∧ k < 10000000 ∧ l.length * k.toNat ≤ lim then .ok (.d (.lst (List.replicate k.toNat l).flatten)) S else .bad
  | some (.str x), some (.int k) => if 0 ≤ k ∧ k ≤ 1000 ∧ x.length ≤ 1000 then .ok (.d (.str (Txt.mul x k))) S else .bad
  | some (.tup l), some (.int k) => if l ≠ [] ∧ 2 ≤ k ∧ k ≤ 1000 ∧ l.length ≤ 1000 then .ok (.d (.tup (List.replicate k.toNat l).flatten)) S else .bad
  | _, _ => .bad
def opRepL (a b : Wt) (S : Store) : Res Wt := match deref S a, deref S b with
  | some (.lst l), some (.int k) => if 0 ≤ k ∧ k < 10000000 ∧ l.length * k.toNat ≤ lim then .ok (.loc S.length) (S ++ [.lst (List.replicate k.toNat l).flatten]) else .bad
  | _, _ => .bad
def opFdiv (a b : Wt) (S : Store) : Res Wt := match deref S a, deref S b with
  | some (.int i), some (.int j) => if j ≠ 0 ∧ j.natAbs.log2 < 9000 then .ok (.d (.int (i.fdiv j))) S else .bad
  | _, _ => .bad
def opMod (a b : Wt) (S : Store) : Res Wt := match deref S a, deref S b with
  | some (.int i), some (.int j) => if j ≠ 0 then .ok (.d (.int (i.fmod j))) S else .bad
  | _, _ => .bad
def opPow (a b : Wt) (S : Store) : Res Wt := match deref S a, deref S b with
  | some (.int i), some (.int j) => if 0 ≤ j ∧ j ≤ 1000000 ∧ i.natAbs < 2 ^ 64 then .ok (.d (.int (i ^ j.toNat))) S else .bad
  | _, _ => .bad
def opNeg (a : Wt) (S : Store) : Res Wt := match deref S a with
  | some (.int i) => .ok (.d (.int (-i))) S
  | _ => .bad

section
variable {X : Cx} {hx : Hx}
theorem RPs.len {K : PySem.W.Frag} {lv : Addr → Prop} {H : Hp} {l : List D} {vs : List V} (h : RPs K lv H l vs) : l.length = vs.length := h.length
theorem rps_nil {K : PySem.W.Frag} {lv : Addr → Prop} {H : Hp} {l : List D} (h : RPs K lv H l []) : l = [] := by cases h; rfl
theorem od_add : OpD X hx (binaryOp .Add) opAdd := by
  intro W pins s σ H x y v u Q I rx ry h
  obtain ⟨A, S, σ', d1, d2, R, r1, r2, p⟩ := h
  unfold opAdd at p
  split at p
  · rename_i i j e1 e2
    exact op_add pins s σ H x y v u Q I rx ry ⟨i, j, (readAs R r1 e1).int, (readAs R r2 e2).int, p.hereV R (.int _)⟩
  · rename_i i j e1 e2
    obtain ⟨hz, p⟩ := Post.iteP p
    exact op_add_str pins s σ H x y v u Q I rx ry ⟨i, j, (readAs R r1 e1).str, (readAs R r2 e2).str, lim_line hz, p.hereV R (.str _)⟩
  · rename_i i j e1 e2
    obtain ⟨hz, p⟩ := Post.iteP p
    obtain ⟨a, vs, rfl, h1, g1⟩ := (readAs R r1 e1).tup
    obtain ⟨b, us, rfl, h2, g2⟩ := (readAs R r2 e2).tup
    refine op_catA pins s σ H _ _ v u Q I rx ry ⟨a, b, vs, us, rfl, rfl, h1, h2, ?_, fun e => ?_, fun _ e => ?_, fun _ _ q hq => ?_⟩
    · rw [← g1.len, ← g2.len]; exact lim_line hz
    · subst e
      have := rps_nil g1
      subst this
      exact p.hereV R (.tup h2 g2)
    · subst e
      have := rps_nil g2
      subst this
      rw [List.append_nil] at p
      exact p.hereV R (.tup h1 g1)
    · exact p.tup R (g1.append g2) hq
  · rename_i i j e1 e2
    obtain ⟨hz, p⟩ := Post.iteP p
    obtain ⟨a, vs, rfl, h1, g1⟩ := (readAs R r1 e1).lst
    obtain ⟨b, us, rfl, h2, g2⟩ := (readAs R r2 e2).lst
    exact op_cat pins s σ H _ _ v u Q I rx ry ⟨a, b, vs, us, rfl, rfl, h1, h2, by rw [← g1.len, ← g2.len]; exact lim_line hz, fun q hq => p.lst R (g1.append g2) hq⟩
  · exact p.elim
theorem od_catL : OpD X hx (binaryOp .Add) opCatL := by
  intro W pins s σ H x y v u Q I rx ry h
  obtain ⟨A, S, σ', d1, d2, R, r1, r2, p⟩ := h
  unfold opCatL at p
  split at p
  · rename_i i j e1 e2
    obtain ⟨hz, p⟩ := Post.iteP p
    obtain ⟨a, vs, rfl, h1, g1⟩ := (readAs R r1 e1).lst
    obtain ⟨b, us, rfl, h2, g2⟩ := (readAs R r2 e2).lst
    exact op_cat pins s σ H _ _ v u Q I rx ry ⟨a, b, vs, us, rfl, rfl, h1, h2, by rw [← g1.len, ← g2.len]; exact lim_line hz, fun q hq => p.alloc R (g1.append g2) hq⟩
  · exact p.elim
theorem od_sub : OpD X hx (binaryOp .Sub) opSub := by
  intro W pins s σ H x y v u Q I rx ry h
  obtain ⟨A, S, σ', d1, d2, R, r1, r2, p⟩ := h
  unfold opSub at p
  split at p
  · rename_i i j e1 e2
    exact op_sub pins s σ H x y v u Q I rx ry ⟨i, j, (readAs R r1 e1).int, (readAs R r2 e2).int, p.hereV R (.int _)⟩
  · exact p.elim
theorem rps_rep {K : PySem.W.Frag} {lv : Addr → Prop} {H : Hp} {l : List D} {vs : List V} (h : RPs K lv H l vs) : ∀ n : Nat, RPs K lv H (List.replicate n l).flatten (List.replicate n vs).flatten
  | 0 => by simpa using RPs.nil
  | n + 1 => by
    rw [List.replicate_succ, List.replicate_succ, List.flatten_cons, List.flatten_cons]
    exact h.append (rps_rep h n)
theorem mulOk_ok {i j : Int} (h : mulOk i j = true) : CMulX i j := by
  have h := of_decide_eq_true h
  have b : ∀ x : Int, Builtin.Int.intBits x ≤ x.natAbs.log2 + 1 := fun x => by
    unfold Builtin.Int.intBits
    split <;> omega
  have h1 := b i
  have h2 := b j
  unfold CMulX
  omega
theorem mulS_ok {x : Str} {k : Int} (h0 : 0 ≤ k) (h1 : k ≤ 1000) (h2 : x.length ≤ 1000) : MulOk x k := by
  refine ⟨by rw [decide_eq_false (by omega), decide_eq_false (by omega)]; rfl, fun a _ b => ?_, fun a _ => ?_⟩
  · have : ((x.length : Nat) : Int) ≤ (2 ^ 63 - 1) / k := by
      rw [Int.le_ediv_iff_mul_le (by omega)]
      have a1 : ((x.length : Nat) : Int) * k ≤ 1000 * k := Int.mul_le_mul_of_nonneg_right (by omega) (by omega)
      omega
    omega
  · have a1 : x.length * k.toNat ≤ 1000 * 1000 := Nat.mul_le_mul h2 (by omega)
    unfold Builtin.Str.tooLong
    rw [sizeLine_eq]
    exact decide_eq_false (by omega)
theorem op_mulS {X : Cx} : OpR X (binaryOp .Mult) (fun x y H Q => ∃ (i : Str) (k : Int), x = .str i ∧ y = .int k ∧ 0 ≤ k ∧ k ≤ 1000 ∧ i.length ≤ 1000 ∧ Q (.str (Txt.mul i k)) H) := by
  intro pins s σ H x y v u Q I rx ry h
  obtain ⟨i, k, rfl, rfl, h0, h1, h2, q⟩ := h
  obtain ⟨t, rfl⟩ := rx
  obtain ⟨t', rfl⟩ := ry
  exact SB.mul (mulS_ok h0 h1 h2) fun t' tk => ⟨.str (Txt.mul i k), H, I.tok _, ⟨_, rfl⟩, q⟩
theorem od_mul : OpD X hx (binaryOp .Mult) opMul := by
  intro W pins s σ H x y v u Q I rx ry h
  obtain ⟨A, S, σ', d1, d2, R, r1, r2, p⟩ := h
  unfold opMul at p
  split at p
  · rename_i i j e1 e2
    obtain ⟨hz, p⟩ := Post.iteP p
    exact op_mulX pins s σ H x y v u Q I rx ry ⟨i, j, (readAs R r1 e1).int, (readAs R r2 e2).int, mulOk_ok hz, p.hereV R (.int _)⟩
  · rename_i i j e1 e2
    obtain ⟨⟨z1, z2, z3⟩, p⟩ := Post.iteP p
    obtain ⟨a, vs, rfl, h1, g1⟩ := (readAs R r1 e1).lst
    have h2 := (readAs R r2 e2).int
    exact op_rep pins s σ H _ _ v u Q I rx ry ⟨a, j, vs, rfl, h2, h1, by omega, by omega, by rw [← g1.len]; exact lim_line z3, fun q hq => p.lst R (rps_rep g1 _) hq⟩
  · rename_i i j e1 e2
    obtain ⟨⟨z0, z1, z2⟩, p⟩ := Post.iteP p
    exact op_mulS pins s σ H x y v u Q I rx ry ⟨i, j, (readAs R r1 e1).str, (readAs R r2 e2).int, z0, z1, z2, p.hereV R (.str _)⟩
  · rename_i i j e1 e2
    obtain ⟨⟨z0, z1, z2, z3⟩, p⟩ := Post.iteP p
    obtain ⟨a, vs, rfl, h1, g1⟩ := (readAs R r1 e1).tup
    have h2 := (readAs R r2 e2).int
    exact op_repT pins s σ H _ _ v u Q I rx ry ⟨a, j, vs, rfl, h2, h1, fun e => z0 (by subst e; exact rps_nil g1), z1, z2, by rw [← g1.len]; exact z3, fun q hq => p.tup R (rps_rep g1 _) hq⟩
  · exact p.elim
theorem od_repL : OpD X hx (binaryOp .Mult) opRepL := by
  intro W pins s σ H x y v u Q I rx ry h
  obtain ⟨A, S, σ', d1, d2, R, r1, r2, p⟩ := h
  unfold opRepL at p
  split at p
  · rename_i i j e1 e2
    obtain ⟨⟨z1, z2, z3⟩, p⟩ := Post.iteP p
    obtain ⟨a, vs, rfl, h1, g1⟩ := (readAs R r1 e1).lst
    have h2 := (readAs R r2 e2).int
    exact op_rep pins s σ H _ _ v u Q I rx ry ⟨a, j, vs, rfl, h2, h1, by omega, by omega, by rw [← g1.len]; exact lim_line z3, fun q hq => p.alloc R (rps_rep g1 _) hq⟩
  · exact p.elim
theorem op_fdivG : OpR X (binaryOp .FloorDiv) (rI (fun _ j => j ≠ 0 ∧ j.natAbs.log2 < 9000) fun i j => .int (i.fdiv j)) := opI fun i j _ _ _ _ _ hc q =>
  floordiv_int hc.1 q (.inl (PyProof.noPylong_of_log2 hc.2))
theorem od_fdiv : OpD X hx (binaryOp .FloorDiv) opFdiv := by
  intro W pins s σ H x y v u Q I rx ry h
  obtain ⟨A, S, σ', d1, d2, R, r1, r2, p⟩ := h
  unfold opFdiv at p
  split at p
  · rename_i i j e1 e2
    obtain ⟨hz, p⟩ := Post.iteP p
    exact op_fdivG pins s σ H x y v u Q I rx ry ⟨i, j, (readAs R r1 e1).int, (readAs R r2 e2).int, hz, p.hereV R (.int _)⟩
  · exact p.elim
theorem od_mod : OpD X hx (binaryOp .Mod) opMod := by
  intro W pins s σ H x y v u Q I rx ry h
  obtain ⟨A, S, σ', d1, d2, R, r1, r2, p⟩ := h
  unfold opMod at p
  split at p
  · rename_i i j e1 e2
    obtain ⟨hz, p⟩ := Post.iteP p
    exact op_modN pins s σ H x y v u Q I rx ry ⟨i, j, (readAs R r1 e1).int, (readAs R r2 e2).int, hz, p.hereV R (.int _)⟩
  · exact p.elim
theorem od_pow : OpD X hx (binaryOp .Pow) opPow := by
  intro W pins s σ H x y v u Q I rx ry h
  obtain ⟨A, S, σ', d1, d2, R, r1, r2, p⟩ := h
  unfold opPow at p
  split at p
  · rename_i i j e1 e2
    obtain ⟨hz, p⟩ := Post.iteP p
    exact op_pow pins s σ H x y v u Q I rx ry ⟨i, j, (readAs R r1 e1).int, (readAs R r2 e2).int, hz, p.hereV R (.int _)⟩
  · exact p.elim
end

/-! ### equality -/
mutual
def toPy : D → Option PyData
  | .non => some .none
  | .bl b => some (.bool b)
  | .int i => some (.int i)
  | .str x => some (.str x)
  | .tup l => match toPys l with
    | some ds => some (.tuple ds)
    | none => none
  | .lst l => match toPys l with
    | some ds => some (.list ds)
    | none => none
  | _ => none
def toPys : List D → Option (List PyData)
  | [] => some []
  | d :: ds => match toPy d, toPys ds with
    | some p, some ps => some (p :: ps)
    | _, _ => none
end
section
variable {K : PySem.W.Frag} {lv : Addr → Prop} {H : Hp}
mutual
theorem dp_of : ∀ (d : D) (v : V) (p : PyData), RP K lv H d v → toPy d = some p → Dp K H v p
  | .non, _, _, h, e => by cases h; simp [toPy] at e; subst e; exact .non
  | .bl b, _, _, h, e => by cases h; simp [toPy] at e; subst e; exact .bl b
  | .int b, _, _, h, e => by cases h; simp [toPy] at e; subst e; exact .int b
  | .str b, _, _, h, e => by cases h; simp [toPy] at e; subst e; exact .str b
  | .tup l, _, _, h, e => by
    cases h with
    | tup h1 h2 =>
      rw [toPy] at e
      cases q : toPys l with
      | none => rw [q] at e; cases e
      | some ds => rw [q] at e; cases e; exact .tup h1 (dps_of l _ ds h2 q)
  | .lst l, _, _, h, e => by
    cases h with
    | lst h0 h1 h2 =>
      rw [toPy] at e
      cases q : toPys l with
      | none => rw [q] at e; cases e
      | some ds => rw [q] at e; cases e; exact .lst (SqL.of h1) (dps_of l _ ds h2 q)
  | .fls _, _, _, _, e => by simp [toPy] at e
  | .dct _ _, _, _, _, e => by simp [toPy] at e
  | .gl _, _, _, _, e => by simp [toPy] at e
  | .ty _, _, _, _, e => by simp [toPy] at e
  | .exo _ _ _, _, _, _, e => by simp [toPy] at e
theorem dps_of : ∀ (ds : List D) (vs : List V) (ps : List PyData), RPs K lv H ds vs → toPys ds = some ps → DpAll K H vs ps
  | [], _, _, h, e => by cases h; simp [toPys] at e; subst e; exact .nil
  | d :: ds, _, _, h, e => by
    cases h with
    | cons h1 h2 =>
      rw [toPys] at e
      cases q1 : toPy d with
      | none => rw [q1] at e; cases e
      | some p =>
        cases q2 : toPys ds with
        | none => rw [q1, q2] at e; cases e
        | some ps => rw [q1, q2] at e; cases e; exact .cons (dp_of d _ p h1 q1) (dps_of ds _ ps h2 q2)
end
theorem dpx_of {d : D} {v : V} {p : PyData} (h : RX K lv H d v) (e : toPy d = some p) : Dp K H v p := by
  rcases h with h | ⟨l, a, vs, rfl, rfl, h1, h2⟩ | ⟨l, a, kvs, rfl, _⟩
  · exact dp_of d v p h e
  · rw [toPy] at e
    cases q : toPys l with
    | none => rw [q] at e; cases e
    | some ds => rw [q] at e; cases e; exact .lst (SqL.of h1) (dps_of l _ ds h2 q)
  · simp [toPy] at e
end
/-- none, bools, ints, texts -/
def D.scal : D → D → Bool
  | .non, .non => true | .non, .int _ => true | .int _, .non => true | .non, .bl _ => true | .bl _, .non => true | .non, .str _ => true | .str _, .non => true
  | .int _, .int _ => true | .bl _, .bl _ => true | .str _, .str _ => true
  | .int _, .str _ => true | .str _, .int _ => true | .bl _, .str _ => true | .str _, .bl _ => true
  | _, _ => false
def deq (a b : D) : Bool := match toPy a, toPy b with
  | some p, some q => PyData.eqv p q
  | _, _ => false
/-- plain data, not too deep: == is told of it -/
def D.shp (d : D) : Bool := match toPy d with
  | some p => SeqAt.shaped p
  | none => false
def eqOk (a b : D) : Bool := a.scal b || (a.shp && b.shp)
def opEq (neg : Bool) (a b : Wt) (S : Store) : Res Wt := match deref S a, deref S b with
  | some x, some y => if eqOk x y then .ok (.d (.bl (if neg then !deq x y else deq x y))) S else .bad
  | _, _ => .bad
theorem shp_ok {d : D} (h : d.shp = true) : ∃ p, toPy d = some p ∧ SeqAt.shaped p = true := by
  unfold D.shp at h
  cases e : toPy d with
  | none => rw [e] at h; cases h
  | some p => rw [e] at h; exact ⟨p, rfl, h⟩
theorem scal_ok {K : PySem.W.Frag} {lv : Addr → Prop} {H : Hp} {a b : D} {x y : V} (ra : RX K lv H a x) (rb : RX K lv H b y) (h : a.scal b = true) : L2.scal x y = true ∧ decide (x = y) = deq a b := by
  unfold D.scal at h
  split at h <;> first
    | ((first | obtain rfl := ra.non | obtain rfl := ra.int | obtain rfl := ra.bl | obtain rfl := ra.str) <;> (first | obtain rfl := rb.non | obtain rfl := rb.int | obtain rfl := rb.bl | obtain rfl := rb.str) <;> refine ⟨rfl, ?_⟩ <;> simp [deq, toPy, PyData.eqv, Bool.beq_eq_decide_eq]; done)
    | cases h
section
variable {X : Cx} {hx : Hx}
theorem od_eq (hu : X.A.units + 64 < cLine) : OpD X hx (compareOp .Eq) (opEq false) := by
  intro W pins s σ H x y v u Q I rx ry h
  obtain ⟨A, S, σ', d1, d2, R, r1, r2, p⟩ := h
  unfold opEq at p
  split at p
  · rename_i a b g1 g2
    obtain ⟨hz, p⟩ := Post.iteP p
    unfold eqOk at hz
    cases hs : a.scal b with
    | true =>
      obtain ⟨q1, q2⟩ := scal_ok (readAs R r1 g1) (readAs R r2 g2) hs
      refine op_eq pins s σ H x y v u Q I rx ry ⟨q1, ?_⟩
      rw [q2]
      exact p.hereV R (.bl _)
    | false =>
      rw [hs, Bool.false_or, Bool.and_eq_true] at hz
      obtain ⟨p1, e1, s1⟩ := shp_ok hz.1
      obtain ⟨p2, e2, s2⟩ := shp_ok hz.2
      refine op_eqD hu pins s σ H x y v u Q I rx ry ⟨p1, p2, dpx_of (readAs R r1 g1) e1, dpx_of (readAs R r2 g2) e2, s1, s2, ?_⟩
      have e : deq a b = PyData.eqv p1 p2 := by unfold deq; rw [e1, e2]
      rw [← e]
      exact p.hereV R (.bl _)
  · exact p.elim
theorem od_ne (hu : X.A.units + 64 < cLine) : OpD X hx (compareOp .NotEq) (opEq true) := by
  intro W pins s σ H x y v u Q I rx ry h
  obtain ⟨A, S, σ', d1, d2, R, r1, r2, p⟩ := h
  unfold opEq at p
  split at p
  · rename_i a b g1 g2
    obtain ⟨hz, p⟩ := Post.iteP p
    unfold eqOk at hz
    cases hs : a.scal b with
    | true =>
      obtain ⟨q1, q2⟩ := scal_ok (readAs R r1 g1) (readAs R r2 g2) hs
      refine op_ne pins s σ H x y v u Q I rx ry ⟨q1, ?_⟩
      rw [q2]
      exact p.hereV R (.bl _)
    | false =>
      rw [hs, Bool.false_or, Bool.and_eq_true] at hz
      obtain ⟨p1, e1, s1⟩ := shp_ok hz.1
      obtain ⟨p2, e2, s2⟩ := shp_ok hz.2
      refine op_neD hu pins s σ H x y v u Q I rx ry ⟨p1, p2, dpx_of (readAs R r1 g1) e1, dpx_of (readAs R r2 g2) e2, s1, s2, ?_⟩
      have e : deq a b = PyData.eqv p1 p2 := by unfold deq; rw [e1, e2]
      rw [← e]
      exact p.hereV R (.bl _)
  · exact p.elim
end
end Y
end
section
/-! Y5: comparisons, in, is, subscripts, slices, and, or, not, if, tests. -/
namespace Y
open PySem PySem.Spec PyProof.Rows L2

def eOp (f : Wt → Wt → Store → Res Wt) (fa fb : EM) : EM := fun σd S => (fa σd S).bind fun x S1 => (fb σd S1).bind fun y S2 => f x y S2
def eUn (f : Wt → Store → Res Wt) (fa : EM) : EM := fun σd S => (fa σd S).bind fun x S1 => f x S1
theorem eOp_tOp {c : Cn} {f : Wt → Wt → Store → Res Wt} {fa fb : EM} {σ : L2.St} {H : Hp} {Q : VK} (h : tE c (eOp f fa fb) σ H Q) : tOp (rD c f) (tE c fa) (tE c fb) σ H Q := by
  obtain ⟨A, S, σd, R, E, p⟩ := h
  exact ⟨A, S, σd, R, E, (Post.bind (R1 := rV c) p).mono fun v H1 ⟨A1, S1, d, R1, T1, r1, p1⟩ => ⟨A1, S1, σd, R1, E.step R T1, (Post.bind (R1 := rV c) p1).mono fun u H2 ⟨A2, S2, d2, R2, T2, r2, p2⟩ =>
    ⟨A2, S2, σ, d, d2, R2, r1.step R1 T2, r2, p2⟩⟩⟩
/-- a bool -/
def asB : Wt → Store → Res Bool
  | .d (.bl b), S => .ok b S
  | _, _ => .bad
def tBl (f : EM) : TM := fun σd S => (f σd S).bind asB
theorem asB_cases (d : Wt) (S : Store) : (∃ b, d = .d (.bl b)) ∨ Y.asB d S = .bad := by
  cases d with
  | d x => cases x <;> first | exact .inl ⟨_, rfl⟩ | exact .inr rfl
  | _ => exact .inr rfl
theorem Post.asB {c : Cn} {σ : L2.St} {A : Ads} {S : Store} {H : Hp} {d : Wt} {v : V} {Q : Bool → Hp → Prop} (R : Rel c.K A S H) (r : rV c A S H d v) (p : Post c rB σ A S H Q (Y.asB d S)) : ∃ k, v = .bl k ∧ Q k H := by
  rcases asB_cases d S with ⟨b, rfl⟩ | e
  · have e : RP c.K (Live A S) H (.bl b) v := r
    cases e
    exact ⟨b, rfl, p.here R rfl⟩
  · rw [e] at p; exact p.elim
theorem tBl_of {c : Cn} {f : EM} {σ : L2.St} {H : Hp} {Q : Bool → Hp → Prop} (h : tT c (tBl f) σ H Q) : tE c f σ H fun x H' => ∃ k, x = .bl k ∧ Q k H' := by
  obtain ⟨A, S, σd, R, E, p⟩ := h
  exact ⟨A, S, σd, R, E, (Post.bind (R1 := rV c) p).mono fun v H1 ⟨A1, S1, d, R1, T1, r1, p1⟩ => p1.asB R1 r1⟩
section
variable {X : Cx} {hx : Hx} {a b c : Expr} {fa fb fc : EM} {f f' : Wt → Wt → Store → Res Wt} {pos : Pos}
theorem d_bin {op : Operator} (ho : OpD X hx (binaryOp op) f) (ha : DE X hx a fa) (hb : DE X hx b fb) : DE X hx (.BinOp a op b pos) (eOp f fa fb) := ⟨fun W tk => PEimp (pe_op (ho W) (ha.run W tk) (hb.run W tk)) fun σ H Q h => eOp_tOp h⟩
theorem d_cmp {op : CmpOp} (ho : OpD X hx (compareOp op) f) (ha : DE X hx a fa) (hb : DE X hx b fb) (hm : behindInMarks op b = false := by first | exact nobehind _ (by decide) (by decide) | rfl | with_unfolding_all rfl) : DE X hx (.Compare a [op] [b] pos) (eOp f fa fb) :=
  ⟨fun W tk => PEimp (pe_cmpR (ho W) (ha.run W tk) (hb.run W tk) hm) fun σ H Q h => eOp_tOp h⟩
theorem dt_cmp {op : CmpOp} (ho : OpD X hx (compareOp op) f) (ha : DE X hx a fa) (hb : DE X hx b fb) (hm : behindInMarks op b = false := by first | exact nobehind _ (by decide) (by decide) | rfl | with_unfolding_all rfl) : DT X hx (.Compare a [op] [b] pos) (tBl (eOp f fa fb)) :=
  ⟨fun W tk => PTimp (pt_cmpR (ho W) (ha.run W tk) (hb.run W tk) hm) fun σ H Q h => eOp_tOp (tBl_of h)⟩
theorem d_neg (ha : DE X hx a fa) : DE X hx (.UnaryOp .USub a pos) (eUn opNeg fa) := ⟨fun W tk => PEimp (pe_un un_neg (ha.run W tk)) fun σ H Q ⟨A, S, σd, R, E, p⟩ =>
  ⟨A, S, σd, R, E, (Post.bind (R1 := rV _) p).mono fun v H1 ⟨A1, S1, d, R1, T1, r1, p1⟩ => by
    unfold opNeg at p1
    split at p1
    · rename_i i e
      exact ⟨i, (readAs R1 r1 e).int, p1.hereV R1 (.int _)⟩
    · exact p1.elim⟩⟩
/-- a op b op' c -/
def eChain (f f' : Wt → Wt → Store → Res Wt) (fa fb fc : EM) : EM := fun σd S => (fa σd S).bind fun x S1 => (fb σd S1).bind fun y S2 => (f x y S2).bind fun z S3 => (asB z S3).bind fun k S4 => if k = true then (fc σd S4).bind fun w S5 => f' y w S5 else .ok (.d (.bl false)) S4
theorem asB_bind {c : Cn} {σ : L2.St} {A : Ads} {S : Store} {H : Hp} {d : Wt} {v : V} {γ δ : Type} {R2 : RR γ δ} {Q : δ → Hp → Prop} {g : Bool → Store → Res γ} (r : rV c A S H d v) (p : Post c R2 σ A S H Q ((asB d S).bind g)) : ∃ k, d = .d (.bl k) ∧ v = .bl k ∧ Post c R2 σ A S H Q (g k S) := by
  rcases asB_cases d S with ⟨b, rfl⟩ | e
  · have e : RP c.K (Live A S) H (.bl b) v := r
    cases e
    exact ⟨b, rfl, rfl, p⟩
  · rw [e] at p; exact p.elim
theorem eChain_of {cn : Cn} {σ : L2.St} {H : Hp} {Q : VK} (h : tE cn (eChain f f' fa fb fc) σ H Q) : tChain (rD cn f) (rD cn f') (tE cn fa) (tE cn fb) (tE cn fc) σ H Q := by
  obtain ⟨A, S, σd, R, E, p⟩ := h
  refine ⟨A, S, σd, R, E, (Post.bind (R1 := rV cn) p).mono fun v H1 ⟨A1, S1, d, R1, T1, r1, p1⟩ => ⟨A1, S1, σd, R1, E.step R T1, (Post.bind (R1 := rV cn) p1).mono fun u H2 ⟨A2, S2, d2, R2, T2, r2, p2⟩ =>
    ⟨A2, S2, σ, d, d2, R2, r1.step R1 T2, r2, (Post.bind (R1 := rV cn) p2).mono fun z H3 ⟨A3, S3, d3, R3, T3, r3, p3⟩ => ?_⟩⟩⟩
  obtain ⟨k, e, ev, p4⟩ := asB_bind r3 p3
  refine ⟨k, ev, ?_⟩
  cases k with
  | false =>
    rw [if_neg Bool.false_ne_true] at p4 ⊢
    exact p4.hereV R3 (.bl _)
  | true =>
    rw [if_pos rfl] at p4 ⊢
    exact ⟨A3, S3, σd, R3, ((E.step R T1).step R1 T2).step R2 T3, (Post.bind (R1 := rV cn) p4).mono fun w H4 ⟨A4, S4, d4, R4, T4, r4, p5⟩ => ⟨A4, S4, σ, d2, d4, R4, (r2.step R2 T3).step R3 T4, r4, p5⟩⟩
theorem d_chain {op op' : CmpOp} (ho : OpD X hx (compareOp op) f) (ho' : OpD X hx (compareOp op') f') (ha : DE X hx a fa) (hb : DE X hx b fb) (hc : DE X hx c fc) (hm : lastMarks [op, op'] [b, c] = false := by with_unfolding_all rfl) :
    DE X hx (.Compare a [op, op'] [b, c] pos) (eChain f f' fa fb fc) := ⟨fun W tk => PEimp (pe_chain (ho W) (ho' W) (ha.run W tk) (hb.run W tk) (hc.run W tk) hm) fun σ H Q h => eChain_of h⟩
theorem dt_chain {op op' : CmpOp} (ho : OpD X hx (compareOp op) f) (ho' : OpD X hx (compareOp op') f') (ha : DE X hx a fa) (hb : DE X hx b fb) (hc : DE X hx c fc) (hm : lastMarks [op, op'] [b, c] = false := by with_unfolding_all rfl) :
    DT X hx (.Compare a [op, op'] [b, c] pos) (tBl (eChain f f' fa fb fc)) := ⟨fun W tk => PTimp (pt_chain (ho W) (ho' W) (ha.run W tk) (hb.run W tk) (hc.run W tk) hm) fun σ H Q h => eChain_of (tBl_of h)⟩

/-! ### order of ints, of texts -/
def opCmp (p : Int → Int → Bool) (q : Str → Str → Bool) (a b : Wt) (S : Store) : Res Wt := match deref S a, deref S b with
  | some (.int i), some (.int j) => .ok (.d (.bl (p i j))) S
  | some (.str i), some (.str j) => .ok (.d (.bl (q i j))) S
  | _, _ => .bad
theorem od_cmp {op : CmpOp} {p : Int → Int → Bool} {q : Str → Str → Bool} (h1 : OpR X (compareOp op) (rI0 fun i j => .bl (p i j))) (h2 : OpR X (compareOp op) (fun x y H Q => ∃ i j, x = .str i ∧ y = .str j ∧ Q (.bl (q i j)) H)) : OpD X hx (compareOp op) (opCmp p q) := by
  intro W pins s σ H x y v u Q I rx ry h
  obtain ⟨A, S, σ', d1, d2, R, r1, r2, p⟩ := h
  unfold opCmp at p
  split at p
  · rename_i i j e1 e2
    exact h1 pins s σ H x y v u Q I rx ry ⟨i, j, (readAs R r1 e1).int, (readAs R r2 e2).int, p.hereV R (.bl _)⟩
  · rename_i i j e1 e2
    exact h2 pins s σ H x y v u Q I rx ry ⟨i, j, (readAs R r1 e1).str, (readAs R r2 e2).str, p.hereV R (.bl _)⟩
  · exact p.elim
abbrev opLt : Wt → Wt → Store → Res Wt := opCmp (fun i j => decide (i < j)) fun i j => decide (i.cps.toList < j.cps.toList)
abbrev opLe : Wt → Wt → Store → Res Wt := opCmp (fun i j => decide (i ≤ j)) fun i j => !decide (j.cps.toList < i.cps.toList)
abbrev opGt : Wt → Wt → Store → Res Wt := opCmp (fun i j => decide (j < i)) fun i j => decide (j.cps.toList < i.cps.toList)
abbrev opGe : Wt → Wt → Store → Res Wt := opCmp (fun i j => decide (j ≤ i)) fun i j => !decide (i.cps.toList < j.cps.toList)
theorem od_lt : OpD X hx (compareOp .Lt) opLt := od_cmp op_lt op_lt_str
theorem od_le : OpD X hx (compareOp .LtE) opLe := od_cmp op_le op_le_str
theorem od_gt : OpD X hx (compareOp .Gt) opGt := od_cmp op_gt op_gt_str
theorem od_ge : OpD X hx (compareOp .GtE) opGe := od_cmp op_ge op_ge_str

/-! ### is -/
def opIs (neg : Bool) (a b : Wt) (S : Store) : Res Wt := match deref S a, deref S b with
  | some (.bl i), some (.bl j) => .ok (.d (.bl (if neg then !(i == j) else i == j))) S
  | some .non, some .non => .ok (.d (.bl (!neg))) S
  | some (.bl _), some .non => .ok (.d (.bl neg)) S
  | some (.int _), some .non => .ok (.d (.bl neg)) S
  | some (.str _), some .non => .ok (.d (.bl neg)) S
  | some (.tup _), some .non => .ok (.d (.bl neg)) S
  | some (.lst _), some .non => .ok (.d (.bl neg)) S
  | some (.dct _ _), some .non => .ok (.d (.bl neg)) S
  | some (.gl _), some .non => .ok (.d (.bl neg)) S
  | _, _ => .bad
theorem od_is_aux {neg : Bool} {c : Cn} {A : Ads} {S : Store} {σ : L2.St} {H : Hp} {d1 d2 : Wt} {x y : V} {Q : VK} (R : Rel c.K A S H) (r1 : rV c A S H d1 x) (r2 : rV c A S H d2 y) (p : Post c (rV c) σ A S H Q (opIs neg d1 d2 S)) :
    (y = .non ∧ Q (.bl (if neg then !decide (x = .non) else decide (x = .non))) H) ∨ ∃ i j, x = .bl i ∧ y = .bl j ∧ Q (.bl (if neg then !decide (i = j) else decide (i = j))) H := by
  unfold opIs at p
  split at p
  · rename_i i j e1 e2
    refine .inr ⟨i, j, (readAs R r1 e1).bl, (readAs R r2 e2).bl, ?_⟩
    rw [← Bool.beq_eq_decide_eq]
    exact p.hereV R (.bl _)
  all_goals first
    | exact p.elim
    | (rename_i e1 e2
       refine .inl ⟨(readAs R r2 e2).non, ?_⟩
       have hx := readAs R r1 e1
       first
        | (obtain rfl := hx.non; have := p.hereV R (.bl _); cases neg <;> simpa using this)
        | (obtain rfl := hx.bl; have := p.hereV R (.bl _); cases neg <;> simpa using this)
        | (obtain rfl := hx.int; have := p.hereV R (.bl _); cases neg <;> simpa using this)
        | (obtain rfl := hx.str; have := p.hereV R (.bl _); cases neg <;> simpa using this)
        | (obtain rfl := hx.gl; have := p.hereV R (.bl _); cases neg <;> simpa using this)
        | (obtain ⟨a, vs, rfl, _⟩ := hx.tup; have := p.hereV R (.bl _); cases neg <;> simpa using this)
        | (obtain ⟨a, vs, rfl, _⟩ := hx.lst; have := p.hereV R (.bl _); cases neg <;> simpa using this)
        | (obtain ⟨a, vs, rfl, _⟩ := hx.dct; have := p.hereV R (.bl _); cases neg <;> simpa using this))
theorem od_is : OpD X hx (compareOp .Is) (opIs false) := by
  intro W pins s σ H x y v u Q I rx ry h
  obtain ⟨A, S, σ', d1, d2, R, r1, r2, p⟩ := h
  rcases od_is_aux R r1 r2 p with ⟨e, q⟩ | ⟨i, j, e1, e2, q⟩
  · exact op_isN pins s σ H x y v u Q I rx ry ⟨e, q⟩
  · exact op_isBl pins s σ H x y v u Q I rx ry ⟨i, j, e1, e2, q⟩
theorem od_isnot : OpD X hx (compareOp .IsNot) (opIs true) := by
  intro W pins s σ H x y v u Q I rx ry h
  obtain ⟨A, S, σ', d1, d2, R, r1, r2, p⟩ := h
  rcases od_is_aux R r1 r2 p with ⟨e, q⟩ | ⟨i, j, e1, e2, q⟩
  · exact op_notN pins s σ H x y v u Q I rx ry ⟨e, q⟩
  · exact op_notBl pins s σ H x y v u Q I rx ry ⟨i, j, e1, e2, q⟩
end
end Y
end
section
/-! Y6: in, subscripts, slices, and, or, not, if, tests. -/
namespace Y
open PySem PySem.Spec PyProof.Rows L2

def D.flat : D → Bool
  | .non => true | .bl _ => true | .int _ => true | .str _ => true
  | _ => false
def D.key : D → Option Key
  | .int i => some (.inl i)
  | .str x => some (.inr x)
  | _ => none
def inSeq (x : D) (l : List D) : Bool := l.any fun y => deq y x
def inOk (x : D) (l : List D) : Bool := (x.flat && l.all D.flat) || (x.shp && (D.tup l).shp)
def keyIn (k : Key) (ks : List Key) : Bool := ks.any fun j => decide (j = k)
def opIn (neg : Bool) (a b : Wt) (S : Store) : Res Wt := match deref S a, deref S b with
  | some x, some (.tup l) => if inOk x l then .ok (.d (.bl (if neg then !inSeq x l else inSeq x l))) S else .bad
  | some x, some (.lst l) => if inOk x l then .ok (.d (.bl (if neg then !inSeq x l else inSeq x l))) S else .bad
  | some x, some (.dct ks l) => match x.key with
    | some k => .ok (.d (.bl (if neg then !keyIn k ks else keyIn k ks))) S
    | none => .bad
  | some (.str w), some (.str z) => if w.cps.size = 1 then .ok (.d (.bl (if neg then !decide (w.cps.getD 0 0 ∈ z.cps.toList) else decide (w.cps.getD 0 0 ∈ z.cps.toList)))) S else .bad
  | _, _ => .bad
section
variable {K : PySem.W.Frag} {lv : Addr → Prop} {H : Hp}
theorem flat_ok {d : D} {v : V} (h : RX K lv H d v) (f : d.flat = true) : flatV v = true ∧ ∀ (e : D) (w : V), RX K lv H e w → e.flat = true → eqV w v = deq e d := by
  cases d <;> first
    | (cases f; done)
    | (first | obtain rfl := h.non | obtain rfl := h.int | obtain rfl := h.bl | obtain rfl := h.str) <;> (refine ⟨rfl, fun e w he fe => ?_⟩; cases e <;> first
        | (cases fe; done)
        | (first | obtain rfl := he.non | obtain rfl := he.int | obtain rfl := he.bl | obtain rfl := he.str) <;> simp [deq, toPy, PyData.eqv, eqV])
theorem flats_ok {d : D} {v : V} (h : RX K lv H d v) (f : d.flat = true) : ∀ {l : List D} {vs : List V}, RPs K lv H l vs → l.all D.flat = true → vs.all flatV = true ∧ inV v vs = inSeq d l
  | _, _, .nil, _ => ⟨rfl, rfl⟩
  | _, _, .cons r t, fs => by
    rw [List.all_cons, Bool.and_eq_true] at fs
    obtain ⟨q1, q2⟩ := flats_ok h f t fs.2
    refine ⟨?_, ?_⟩
    · rw [List.all_cons, q1, (flat_ok (.inl r) fs.1).1]; rfl
    · unfold inV inSeq at *
      rw [List.any_cons, List.any_cons, q2, (flat_ok h f).2 _ _ (.inl r) fs.1]
theorem toPys_any {d : D} {p : PyData} (e : toPy d = some p) : ∀ {l : List D} {ps : List PyData}, toPys l = some ps → ps.any (fun y => PyData.eqv y p) = inSeq d l
  | [], _, h => by simp [toPys] at h; subst h; rfl
  | a :: l, _, h => by
    rw [toPys] at h
    cases q1 : toPy a with
    | none => rw [q1] at h; cases h
    | some p1 =>
      cases q2 : toPys l with
      | none => rw [q1, q2] at h; cases h
      | some ps =>
        rw [q1, q2] at h
        cases h
        unfold inSeq
        rw [List.any_cons, List.any_cons]
        congr 1
        · unfold deq; rw [q1, e]
        · exact toPys_any e q2
end
theorem shp_tup {l : List D} (h : (D.tup l).shp = true) : ∃ ps, toPys l = some ps ∧ SeqAt.shaped (.tuple ps) = true := by
  obtain ⟨p, e, s⟩ := shp_ok h
  rw [toPy] at e
  cases q : toPys l with
  | none => rw [q] at e; cases e
  | some ps => rw [q] at e; cases e; exact ⟨ps, rfl, s⟩
def rInTD (K : PySem.W.Frag) (neg : Bool) : R2 := fun x y H Q => ∃ d ds, Dp K H x d ∧ (Dp K H y (.list ds) ∨ Dp K H y (.tuple ds)) ∧ SeqAt.shaped d = true ∧ SeqAt.shaped (.tuple ds) = true ∧ Q (.bl (if neg then !ds.any fun z => PyData.eqv z d else ds.any fun z => PyData.eqv z d)) H
theorem room_in {A : Around} {d : PyData} {ds : List PyData} (h : SeqAt.shaped d = true) (hu : A.units + 65 < cLine) : A.units + 1 + min (PyData.depthAll ds) d.depth < cLine := by
  have h1 := SeqAt.depth_of_shaped h
  have h2 : min (PyData.depthAll ds) d.depth ≤ d.depth := Nat.min_le_right _ _
  omega
section
variable {X : Cx} {hx : Hx}
theorem op_inTD (hu : X.A.units + 65 < cLine) : OpR X (compareOp .In) (rInTD X.K false) := by
  intro pins s σ H x y v u Q I rx ry h
  obtain ⟨d, ds, hd, he, sd, se, q⟩ := h
  obtain ⟨as, r1⟩ := Dp.reads I d x v hd rx
  rcases he with he | he
  · obtain ⟨bs, r2⟩ := Dp.reads I (.list ds) y u he ry
    exact SeqAt.in_list_reads r2 r1 (SeqAt.canLay_of_shaped se) (SeqAt.canLay_of_shaped sd) (room_in sd hu) ⟨.bl _, H, I, rfl, q⟩
  · obtain ⟨bs, r2⟩ := Dp.reads I (.tuple ds) y u he ry
    exact SeqAt.in_tuple_reads r2 r1 (SeqAt.canLay_of_shaped se) (SeqAt.canLay_of_shaped sd) (room_in sd hu) ⟨.bl _, H, I, rfl, q⟩
theorem op_notInTD (hu : X.A.units + 65 < cLine) : OpR X (compareOp .NotIn) (rInTD X.K true) := by
  intro pins s σ H x y v u Q I rx ry h
  obtain ⟨d, ds, hd, he, sd, se, q⟩ := h
  obtain ⟨as, r1⟩ := Dp.reads I d x v hd rx
  rcases he with he | he
  · obtain ⟨bs, r2⟩ := Dp.reads I (.list ds) y u he ry
    exact SeqAt.notIn_list_reads r2 r1 (SeqAt.canLay_of_shaped se) (SeqAt.canLay_of_shaped sd) (room_in sd hu) ⟨.bl _, H, I, rfl, q⟩
  · obtain ⟨bs, r2⟩ := Dp.reads I (.tuple ds) y u he ry
    exact SeqAt.notIn_tuple_reads r2 r1 (SeqAt.canLay_of_shaped se) (SeqAt.canLay_of_shaped sd) (room_in sd hu) ⟨.bl _, H, I, rfl, q⟩
theorem key_ok {K : PySem.W.Frag} {lv : Addr → Prop} {H : Hp} {d : D} {v : V} {k : Key} (h : RX K lv H d v) (e : d.key = some k) : v = kV k := by
  cases d <;> first
    | (cases e; done)
    | (cases e; first | exact h.int | exact h.str)
theorem valV_some {kvs : List (Key × V)} {k : Key} : (valV kvs k).isSome = keyIn k (kvs.map (·.1)) := by
  unfold valV keyIn
  induction kvs with
  | nil => rfl
  | cons a r ih =>
    rw [List.find?_cons, List.map_cons, List.any_cons]
    by_cases e : a.1 = k
    · rw [decide_eq_true e]
      rfl
    · rw [decide_eq_false e, Bool.false_or]
      exact ih
theorem od_in_aux {neg : Bool} {op : CmpOp} (hu : X.A.units + 65 < cLine) (h1 : OpR X (compareOp op) (rIn X.K neg)) (h2 : OpR X (compareOp op) (rInTD X.K neg))
    (h3 : OpR X (compareOp op) fun x y H Q => ∃ (c : Nat) (z : Str), x = .str ⟨#[c]⟩ ∧ y = .str z ∧ Q (.bl (if neg then !decide (c ∈ z.cps.toList) else decide (c ∈ z.cps.toList))) H)
    (h4 : ∀ {pins : List (Addr × Obj)} {s : Shared} {σ : L2.St} {H : Hp} {a : Addr} {y : V} {o : Option V} {u : Value} {Q : Value → Shared → Prop}, Inv X pins σ H s → DGet H a y o → RelV y u → (∀ s', Inv X pins σ H s' → Q (.bool (if neg then !o.isSome else o.isSome)) s') → wpAny (model X.prog X.w) X.A (compareOp op u (.ref a)) Q X.xe s) :
    OpD X hx (compareOp op) (opIn neg) := by
  intro W pins s σ H x y v u Q I rx ry h
  obtain ⟨A, S, σ', d1, d2, R, r1, r2, p⟩ := h
  have seq : ∀ {x1 : D} {l : List D} {b : Addr} {us : List V}, RX X.K (Live A S) H x1 x → y = .ref b → (SqL X.K H b us ∨ SqT X.K H b us) → RPs X.K (Live A S) H l us → Post ⟨X.K, hx, W⟩ (rV ⟨X.K, hx, W⟩) σ' A S H Q (if inOk x1 l then .ok (.d (.bl (if neg then !inSeq x1 l else inSeq x1 l))) S else .bad) →
      wpAny (model X.prog X.w) X.A (compareOp op v u) (EP X pins σ Q) X.xe s := by
    intro x1 l b us q1 ey hq g p
    obtain ⟨hz, p⟩ := Post.iteP p
    unfold inOk at hz
    cases hf : (x1.flat && l.all D.flat) with
    | true =>
      rw [Bool.and_eq_true] at hf
      obtain ⟨q2, q3⟩ := flats_ok q1 hf.1 g hf.2
      refine h1 pins s σ H x y v u Q I rx ry ⟨b, us, ey, hq, (flat_ok q1 hf.1).1, q2, ?_⟩
      rw [q3]
      exact p.hereV R (.bl _)
    | false =>
      rw [hf, Bool.false_or, Bool.and_eq_true] at hz
      obtain ⟨p1, e1, s1⟩ := shp_ok hz.1
      obtain ⟨ps, e2, s2⟩ := shp_tup hz.2
      have dx := dpx_of q1 e1
      have dy := dps_of l us ps g e2
      refine h2 pins s σ H x y v u Q I rx ry ⟨p1, ps, dx, ?_, s1, s2, ?_⟩
      · subst ey
        rcases hq with hq | hq
        · exact .inl (.lst hq dy)
        · exact .inr (.tup hq dy)
      · rw [toPys_any e1 e2]
        exact p.hereV R (.bl _)
  unfold opIn at p
  split at p
  · rename_i x1 l g1 e
    obtain ⟨b, us, ey, hq, g⟩ := (readAs R r2 e).tup
    exact seq (readAs R r1 g1) ey (.inr hq) g p
  · rename_i x1 l g1 e
    obtain ⟨b, us, ey, hq, g⟩ := (readAs R r2 e).lst
    exact seq (readAs R r1 g1) ey (.inl (SqL.of hq)) g p
  · rename_i x1 ks l g1 e
    split at p
    · rename_i k ek
      obtain ⟨b, kvs, ey, hq, hk, g⟩ := (readAs R r2 e).dct
      subst ey
      obtain rfl : u = Value.ref b := ry
      have ex := key_ok (readAs R r1 g1) ek
      subst ex
      refine h4 I (.inl ⟨kvs, k, hq, rfl, rfl⟩) rx fun s' I' => ⟨.bl _, H, I', rfl, ?_⟩
      rw [valV_some, hk]
      exact p.hereV R (.bl _)
    · exact p.elim
  · rename_i w z ew e
    obtain ⟨hz, p⟩ := Post.iteP p
    obtain ⟨⟨l⟩⟩ := w
    have ex := (readAs R r1 ew).str
    have el : ∃ c, l = [c] := by
      match l, hz with
      | [c], _ => exact ⟨c, rfl⟩
    obtain ⟨c, rfl⟩ := el
    exact h3 pins s σ H x y v u Q I rx ry ⟨c, z, ex, (readAs R r2 e).str, p.hereV R (.bl _)⟩
  · exact p.elim
theorem od_in (hu : X.A.units + 65 < cLine) : OpD X hx (compareOp .In) (opIn false) := od_in_aux hu op_in_seq (op_inTD hu) op_in_sign fun I g r h => d_in (by omega) I g r h
theorem od_notIn (hu : X.A.units + 65 < cLine) : OpD X hx (compareOp .NotIn) (opIn true) := od_in_aux hu op_notIn_seq (op_notInTD hu) op_notIn_sign fun I g r h => d_notIn (by omega) I g r h
end
end Y
end
section
/-! Y7: subscripts, slices, truth, and, or, not, if, tests. -/
namespace Y
open PySem PySem.Spec PyProof.Rows L2

def dGet (k : Key) : List Key → List D → Option D
  | j :: ks, d :: ds => if j = k then some d else dGet k ks ds
  | _, _ => none
def optR (S : Store) : Option D → Res Wt
  | some d => .ok (.d d) S
  | none => .bad
def opIx (a b : Wt) (S : Store) : Res Wt := match deref S a, deref S b with
  | some (.tup l), some (.int i) => optR S (atI l i)
  | some (.lst l), some (.int i) => optR S (atI l i)
  | some (.fls l), some (.int i) => optR S (atI l i)
  | some (.str z), some (.int i) => if z.length ≤ lim then optR S ((atI z.cps.toList i).map fun c => .str ⟨#[c]⟩) else .bad
  | some (.dct ks l), some y => optR S (y.key.bind fun k => dGet k ks l)
  | _, _ => .bad
section
variable {K : PySem.W.Frag} {lv : Addr → Prop} {H : Hp}
theorem atI_rps {l : List D} {vs : List V} {i : Int} {d : D} (h : RPs K lv H l vs) (e : atI l i = some d) : ∃ v, atI vs i = some v ∧ RP K lv H d v := by
  unfold atI at e ⊢
  rw [← h.len]
  cases q : ixN l.length i with
  | none => rw [q] at e; cases e
  | some j =>
    rw [q] at e
    exact h.get e
theorem dGet_rps {k : Key} : ∀ {kvs : List (Key × V)} {l : List D} {d : D}, RPs K lv H l (kvs.map (·.2)) → dGet k (kvs.map (·.1)) l = some d → ∃ v, valV kvs k = some v ∧ RP K lv H d v
  | [], _, _, h, e => by cases h; cases e
  | a :: r, _, d, h, e => by
    cases h with
    | cons h1 h2 =>
      rw [List.map_cons, dGet] at e
      unfold valV
      rw [List.find?_cons]
      by_cases q : a.1 = k
      · rw [if_pos q] at e
        cases e
        rw [decide_eq_true q]
        exact ⟨a.2, rfl, h1⟩
      · rw [if_neg q] at e
        rw [decide_eq_false q]
        exact dGet_rps h2 e
end
section
variable {X : Cx} {hx : Hx} {a b c : Expr} {fa fb fc : EM} {pos : Pos}
theorem optR_ok {c : Cn} {σ : L2.St} {A : Ads} {S : Store} {H : Hp} {Q : VK} {o : Option D} (p : Post c (rV c) σ A S H Q (optR S o)) : ∃ d, o = some d ∧ Post c (rV c) σ A S H Q (.ok (.d d) S) := by
  cases o with
  | none => exact p.elim
  | some d => exact ⟨d, rfl, p⟩
theorem ixd (hu : X.A.units + 65 < cLine) (W : WX) : IxR X (rD ⟨X.K, hx, W⟩ opIx) := by
  intro value slice pins s σ H x y v u Q I rx ry h hs
  obtain ⟨A, S, σ', d1, d2, R, r1, r2, p⟩ := h
  unfold opIx at p
  split at p
  · rename_i l i e1 e2
    obtain ⟨b, us, ex, hq, g⟩ := (readAs R r1 e1).tup
    obtain ⟨d, q, p⟩ := optR_ok p
    obtain ⟨w, hw, rw'⟩ := atI_rps g q
    exact ix_tup value slice pins s σ H x y v u Q I rx ry ⟨b, us, i, w, ex, (readAs R r2 e2).int, hq, hw, p.hereV R rw'⟩ hs
  · rename_i l i e1 e2
    obtain ⟨b, us, ex, hq, g⟩ := (readAs R r1 e1).lst
    obtain ⟨d, q, p⟩ := optR_ok p
    obtain ⟨w, hw, rw'⟩ := atI_rps g q
    exact ix_list value slice pins s σ H x y v u Q I rx ry ⟨b, us, i, w, ex, (readAs R r2 e2).int, SqL.of hq, hw, p.hereV R rw'⟩ hs
  · rename_i l i e1 e2
    obtain ⟨b, us, ex, hq, g⟩ := (readAs R r1 e1).fls
    obtain ⟨d, q, p⟩ := optR_ok p
    obtain ⟨w, hw, rw'⟩ := atI_rps g q
    exact ix_list value slice pins s σ H x y v u Q I rx ry ⟨b, us, i, w, ex, (readAs R r2 e2).int, hq, hw, p.hereV R rw'⟩ hs
  · rename_i z i e1 e2
    obtain ⟨hz, p⟩ := Post.iteP p
    obtain ⟨d, q, p⟩ := optR_ok p
    cases q2 : atI z.cps.toList i with
    | none => rw [q2] at q; cases q
    | some c =>
      rw [q2] at q
      cases q
      exact ix_str value slice pins s σ H x y v u Q I rx ry ⟨z, i, c, (readAs R r1 e1).str, (readAs R r2 e2).int, lim_line hz, q2, p.hereV R (.str _)⟩ hs
  · rename_i ks l y1 e1 e2
    obtain ⟨d, q, p2⟩ := optR_ok p
    cases ek : y1.key with
    | none => rw [ek] at q; cases q
    | some k =>
      rw [ek] at q
      obtain ⟨b, kvs, ex, hq, hk, g⟩ := (readAs R r1 e1).dct
      subst hk
      obtain ⟨w, hw, rw'⟩ := dGet_rps g q
      have ey := key_ok (readAs R r2 e2) ek
      subst ex ey
      obtain rfl : v = Value.ref b := rx
      have G : DGet H b (kV k) (some w) := .inl ⟨kvs, k, hq, rfl, hw.symm⟩
      exact tail_any (dict_typeIs I G) PySem.F.slot_dict_getitem.lookup (d_getItem (by omega) I G ry fun w' s' I' rw2 => ⟨w, H, I', rw2, p2.hereV R rw'⟩) hs
  · exact p.elim
theorem d_ix (hu : X.A.units + 65 < cLine) (ha : DE X hx a fa) (hb : DE X hx b fb) (hs : PlainIx b := by intro _ _; rfl) : DE X hx (.Subscript a b pos) (eOp opIx fa fb) :=
  ⟨fun W tk => PEimp (pe_ix (ixd hu W) (ha.run W tk) (hb.run W tk) hs) fun σ H Q h => eOp_tOp h⟩

/-! ### slices -/
abbrev OM := Ev → Store → Res (Option Int)
def oNone : OM := fun _ S => .ok none S
def asI : Wt → Store → Res (Option Int)
  | .d (.int i), S => .ok (some i) S
  | _, _ => .bad
theorem asI_cases (d : Wt) (S : Store) : (∃ b, d = .d (.int b)) ∨ asI d S = .bad := by
  cases d with
  | d x => cases x <;> first | exact .inl ⟨_, rfl⟩ | exact .inr rfl
  | _ => exact .inr rfl
def oSome (f : EM) : OM := fun σd S => (f σd S).bind asI
def rO : RR (Option Int) (Option Int) := fun _ _ _ a b => a = b
def tO (c : Cn) (f : OM) : TO := fun σ H Q => ∃ A S σd, Rel c.K A S H ∧ RE c.K c.hx A (Live A S) H σd σ ∧ Post c rO σ A S H Q (f σd S)
structure DO (X : Cx) (hx : Hx) (e : Option Expr) (f : OM) : Prop where
  run : ∀ W, Takes X W → PO X e (tO ⟨X.K, hx, W⟩ f)
theorem POimp {X : Cx} {e : Option Expr} {t t' : TO} (h : PO X e t) (i : ∀ σ H Q, t' σ H Q → t σ H Q) : PO X e t' := ⟨fun pins s σ H Q I q => h.run pins s σ H Q I (i σ H Q q)⟩
theorem do_none : DO X hx none oNone := ⟨fun W tk => POimp po_none fun σ H Q ⟨A, S, σd, R, E, p⟩ => p.here R rfl⟩
theorem do_some (h : DE X hx a fa) : DO X hx (some a) (oSome fa) := ⟨fun W tk => POimp (po_some (h.run W tk)) fun σ H Q ⟨A, S, σd, R, E, p⟩ =>
  ⟨A, S, σd, R, E, (Post.bind (R1 := rV _) p).mono fun v H1 ⟨A1, S1, d, R1, T1, r1, p1⟩ => by
    rcases asI_cases d S1 with ⟨i, rfl⟩ | e
    · have e : RP X.K (Live A1 S1) H1 (.int i) v := r1
      cases e
      exact ⟨i, rfl, p1.here R1 rfl⟩
    · rw [e] at p1; exact p1.elim⟩⟩
def cutD (xs : List D) (lo hi : Option Int) : List D := (xs.drop (HT.sIx xs.length 0 lo)).take (HT.sIx xs.length xs.length hi - HT.sIx xs.length 0 lo)
theorem cut_rps {K : PySem.W.Frag} {lv : Addr → Prop} {H : Hp} {l : List D} {vs : List V} (h : RPs K lv H l vs) (lo hi : Option Int) : RPs K lv H (cutD l lo hi) (cutV vs lo hi) := by
  unfold cutD cutV
  rw [← h.len]
  exact (h.drop _).take _
def opSl (d : Wt) (lo hi : Option Int) (S : Store) : Res Wt := match deref S d with
  | some (.tup l) => .ok (.d (.tup (cutD l lo hi))) S
  | some (.lst l) => .ok (.d (.lst (cutD l lo hi))) S
  | some (.fls l) => .ok (.d (.lst (cutD l lo hi))) S
  | some (.str z) => if z.length ≤ lim then .ok (.d (.str (cutS z lo hi))) S else .bad
  | _ => .bad
/-- a list's, into a new cell -/
def opSlL (d : Wt) (lo hi : Option Int) (S : Store) : Res Wt := match deref S d with
  | some (.lst l) => .ok (.loc S.length) (S ++ [.lst (cutD l lo hi)])
  | some (.fls l) => .ok (.loc S.length) (S ++ [.lst (cutD l lo hi)])
  | _ => .bad
def eSl (op : Wt → Option Int → Option Int → Store → Res Wt) (fa : EM) (fl fh : OM) : EM := fun σd S => (fa σd S).bind fun d S1 => (fl σd S1).bind fun lo S2 => (fh σd S2).bind fun hi S3 => op d lo hi S3
def rSlD (c : Cn) (f : Wt → Option Int → Option Int → Store → Res Wt) : V → Option Int → Option Int → Hp → VK → Prop := fun x lo hi H Q => ∃ A S σ d, Rel c.K A S H ∧ rV c A S H d x ∧ Post c (rV c) σ A S H Q (f d lo hi S)
theorem cut_whole {xs : List V} {lo hi : Option Int} (h : HT.sIx xs.length 0 lo = 0 ∧ HT.sIx xs.length xs.length hi = xs.length) : cutV xs lo hi = xs := by
  unfold cutV
  rw [h.1, h.2]
  simp
theorem sld (W : WX) : SlR X (rSlD ⟨X.K, hx, W⟩ opSl) := by
  intro pins s σ H x v vl vu lo hi sl Q I rx hs pl pu h
  obtain ⟨A, S, σ', d, R, r, p⟩ := h
  unfold opSl at p
  split at p
  · rename_i l e
    obtain ⟨b, us, ex, hq, g⟩ := (readAs R r e).tup
    refine sl_tupA pins s σ H x v vl vu lo hi sl Q I rx hs pl pu ⟨b, us, ex, hq, fun hw => ?_, fun hw q hq => p.tup R (cut_rps g lo hi) hq⟩
    have := cut_rps g lo hi
    rw [cut_whole hw] at this
    exact p.hereV R (.tup hq this)
  · rename_i l e
    obtain ⟨b, us, ex, hq, g⟩ := (readAs R r e).lst
    exact sl_list pins s σ H x v vl vu lo hi sl Q I rx hs pl pu ⟨b, us, ex, SqL.of hq, fun q hq => p.lst R (cut_rps g lo hi) hq⟩
  · rename_i l e
    obtain ⟨b, us, ex, hq, g⟩ := (readAs R r e).fls
    exact sl_list pins s σ H x v vl vu lo hi sl Q I rx hs pl pu ⟨b, us, ex, hq, fun q hq => p.lst R (cut_rps g lo hi) hq⟩
  · rename_i z e
    obtain ⟨hz, p⟩ := Post.iteP p
    exact sl_str pins s σ H x v vl vu lo hi sl Q I rx hs pl pu ⟨z, (readAs R r e).str, lim_line hz, p.hereV R (.str _)⟩
  · exact p.elim
theorem sldL (W : WX) : SlR X (rSlD ⟨X.K, hx, W⟩ opSlL) := by
  intro pins s σ H x v vl vu lo hi sl Q I rx hs pl pu h
  obtain ⟨A, S, σ', d, R, r, p⟩ := h
  unfold opSlL at p
  split at p
  · rename_i l e
    obtain ⟨b, us, ex, hq, g⟩ := (readAs R r e).lst
    exact sl_list pins s σ H x v vl vu lo hi sl Q I rx hs pl pu ⟨b, us, ex, SqL.of hq, fun q hq => p.alloc R (cut_rps g lo hi) hq⟩
  · rename_i l e
    obtain ⟨b, us, ex, hq, g⟩ := (readAs R r e).fls
    exact sl_list pins s σ H x v vl vu lo hi sl Q I rx hs pl pu ⟨b, us, ex, hq, fun q hq => p.alloc R (cut_rps g lo hi) hq⟩
  · exact p.elim
theorem d_slG {op : Wt → Option Int → Option Int → Store → Res Wt} {lo hi : Option Expr} {fl fh : OM} {p2 : Pos} (ho : ∀ W, SlR X (rSlD ⟨X.K, hx, W⟩ op)) (ha : DE X hx a fa) (hl : DO X hx lo fl) (hh : DO X hx hi fh) : DE X hx (.Subscript a (.Slice lo hi none p2) pos) (eSl op fa fl fh) :=
  ⟨fun W tk => PEimp (pe_slice (ho W) (ha.run W tk) (hl.run W tk) (hh.run W tk)) fun σ H Q ⟨A, S, σd, R, E, p⟩ =>
    ⟨A, S, σd, R, E, (Post.bind (R1 := rV _) p).mono fun v H1 ⟨A1, S1, d, R1, T1, r1, p1⟩ => ⟨A1, S1, σd, R1, E.step R T1, (Post.bind (R1 := rO) p1).mono fun o2 H2 ⟨A2, S2, o2', R2, T2, r2, p2⟩ =>
      ⟨A2, S2, σd, R2, (E.step R T1).step R1 T2, (Post.bind (R1 := rO) p2).mono fun o3 H3 ⟨A3, S3, o3', R3, T3, r3, p3⟩ => by
        cases r2
        cases r3
        exact ⟨A3, S3, σ, d, R3, (r1.step R1 T2).step R2 T3, p3⟩⟩⟩⟩⟩
theorem d_sl {lo hi : Option Expr} {fl fh : OM} {p2 : Pos} (ha : DE X hx a fa) (hl : DO X hx lo fl) (hh : DO X hx hi fh) : DE X hx (.Subscript a (.Slice lo hi none p2) pos) (eSl opSl fa fl fh) := d_slG sld ha hl hh
theorem d_slL {lo hi : Option Expr} {fl fh : OM} {p2 : Pos} (ha : DE X hx a fa) (hl : DO X hx lo fl) (hh : DO X hx hi fh) : DE X hx (.Subscript a (.Slice lo hi none p2) pos) (eSl opSlL fa fl fh) := d_slG sldL ha hl hh

/-! ### truth -/
def truth (d : Wt) (S : Store) : Res Bool := match deref S d with
  | some .non => .ok false S
  | some (.bl b) => .ok b S
  | some (.int i) => .ok (i != 0) S
  | some (.str x) => if x.length ≤ lim then .ok ((x.length : Int) != 0) S else .bad
  | some (.tup l) => .ok (!l.isEmpty) S
  | some (.lst l) => .ok (!l.isEmpty) S
  | some (.fls l) => .ok (!l.isEmpty) S
  | _ => .bad
theorem isEmpty_rps {K : PySem.W.Frag} {lv : Addr → Prop} {H : Hp} {l : List D} {vs : List V} (h : RPs K lv H l vs) : l.isEmpty = vs.isEmpty := by cases h <;> rfl
theorem Post.truth {c : Cn} {σ : L2.St} {A : Ads} {S : Store} {H : Hp} {d : Wt} {v : V} {γ δ : Type} {R2 : RR γ δ} {Q : δ → Hp → Prop} {k : Bool → Store → Res γ} (R : Rel c.K A S H) (r : rV c A S H d v)
    (p : Post c R2 σ A S H Q ((Y.truth d S).bind k)) : ∃ b, TruV c.K v H b ∧ Post c R2 σ A S H Q (k b S) := by
  unfold Y.truth at p
  split at p
  · rename_i e; obtain rfl := (readAs R r e).non; exact ⟨false, rfl, p⟩
  · rename_i b e; obtain rfl := (readAs R r e).bl; exact ⟨b, rfl, p⟩
  · rename_i b e; obtain rfl := (readAs R r e).int; exact ⟨_, rfl, p⟩
  · rename_i x e
    obtain rfl := (readAs R r e).str
    by_cases hz : x.length ≤ lim
    · rw [if_pos hz] at p; exact ⟨_, ⟨lim_line hz, rfl⟩, p⟩
    · rw [if_neg hz] at p; exact p.elim
  · rename_i l e
    obtain ⟨b, us, rfl, hq, g⟩ := (readAs R r e).tup
    exact ⟨!l.isEmpty, .inr (.inl ⟨us, hq, by rw [isEmpty_rps g]⟩), p⟩
  · rename_i l e
    obtain ⟨b, us, rfl, hq, g⟩ := (readAs R r e).lst
    exact ⟨!l.isEmpty, .inl ⟨us, SqL.of hq, by rw [isEmpty_rps g]⟩, p⟩
  · rename_i l e
    obtain ⟨b, us, rfl, hq, g⟩ := (readAs R r e).fls
    exact ⟨!l.isEmpty, .inl ⟨us, hq, by rw [isEmpty_rps g]⟩, p⟩
  · exact p.elim
def tTru (f : EM) : TM := fun σd S => (f σd S).bind fun d S1 => (truth d S1).bind fun b S2 => .ok b S2
/-- an expression as a test, by its value's truth -/
theorem dt_tru (h : DE X hx a fa) (he : ∀ whole, isTrue a X.env whole = (do let v ← whole; standAt a.pos; holding [v] (truthy v)) := by intro _; rfl) : DT X hx a (tTru fa) :=
  ⟨fun W tk => PTimp (pt_truth (h.run W tk) he) fun σ H Q ⟨A, S, σd, R, E, p⟩ => ⟨A, S, σd, R, E, (Post.bind (R1 := rV _) p).mono fun v H1 ⟨A1, S1, d, R1, T1, r1, p1⟩ => by
    obtain ⟨b, t, p2⟩ := p1.truth R1 r1
    exact ⟨b, t, p2.here R1 rfl⟩⟩⟩
def tNot (f : TM) : TM := fun σd S => (f σd S).bind fun b S1 => .ok (!b) S1
def tAnd (f g : TM) : TM := fun σd S => (f σd S).bind fun b S1 => if b = true then g σd S1 else .ok false S1
def tOr (f g : TM) : TM := fun σd S => (f σd S).bind fun b S1 => if b = true then .ok true S1 else g σd S1
section
variable {rest : List Expr} {f g : TM}
theorem dt_not (h : DT X hx a f) : DT X hx (.UnaryOp .Not a pos) (tNot f) := ⟨fun W tk => PTimp (pt_not (h.run W tk)) fun σ H Q ⟨A, S, σd, R, E, p⟩ =>
  ⟨A, S, σd, R, E, (Post.bind (R1 := rB) p).mono fun b H1 ⟨A1, S1, d, R1, T1, r1, p1⟩ => by cases r1; exact p1.here R1 rfl⟩⟩
theorem dw_and1 (h : DT X hx a f) : DW X hx (.BoolOp .And [a] pos) f := ⟨fun W tk => pw_and1 (h.run W tk)⟩
theorem dw_or1 (h : DT X hx a f) : DW X hx (.BoolOp .Or [a] pos) f := ⟨fun W tk => pw_or1 (h.run W tk)⟩
theorem dw_and (h1 : DT X hx a f) (h2 : DW X hx (.BoolOp .And (b :: rest) pos) g) : DW X hx (.BoolOp .And (a :: b :: rest) pos) (tAnd f g) := ⟨fun W tk => PWimp (pw_and (h1.run W tk) (h2.run W tk)) fun σ H Q ⟨A, S, σd, R, E, p⟩ =>
  ⟨A, S, σd, R, E, (Post.bind (R1 := rB) p).mono fun b H1 ⟨A1, S1, d, R1, T1, r1, p1⟩ => by
    cases r1
    cases b with
    | true => exact ⟨A1, S1, σd, R1, E.step R T1, p1⟩
    | false => exact p1.here R1 rfl⟩⟩
theorem dw_or (h1 : DT X hx a f) (h2 : DW X hx (.BoolOp .Or (b :: rest) pos) g) : DW X hx (.BoolOp .Or (a :: b :: rest) pos) (tOr f g) := ⟨fun W tk => PWimp (pw_or (h1.run W tk) (h2.run W tk)) fun σ H Q ⟨A, S, σd, R, E, p⟩ =>
  ⟨A, S, σd, R, E, (Post.bind (R1 := rB) p).mono fun b H1 ⟨A1, S1, d, R1, T1, r1, p1⟩ => by
    cases r1
    cases b with
    | false => exact ⟨A1, S1, σd, R1, E.step R T1, p1⟩
    | true => exact p1.here R1 rfl⟩⟩
/-- .. as values -/
def eAnd (fa fb : EM) : EM := fun σd S => (fa σd S).bind fun d S1 => (truth d S1).bind fun b S2 => if b = true then fb σd S2 else .ok d S2
def eOr (fa fb : EM) : EM := fun σd S => (fa σd S).bind fun d S1 => (truth d S1).bind fun b S2 => if b = true then .ok d S2 else fb σd S2
def eNot (fa : EM) : EM := fun σd S => (fa σd S).bind fun d S1 => (truth d S1).bind fun b S2 => .ok (.d (.bl (!b))) S2
theorem d_one {op} (h : DE X hx a fa) : DE X hx (.BoolOp op [a] pos) fa := ⟨fun W tk => pe_one (h.run W tk)⟩
theorem d_and (h1 : DE X hx a fa) (h2 : DE X hx (.BoolOp .And (b :: rest) pos) fb) : DE X hx (.BoolOp .And (a :: b :: rest) pos) (eAnd fa fb) := ⟨fun W tk => PEimp (pe_andT (h1.run W tk) (h2.run W tk)) fun σ H Q ⟨A, S, σd, R, E, p⟩ =>
  ⟨A, S, σd, R, E, (Post.bind (R1 := rV _) p).mono fun v H1 ⟨A1, S1, d, R1, T1, r1, p1⟩ => by
    obtain ⟨b, t, p2⟩ := p1.truth R1 r1
    refine ⟨b, t, ?_⟩
    cases b with
    | true => exact ⟨A1, S1, σd, R1, E.step R T1, p2⟩
    | false => exact p2.here R1 r1⟩⟩
theorem d_or (h1 : DE X hx a fa) (h2 : DE X hx (.BoolOp .Or (b :: rest) pos) fb) : DE X hx (.BoolOp .Or (a :: b :: rest) pos) (eOr fa fb) := ⟨fun W tk => PEimp (pe_orT (h1.run W tk) (h2.run W tk)) fun σ H Q ⟨A, S, σd, R, E, p⟩ =>
  ⟨A, S, σd, R, E, (Post.bind (R1 := rV _) p).mono fun v H1 ⟨A1, S1, d, R1, T1, r1, p1⟩ => by
    obtain ⟨b, t, p2⟩ := p1.truth R1 r1
    refine ⟨b, t, ?_⟩
    cases b with
    | false => exact ⟨A1, S1, σd, R1, E.step R T1, p2⟩
    | true => exact p2.here R1 r1⟩⟩
theorem d_not (h : DE X hx a fa) : DE X hx (.UnaryOp .Not a pos) (eNot fa) := ⟨fun W tk => PEimp (pe_notT (h.run W tk)) fun σ H Q ⟨A, S, σd, R, E, p⟩ =>
  ⟨A, S, σd, R, E, (Post.bind (R1 := rV _) p).mono fun v H1 ⟨A1, S1, d, R1, T1, r1, p1⟩ => by
    obtain ⟨b, t, p2⟩ := p1.truth R1 r1
    exact ⟨b, t, p2.hereV R1 (.bl _)⟩⟩⟩
def eIf (t : TM) (fa fb : EM) : EM := fun σd S => (t σd S).bind fun b S1 => if b = true then fa σd S1 else fb σd S1
theorem d_if (hc : DT X hx c f) (ha : DE X hx a fa) (hb : DE X hx b fb) : DE X hx (.IfExp c a b pos) (eIf f fa fb) := ⟨fun W tk => PEimp (pe_ifExp (hc.run W tk) (ha.run W tk) (hb.run W tk)) fun σ H Q ⟨A, S, σd, R, E, p⟩ =>
  ⟨A, S, σd, R, E, (Post.bind (R1 := rB) p).mono fun b H1 ⟨A1, S1, d, R1, T1, r1, p1⟩ => by
    cases r1
    cases b with
    | true => exact ⟨A1, S1, σd, R1, E.step R T1, p1⟩
    | false => exact ⟨A1, S1, σd, R1, E.step R T1, p1⟩⟩⟩
end
end
end Y
end
section
/-! Y8: calls of built-in functions and types. -/
namespace Y
open PySem PySem.Spec PyProof.Rows L2

def eB (f : List Wt → Store → Res Wt) (g : AM) : EM := fun σd S => (g σd S).bind fun ds S1 => f ds S1
def rCD (c : Cn) (f : List Wt → Store → Res Wt) : List V → Hp → VK → Prop := fun vs H Q => ∃ A S σ ds, Rel c.K A S H ∧ rVs c A S H ds vs ∧ Post c (rV c) σ A S H Q (f ds S)
def CalD (X : Cx) (hx : Hx) (v : Value) (f : List Wt → Store → Res Wt) : Prop := ∀ W, CallR X v (rCD ⟨X.K, hx, W⟩ f)
theorem eB_of {c : Cn} {f : List Wt → Store → Res Wt} {g : AM} {σ : L2.St} {H : Hp} {Q : VK} (h : tE c (eB f g) σ H Q) : tCB (rCD c f) (tA c g) σ H Q := by
  obtain ⟨A, S, σd, R, E, p⟩ := h
  exact ⟨A, S, σd, R, E, (Post.bind (R1 := rVs c) p).mono fun v H1 ⟨A1, S1, d, R1, T1, r1, p1⟩ => ⟨A1, S1, σ, d, R1, r1, p1⟩⟩
section
variable {X : Cx} {hx : Hx} {e : Expr} {es : List Expr} {g : AM} {f : List Wt → Store → Res Wt} {x : Str} {p pos : Pos} {id T : String}
theorem d_callB (hc : CalD X hx (.builtin id) f) (hm : X.mg x = none) (ha : DA X hx (e :: es) g) (hg : Gl X x := by rfl) (hv : bootBuiltins x = some (.builtin id) := by decide +kernel) (hn : x ≠ "__name__" := by decide) (hdb : (x == ("__debug__" : Str)) = false := by decide)
    (he : starEach (e :: es) X.env = (false, eval e X.env) :: starEach es X.env := by rfl) (hpl : (backTo pos (starEach es X.env)).any (·.1) = false := by rfl) : DE X hx (.Call (.Name x p) (e :: es) [] pos) (eB f g) :=
  ⟨fun W tk => PEimp (pe_callB (hc W) hg hm hv (ha.run W tk) hn hdb he hpl) fun σ H Q h => eB_of h⟩
theorem d_callTy (hc : CalD X hx (.type T) f) (hm : X.mg x = none) (ha : DA X hx (e :: es) g) (hg : Gl X x := by rfl) (hv : bootBuiltins x = some (.type T) := by decide +kernel) (hn : x ≠ "__name__" := by decide) (hdb : (x == ("__debug__" : Str)) = false := by decide)
    (he : starEach (e :: es) X.env = (false, eval e X.env) :: starEach es X.env := by rfl) (hpl : (backTo pos (starEach es X.env)).any (·.1) = false := by rfl) : DE X hx (.Call (.Name x p) (e :: es) [] pos) (eB f g) :=
  ⟨fun W tk => PEimp (pe_callTy (hc W) hg hm hv (ha.run W tk) hn hdb he hpl) fun σ H Q h => eB_of h⟩
theorem d_callG (hc : CalD X hx (.builtin id) f) (hm : X.mg x = some (.builtin id)) (ha : DA X hx (e :: es) g) (hg : Gl X x := by rfl) (hdb : (x == ("__debug__" : Str)) = false := by decide)
    (he : starEach (e :: es) X.env = (false, eval e X.env) :: starEach es X.env := by rfl) (hpl : (backTo pos (starEach es X.env)).any (·.1) = false := by rfl) : DE X hx (.Call (.Name x p) (e :: es) [] pos) (eB f g) :=
  ⟨fun W tk => PEimp (pe_callBfun (hc W) hg hm (ha.run W tk) hdb he hpl) fun σ H Q h => eB_of h⟩
/-- a built-in type as a value -/
theorem d_ty {n : String} (hm : X.mg x = none) (hg : Gl X x := by rfl) (hv : bootBuiltins x = some (.type n) := by decide +kernel) (hn : x ≠ "__name__" := by decide) (hd : (x == ("__debug__" : Str)) = false := by decide) : DE X hx (.Name x pos) (eC (.ty n)) :=
  d_c (pe_bltn (v := .ty n) hg hm hv rfl hn hd) fun _ _ => .ty n
end

/-! ### one, two arguments -/
theorem rvs1 {c : Cn} {A : Ads} {S : Store} {H : Hp} {d : Wt} {vs : List V} (h : rVs c A S H [d] vs) : ∃ v, vs = [v] ∧ rV c A S H d v := by
  cases h with
  | cons r t => cases t; exact ⟨_, rfl, r⟩
theorem rvs2 {c : Cn} {A : Ads} {S : Store} {H : Hp} {d e : Wt} {vs : List V} (h : rVs c A S H [d, e] vs) : ∃ v u, vs = [v, u] ∧ rV c A S H d v ∧ rV c A S H e u := by
  cases h with
  | cons r t =>
    obtain ⟨u, rfl, r'⟩ := rvs1 t
    exact ⟨_, _, rfl, r, r'⟩
def f1 (f : D → Store → Res Wt) : List Wt → Store → Res Wt
  | [d], S => match deref S d with
    | some x => f x S
    | none => .bad
  | _, _ => .bad
def f2 (f : D → D → Store → Res Wt) : List Wt → Store → Res Wt
  | [d, e], S => match deref S d, deref S e with
    | some x, some y => f x y S
    | _, _ => .bad
  | _, _ => .bad
theorem rcd1 {c : Cn} {f : D → Store → Res Wt} {vs : List V} {H : Hp} {Q : VK} (h : rCD c (f1 f) vs H Q) : ∃ A S σ x v, Rel c.K A S H ∧ vs = [v] ∧ RX c.K (Live A S) H x v ∧ Post c (rV c) σ A S H Q (f x S) := by
  obtain ⟨A, S, σ, ds, R, r, p⟩ := h
  match ds, r, p with
  | [d], r, p =>
    obtain ⟨v, rfl, r'⟩ := rvs1 r
    unfold f1 at p
    dsimp only at p
    split at p
    · rename_i x e
      exact ⟨A, S, σ, x, v, R, rfl, readAs R r' e, p⟩
    · exact p.elim
  | [], _, p => exact p.elim
  | _ :: _ :: _, _, p => exact p.elim
theorem rcd2 {c : Cn} {f : D → D → Store → Res Wt} {vs : List V} {H : Hp} {Q : VK} (h : rCD c (f2 f) vs H Q) : ∃ A S σ x y v u, Rel c.K A S H ∧ vs = [v, u] ∧ RX c.K (Live A S) H x v ∧ RX c.K (Live A S) H y u ∧ Post c (rV c) σ A S H Q (f x y S) := by
  obtain ⟨A, S, σ, ds, R, r, p⟩ := h
  match ds, r, p with
  | [d, e], r, p =>
    obtain ⟨v, u, rfl, r1, r2⟩ := rvs2 r
    unfold f2 at p
    dsimp only at p
    split at p
    · rename_i x y e1 e2
      exact ⟨A, S, σ, x, y, v, u, R, rfl, readAs R r1 e1, readAs R r2 e2, p⟩
    · exact p.elim
  | [], _, p => exact p.elim
  | [_], _, p => exact p.elim
  | _ :: _ :: _ :: _, _, p => exact p.elim

/-! ### len -/
def bLen : List Wt → Store → Res Wt := f1 fun d S => match d with
  | .str x => if x.length ≤ lim then .ok (.d (.int x.length)) S else .bad
  | .tup l => .ok (.d (.int l.length)) S
  | .lst l => .ok (.d (.int l.length)) S
  | .fls l => .ok (.d (.int l.length)) S
  | .dct ks l => .ok (.d (.int ks.length)) S
  | _ => .bad
section
variable {X : Cx} {hx : Hx}
theorem cal_len : CalD X hx (.builtin "len") bLen := by
  intro W pins s σ H xs us Q I r h
  obtain ⟨A, S, σ', d, v, R, rfl, rv, p⟩ := rcd1 h
  split at p
  · rename_i x
    obtain ⟨hz, p⟩ := Post.iteP p
    exact call_len_str pins s σ H _ us Q I r ⟨x, by rw [rv.str], lim_line hz, p.hereV R (.int _)⟩
  · rename_i l
    obtain ⟨b, vs, rfl, hq, g⟩ := rv.tup
    refine call_len_seq pins s σ H _ us Q I r ⟨b, vs, rfl, .inr hq, ?_⟩
    rw [← g.len]
    exact p.hereV R (.int _)
  · rename_i l
    obtain ⟨b, vs, rfl, hq, g⟩ := rv.lst
    refine call_len_seq pins s σ H _ us Q I r ⟨b, vs, rfl, .inl (SqL.of hq), ?_⟩
    rw [← g.len]
    exact p.hereV R (.int _)
  · rename_i l
    obtain ⟨b, vs, rfl, hq, g⟩ := rv.fls
    refine call_len_seq pins s σ H _ us Q I r ⟨b, vs, rfl, .inl hq, ?_⟩
    rw [← g.len]
    exact p.hereV R (.int _)
  · rename_i ks l
    obtain ⟨b, kvs, rfl, hq, hk, g⟩ := rv.dct
    obtain ⟨u, rfl, ru⟩ := vals1 r
    cases ru
    refine d_len I hq fun t s' I' => ⟨.int kvs.length, H, I', ⟨t, rfl⟩, ?_⟩
    have : kvs.length = ks.length := by rw [← hk, List.length_map]
    rw [this]
    exact p.hereV R (.int _)
  · exact p.elim

/-! ### abs, int, min, max, divmod, gcd -/
def bAbs : List Wt → Store → Res Wt := f1 fun d S => match d with
  | .int i => .ok (.d (.int (if i < 0 then -i else i))) S
  | _ => .bad
theorem cal_abs : CalD X hx (.builtin "abs") bAbs := by
  intro W pins s σ H xs us Q I r h
  obtain ⟨A, S, σ', d, v, R, rfl, rv, p⟩ := rcd1 h
  split at p
  · rename_i x
    exact call_abs pins s σ H _ us Q I r ⟨x, by rw [rv.int], p.hereV R (.int _)⟩
  · exact p.elim
def bInt : List Wt → Store → Res Wt := f1 fun d S => match d with
  | .int i => .ok (.d (.int i)) S
  | .bl b => .ok (.d (.int (if b then 1 else 0))) S
  | .str a => match PySem.intText? a with
    | some n => if a.length ≤ 640 then .ok (.d (.int n)) S else .bad
    | none => .bad
  | _ => .bad
theorem cal_int : CalD X hx (.type "int") bInt := by
  intro W pins s σ H xs us Q I r h
  obtain ⟨A, S, σ', d, v, R, rfl, rv, p⟩ := rcd1 h
  split at p
  · rename_i x
    exact call_int1 pins s σ H _ us Q I r (.inl ⟨x, by rw [rv.int], p.hereV R (.int _)⟩)
  · rename_i x
    exact call_int1 pins s σ H _ us Q I r (.inr ⟨x, by rw [rv.bl], p.hereV R (.int _)⟩)
  · rename_i x
    split at p
    · rename_i n q
      obtain ⟨hz, p⟩ := Post.iteP p
      exact call_int_str pins s σ H _ us Q I r ⟨x, n, by rw [rv.str], q, hz, p.hereV R (.int _)⟩
    · exact p.elim
  · exact p.elim
def bInts (f : Int → Int → Int) : List Wt → Store → Res Wt := f2 fun d e S => match d, e with
  | .int i, .int j => .ok (.d (.int (f i j))) S
  | _, _ => .bad
theorem cal_ints {v : Value} {f : Int → Int → Int} (h0 : CallR X v (fun xs H Q => ∃ i j, xs = [.int i, .int j] ∧ Q (.int (f i j)) H)) : CalD X hx v (bInts f) := by
  intro W pins s σ H xs us Q I r h
  obtain ⟨A, S, σ', d, e, v, u, R, rfl, rv, ru, p⟩ := rcd2 h
  split at p
  · rename_i i j
    exact h0 pins s σ H _ us Q I r ⟨i, j, by rw [rv.int, ru.int], p.hereV R (.int _)⟩
  · exact p.elim
abbrev bMax := bInts fun i j => if j > i then j else i
abbrev bMin := bInts fun i j => if j < i then j else i
abbrev bGcd := bInts fun i j => ((Nat.gcd i.natAbs j.natAbs : Nat) : Int)
theorem cal_max (hc : X.calm = true) : CalD X hx (.builtin "max") bMax := cal_ints (call_max2 hc)
theorem cal_min (hc : X.calm = true) : CalD X hx (.builtin "min") bMin := cal_ints (call_min2 hc)
theorem cal_gcd : CalD X hx (.builtin "math.gcd") bGcd := cal_ints cr_gcd
def bDivmod : List Wt → Store → Res Wt := f2 fun d e S => match d, e with
  | .int i, .int j => if 0 < j ∧ j.natAbs.log2 < 9000 then .ok (.d (.tup [.int (i / j), .int (i % j)])) S else .bad
  | _, _ => .bad
theorem cal_divmod : CalD X hx (.builtin "divmod") bDivmod := by
  intro W pins s σ H xs us Q I r h
  obtain ⟨A, S, σ', d, e, v, u, R, rfl, rv, ru, p⟩ := rcd2 h
  split at p
  · rename_i i j
    obtain ⟨hz, p⟩ := Post.iteP p
    exact call_divmodW pins s σ H _ us Q I r ⟨i, j, by rw [rv.int, ru.int], ⟨hz.1, PyProof.noPylong_of_log2 hz.2⟩, fun q hq => p.tup R (.cons (.int _) (.cons (.int _) .nil)) hq⟩
  · exact p.elim

/-! ### all, any, sum, sorted, over lists -/
def asBools : List D → Option (List Bool)
  | [] => some []
  | .bl b :: l => (asBools l).map (b :: ·)
  | _ => none
def asInts : List D → Option (List Int)
  | [] => some []
  | .int b :: l => (asInts l).map (b :: ·)
  | _ => none
theorem bools_of {K : PySem.W.Frag} {lv : Addr → Prop} {H : Hp} : ∀ {l : List D} {vs : List V} {bs : List Bool}, RPs K lv H l vs → asBools l = some bs → vs = bs.map V.bl
  | [], _, _, h, e => by cases h; cases e; rfl
  | d :: l, _, bs, h, e => by
    cases h with
    | cons h1 h2 =>
      cases d with
      | bl b =>
        cases h1
        rw [asBools] at e
        cases q : asBools l with
        | none => rw [q] at e; cases e
        | some cs => rw [q] at e; cases e; rw [bools_of h2 q]; rfl
      | _ => simp [asBools] at e
theorem ints_of {K : PySem.W.Frag} {lv : Addr → Prop} {H : Hp} : ∀ {l : List D} {vs : List V} {bs : List Int}, RPs K lv H l vs → asInts l = some bs → vs = bs.map V.int
  | [], _, _, h, e => by cases h; cases e; rfl
  | d :: l, _, bs, h, e => by
    cases h with
    | cons h1 h2 =>
      cases d with
      | int b =>
        cases h1
        rw [asInts] at e
        cases q : asInts l with
        | none => rw [q] at e; cases e
        | some cs => rw [q] at e; cases e; rw [ints_of h2 q]; rfl
      | _ => simp [asInts] at e
theorem of_ints {K : PySem.W.Frag} {lv : Addr → Prop} {H : Hp} : ∀ (ns : List Int), RPs K lv H (ns.map D.int) (ns.map V.int)
  | [] => .nil
  | i :: r => .cons (.int i) (of_ints r)
def bLst {α : Type} (as : List D → Option (List α)) (k : List α → Store → Res Wt) : List Wt → Store → Res Wt := f1 fun d S => match d with
  | .lst l => match as l with
    | some bs => k bs S
    | none => .bad
  | _ => .bad
abbrev bAll := bLst asBools fun bs S => .ok (.d (.bl (bs.all id))) S
abbrev bAny := bLst asBools fun bs S => .ok (.d (.bl (bs.any id))) S
abbrev bSum := bLst asInts fun bs S => .ok (.d (.int bs.sum)) S
theorem cal_all (hc : X.calm = true) : CalD X hx (.builtin "all") bAll := by
  intro W pins s σ H xs us Q I r h
  obtain ⟨A, S, σ', d, v, R, rfl, rv, p⟩ := rcd1 h
  split at p
  · rename_i l
    split at p
    · rename_i bs q
      obtain ⟨b, vs, rfl, hq, g⟩ := rv.lst
      have := bools_of g q
      subst this
      exact cr_all hc pins s σ H _ us Q I r ⟨b, bs, rfl, SqL.of hq, p.hereV R (.bl _)⟩
    · exact p.elim
  · exact p.elim
theorem cal_any (hc : X.calm = true) : CalD X hx (.builtin "any") bAny := by
  intro W pins s σ H xs us Q I r h
  obtain ⟨A, S, σ', d, v, R, rfl, rv, p⟩ := rcd1 h
  split at p
  · rename_i l
    split at p
    · rename_i bs q
      obtain ⟨b, vs, rfl, hq, g⟩ := rv.lst
      have := bools_of g q
      subst this
      exact cr_any hc pins s σ H _ us Q I r ⟨b, bs, rfl, SqL.of hq, p.hereV R (.bl _)⟩
    · exact p.elim
  · exact p.elim
theorem cal_sum (hc : X.calm = true) : CalD X hx (.builtin "sum") bSum := by
  intro W pins s σ H xs us Q I r h
  obtain ⟨A, S, σ', d, v, R, rfl, rv, p⟩ := rcd1 h
  split at p
  · rename_i l
    split at p
    · rename_i bs q
      obtain ⟨b, vs, rfl, hq, g⟩ := rv.lst
      have := ints_of g q
      subst this
      exact cr_sum hc pins s σ H _ us Q I r ⟨b, bs, rfl, SqL.of hq, p.hereV R (.int _)⟩
    · exact p.elim
  · exact p.elim
/-! ### list(..), tuple(..) -/
def bTuple : List Wt → Store → Res Wt := f1 fun d S => match d with
  | .lst l => .ok (.d (.tup l)) S
  | .tup l => .ok (.d (.tup l)) S
  | _ => .bad
def bList : List Wt → Store → Res Wt := f1 fun d S => match d with
  | .lst l => .ok (.d (.lst l)) S
  | .tup l => .ok (.d (.lst l)) S
  | _ => .bad
def bListL : List Wt → Store → Res Wt := f1 fun d S => match d with
  | .lst l => .ok (.loc S.length) (S ++ [.lst l])
  | .tup l => .ok (.loc S.length) (S ++ [.lst l])
  | _ => .bad
theorem cal_tuple : CalD X hx (.type "tuple") bTuple := by
  intro W pins s σ H xs us Q I r h
  obtain ⟨A, S, σ', d, v, R, rfl, rv, p⟩ := rcd1 h
  split at p
  · rename_i l
    obtain ⟨b, vs, rfl, hq, g⟩ := rv.lst
    exact call_tuple_of pins s σ H _ us Q I r ⟨b, vs, rfl, .inl ⟨SqL.of hq, fun q hq => p.tup R g hq⟩⟩
  · rename_i l
    obtain ⟨b, vs, rfl, hq, g⟩ := rv.tup
    exact call_tuple_of pins s σ H _ us Q I r ⟨b, vs, rfl, .inr ⟨hq, p.hereV R (.tup hq g)⟩⟩
  · exact p.elim
theorem cal_list : CalD X hx (.type "list") bList := by
  intro W pins s σ H xs us Q I r h
  obtain ⟨A, S, σ', d, v, R, rfl, rv, p⟩ := rcd1 h
  split at p
  · rename_i l
    obtain ⟨b, vs, rfl, hq, g⟩ := rv.lst
    exact call_list_of pins s σ H _ us Q I r ⟨b, vs, rfl, .inl (SqL.of hq), fun q hq => p.lst R g hq⟩
  · rename_i l
    obtain ⟨b, vs, rfl, hq, g⟩ := rv.tup
    exact call_list_of pins s σ H _ us Q I r ⟨b, vs, rfl, .inr hq, fun q hq => p.lst R g hq⟩
  · exact p.elim
theorem cal_listL : CalD X hx (.type "list") bListL := by
  intro W pins s σ H xs us Q I r h
  obtain ⟨A, S, σ', d, v, R, rfl, rv, p⟩ := rcd1 h
  split at p
  · rename_i l
    obtain ⟨b, vs, rfl, hq, g⟩ := rv.lst
    exact call_list_of pins s σ H _ us Q I r ⟨b, vs, rfl, .inl (SqL.of hq), fun q hq => p.alloc R g hq⟩
  · rename_i l
    obtain ⟨b, vs, rfl, hq, g⟩ := rv.tup
    exact call_list_of pins s σ H _ us Q I r ⟨b, vs, rfl, .inr hq, fun q hq => p.alloc R g hq⟩
  · exact p.elim

/-! ### sorted, of ints -/
theorem sorted_same {a b : List Int} (hp : a.Perm b) (ha : a.Pairwise (· ≤ ·)) (hb : b.Pairwise (· ≤ ·)) : a = b := List.Perm.eq_of_pairwise (fun _ _ _ _ h1 h2 => Int.le_antisymm h1 h2) ha hb hp
def isort (l : List Int) : List Int := l.mergeSort (fun a b => decide (a ≤ b))
theorem isort_perm (l : List Int) : (isort l).Perm l := List.mergeSort_perm _ _
theorem isort_sorted (l : List Int) : (isort l).Pairwise (· ≤ ·) := by
  have := List.pairwise_mergeSort (le := fun a b : Int => decide (a ≤ b)) (fun a b c h1 h2 => by simp at *; omega) (fun a b => by simp; omega) l
  simpa [isort] using this
abbrev bSorted := bLst asInts fun bs S => .ok (.d (.lst ((isort bs).map D.int))) S
theorem cal_sorted : CalD X hx (.builtin "sorted") bSorted := by
  intro W pins s σ H xs us Q I r h
  obtain ⟨A, S, σ', d, v, R, rfl, rv, p⟩ := rcd1 h
  split at p
  · rename_i l
    split at p
    · rename_i bs q
      obtain ⟨b, vs, rfl, hq, g⟩ := rv.lst
      have := ints_of g q
      subst this
      refine cr_sortedI pins s σ H _ us Q I r ⟨b, bs, rfl, SqL.of hq, fun ns' q' hp hs hn => ?_⟩
      have e2 : ns' = isort bs := sorted_same (hp.trans (isort_perm bs).symm) hs (isort_sorted bs)
      subst e2
      exact p.lst R (of_ints _) hn
    · exact p.elim
  · exact p.elim

/-! ### isinstance -/
def tyN : D → Option String
  | .non => some "NoneType" | .bl _ => some "bool" | .int _ => some "int" | .str _ => some "str" | .tup _ => some "tuple" | .lst _ => some "list" | .fls _ => some "list" | .dct _ _ => some "dict"
  | _ => none
def isT (t n : String) : Bool := t == n || (t == "bool" && n == "int")
def tyK : List String := ["int", "bool", "str", "tuple", "list", "dict"]
theorem isT_kit : ∀ t ∈ "NoneType" :: tyK, ∀ n ∈ tyK, kitB t n = some (isT t n) := by decide +kernel
theorem tyN_mem {d : D} {t : String} (h : tyN d = some t) : t ∈ "NoneType" :: tyK := by
  cases d <;> first
    | (cases h; decide)
    | cases h
def asTys : List D → Option (List String)
  | [] => some []
  | .ty n :: l => if tyK.contains n then (asTys l).map (n :: ·) else none
  | _ => none
def bIsi : List Wt → Store → Res Wt := f2 fun d e S => match tyN d, e with
  | some t, .ty n => if tyK.contains n then .ok (.d (.bl (isT t n))) S else .bad
  | some t, .tup cs => match asTys cs with
    | some ns => .ok (.d (.bl (ns.any (isT t)))) S
    | none => .bad
  | _, _ => .bad
theorem tyX_of {K : PySem.W.Frag} {lv : Addr → Prop} {H : Hp} {d : D} {v : V} {t : String} (h : RX K lv H d v) (e : tyN d = some t) : TyX K H v (.type t) := by
  cases d <;> first
    | (cases e; done)
    | (cases e
       first
        | (obtain rfl := h.non; exact .base .non)
        | (obtain rfl := h.bl; exact .base (.bl _))
        | (obtain rfl := h.int; exact .base (.int _))
        | (obtain rfl := h.str; exact .base (.str _))
        | (obtain ⟨a, vs, rfl, (h1 | ⟨o, h1⟩) | ⟨o, its, n, h1, h2, _⟩, _⟩ := h.tup
           · exact .base (.tup h1)
           · exact .fTuple h1
           · exact .kTuple h1 h2)
        | (obtain ⟨a, vs, rfl, h1, _⟩ := h.lst; exact .base (.lst h1))
        | (obtain ⟨a, vs, rfl, (h1 | ⟨o, h1⟩) | ⟨o, its, n, h1, h2, _⟩, _⟩ := h.fls
           · exact .base (.lst h1)
           · exact .base (.frz h1)
           · exact .kList h1 h2)
        | (obtain ⟨a, vs, rfl, h1 | ⟨o, h1⟩, _⟩ := h.dct
           · exact .base (.dK h1)
           · exact .fDict h1))
theorem tys_of {K : PySem.W.Frag} {lv : Addr → Prop} {H : Hp} : ∀ {l : List D} {vs : List V} {ns : List String}, RPs K lv H l vs → asTys l = some ns → vs = ns.map V.ty ∧ ∀ n ∈ ns, n ∈ tyK
  | [], _, _, h, e => by cases h; cases e; exact ⟨rfl, fun _ h => nomatch h⟩
  | d :: l, _, bs, h, e => by
    cases h with
    | cons h1 h2 =>
      cases d with
      | ty b =>
        cases h1
        rw [asTys] at e
        by_cases hk : tyK.contains b = true
        · rw [if_pos hk] at e
          cases q : asTys l with
          | none => rw [q] at e; cases e
          | some cs =>
            rw [q] at e
            cases e
            obtain ⟨h3, h4⟩ := tys_of h2 q
            rw [h3]
            exact ⟨rfl, fun n hn => (List.mem_cons.mp hn).elim (fun z => by rw [z]; simpa using hk) (h4 n)⟩
        · rw [if_neg hk] at e; cases e
      | _ => simp [asTys] at e
theorem kitAny_tys {K : PySem.W.Frag} {t : String} (ht : t ∈ "NoneType" :: tyK) : ∀ (ns : List String), (∀ n ∈ ns, n ∈ tyK) → PySem.W.kitAny K (.type t) (ns.map Value.type) = some (ns.any (isT t))
  | [], _ => rfl
  | n :: r, h => by
    have h1 := kit_ty (K := K) (isT_kit t ht n (h n List.mem_cons_self))
    rw [List.map_cons, List.any_cons]
    refine kitAny_cons h1 (fun e => ?_) fun e => by rw [e]; rfl
    rw [e, Bool.false_or]
    exact kitAny_tys ht r fun m hm => h m (List.mem_cons_of_mem _ hm)
theorem call_isiS : CallR X (.builtin "isinstance") (fun xs H Q => ∃ (x : V) (tp : Addr) (ns : List String) (t : Value) (b : Bool), xs = [x, .ref tp] ∧ SqT X.K H tp (ns.map V.ty) ∧ TyX X.K H x t ∧ PySem.W.kitAny X.K t (ns.map Value.type) = some b ∧ Q (.bl b) H) := by
  intro pins s σ H xs us Q I r h
  obtain ⟨x, tp, ns, t, b, rfl, hT, ty, e, q⟩ := h
  obtain ⟨u1, u2, rfl, r1, r2⟩ := vals2 r
  cases (show u2 = Value.ref tp from r2)
  obtain ⟨P, Z, p, hx⟩ := kit_of I r1 ty
  obtain ⟨its, rv, ⟨o, h1, h2, n, h3⟩, hzz⟩ := I.tuple hT
  have e3 : its = ns.map Value.type := by
    clear hT e h3 hzz r
    induction ns generalizing its with
    | nil => cases rv; rfl
    | cons a l ih =>
      cases rv with
      | cons ra rt =>
        rw [ih _ rt]
        have : _ = Value.type a := ra
        rw [this]; rfl
  subst e3
  obtain ⟨oc, od, dt, sl⟩ := o
  simp only at h2 h3
  subst h2 h3
  exact PySem.W.kia_tup Z I.kIn p h1 e hx fun tk => ⟨.bl b, H, I.tok tk, rfl, q⟩
theorem cal_isi : CalD X hx (.builtin "isinstance") bIsi := by
  intro W pins s σ H xs us Q I r h
  obtain ⟨A, S, σ', d, e, v, u, R, rfl, rv, ru, p⟩ := rcd2 h
  split at p
  · rename_i t n e1
    obtain ⟨hz, p⟩ := Post.iteP p
    have hz : n ∈ tyK := by simpa using hz
    obtain rfl := ru.ty
    exact call_isi pins s σ H _ us Q I r ⟨v, .ty n, .type t, .type n, _, rfl, .ty n, tyX_of rv e1, kit_ty (isT_kit t (tyN_mem e1) n hz), p.hereV R (.bl _)⟩
  · rename_i t cs e1
    split at p
    · rename_i ns q
      obtain ⟨b, vs, rfl, hq, g⟩ := ru.tup
      obtain ⟨h3, h4⟩ := tys_of g q
      subst h3
      exact call_isiS pins s σ H _ us Q I r ⟨v, b, ns, .type t, _, rfl, hq, tyX_of rv e1, kitAny_tys (tyN_mem e1) ns h4, p.hereV R (.bl _)⟩
    · exact p.elim
  · exact p.elim
end
end Y
end
section
/-! Y9: statements, defs, calls. -/
namespace Y
open PySem PySem.Spec PyProof.Rows L2

inductive SR where
  | nx (σd : Ev) (S : Store) | rt (d : Wt) (S : Store) | bk (σd : Ev) (S : Store) | ct (σd : Ev) (S : Store)
  | exc (C : Str) (ns : List Str) (l : List D) (σd : Ev) (S : Store) | bad
  deriving Inhabited
abbrev SM := Nat → Ev → Store → SR
def Res.toS {α : Type} (r : Res α) (σd : Ev) (k : α → Store → SR) : SR := match r with
  | .ok a S => k a S
  | .exc C ns l S => .exc C ns l σd S
  | .bad => .bad
def SPost (c : Cn) (A0 : Ads) (S0 : Store) (H0 : Hp) (D : Ends) : SR → Prop
  | .nx σd S => ∀ A H σ, Rel c.K A S H → Stp A0 S0 H0 A S H → RE c.K c.hx A (Live A S) H σd σ → D.nx σ H
  | .bk σd S => ∀ A H σ, Rel c.K A S H → Stp A0 S0 H0 A S H → RE c.K c.hx A (Live A S) H σd σ → D.bk σ H
  | .ct σd S => ∀ A H σ, Rel c.K A S H → Stp A0 S0 H0 A S H → RE c.K c.hx A (Live A S) H σd σ → D.ct σ H
  | .rt d S => ∀ A H v, Rel c.K A S H → Stp A0 S0 H0 A S H → RV c.K c.hx A (Live A S) H d v → D.rt v H
  | .exc C ns l σd S => ∀ A H σ dx vs, Rel c.K A S H → Stp A0 S0 H0 A S H → RE c.K c.hx A (Live A S) H σd σ → H dx = some (.xd (ns.zip vs)) → RPs c.K (Live A S) H l vs → ns.length = l.length → c.W (.ref (He.ga c.K C)) (some dx) σ H
  | .bad => False
def tS (c : Cn) (f : SM) : TS := fun D σ H => ∃ b0 A0 S0 H0 A S σd, Rel c.K A0 S0 H0 ∧ Stp A0 S0 H0 A S H ∧ Rel c.K A S H ∧ RE c.K c.hx A (Live A S) H σd σ ∧ SPost c A0 S0 H0 D (f b0 σd S)
structure DS (X : Cx) (hx : Hx) (s : Stmt) (f : SM) : Prop where
  run : ∀ W, Takes X W → PS X s (tS ⟨X.K, hx, W⟩ f)
structure DB (X : Cx) (hx : Hx) (s : List Stmt) (f : SM) : Prop where
  run : ∀ W, Takes X W → PSs X s (tS ⟨X.K, hx, W⟩ f)
theorem PSsimp {X : Cx} {e : List Stmt} {t t' : TS} (h : PSs X e t) (i : ∀ σ H Q, t' Q σ H → t Q σ H) : PSs X e t' := ⟨fun pins s σ H Q I q => h.run pins s σ H Q I (i σ H Q q)⟩
section
variable {c : Cn} {A0 A : Ads} {S0 S : Store} {H0 H : Hp} {D : Ends} {σ : L2.St} {σd : Ev}
/-- a statement's part, then what it does with it -/
theorem Post.ofS {α β : Type} {R1 : RR α β} {r : Res α} {k : α → Store → SR} (R : Rel c.K A S H) (T : Stp A0 S0 H0 A S H) (E : RE c.K c.hx A (Live A S) H σd σ) (p : SPost c A0 S0 H0 D (r.toS σd k)) :
    Post c R1 σ A S H (fun b H1 => ∃ A1 S1 a, Rel c.K A1 S1 H1 ∧ Stp A0 S0 H0 A1 S1 H1 ∧ RE c.K c.hx A1 (Live A1 S1) H1 σd σ ∧ R1 A1 S1 H1 a b ∧ SPost c A0 S0 H0 D (k a S1)) r := by
  cases r with
  | ok a S' => exact fun A' H' b x y z => ⟨A', S', a, x, T.trans y, E.step R y, z, p⟩
  | exc C ns l S' => exact fun A' H' dx vs x y => p A' H' σ dx vs x (T.trans y) (E.step R y)
  | bad => exact p
theorem Post.ofS' {α β : Type} {R1 : RR α β} {r : Res α} {k : α → Store → SR} (R : Rel c.K A S H) (T : Stp A0 S0 H0 A S H) (E : RE c.K c.hx A (Live A S) H σd σ) (p : SPost c A0 S0 H0 D (r.toS σd k)) :
    Post c R1 σ A S H (fun b H1 => ∃ A1 S1 a, Rel c.K A1 S1 H1 ∧ Stp A S H A1 S1 H1 ∧ RE c.K c.hx A1 (Live A1 S1) H1 σd σ ∧ R1 A1 S1 H1 a b ∧ SPost c A0 S0 H0 D (k a S1)) r := by
  cases r with
  | ok a S' => exact fun A' H' b x y z => ⟨A', S', a, x, y, E.step R y, z, p⟩
  | exc C ns l S' => exact fun A' H' dx vs x y => p A' H' σ dx vs x (T.trans y) (E.step R y)
  | bad => exact p
theorem SPost.shift {r : SR} (T : Stp A0 S0 H0 A S H) (p : SPost c A0 S0 H0 D r) : SPost c A S H D r := by
  cases r with
  | nx σd S' => exact fun A' H' σ' R' T' => p A' H' σ' R' (T.trans T')
  | bk σd S' => exact fun A' H' σ' R' T' => p A' H' σ' R' (T.trans T')
  | ct σd S' => exact fun A' H' σ' R' T' => p A' H' σ' R' (T.trans T')
  | rt d S' => exact fun A' H' v R' T' => p A' H' v R' (T.trans T')
  | exc C ns l σd S' => exact fun A' H' σ' dx vs R' T' => p A' H' σ' dx vs R' (T.trans T')
  | bad => exact p
end
def sNext : SM := fun _ σd S => .nx σd S
def sSeq (f g : SM) : SM := fun b σd S => match f b σd S with
  | .nx σd' S' => g b σd' S'
  | r => r
def sExpr (f : EM) : SM := fun _ σd S => (f σd S).toS σd fun _ S' => .nx σd S'
def sRet (f : EM) : SM := fun _ σd S => (f σd S).toS σd fun d S' => .rt d S'
/-- .. let alone from then on -/
def eFz (f : EM) : EM := fun σd S => (f σd S).bind fun d S1 => (fz1 S1 d).bind fun x S2 => .ok (.d x) S2
def sSet (i : Nat) (f : EM) : SM := fun _ σd S => (f σd S).toS σd fun d S' => .nx (σd.set i (some d)) S'
def sIf (t : TM) (f g : SM) : SM := fun b σd S => (t σd S).toS σd fun k S' => if k = true then f b σd S' else g b σd S'
def sBreak : SM := fun _ σd S => .bk σd S
def sCont : SM := fun _ σd S => .ct σd S
section
variable {X : Cx} {hx : Hx} {st : Stmt} {rest : List Stmt} {f g : SM} {e : Expr} {fe : EM} {pos : Pos}
theorem d_fz (h : DE X hx e fe) : DE X hx e (eFz fe) := ⟨fun W tk => PEimp (h.run W tk) fun σ H Q ⟨A, S, σd, R, E, p⟩ => ⟨A, S, σd, R, E, (Post.bind (R1 := rV _) p).mono fun v H1 ⟨A1, S1, d, R1, T1, r1, p1⟩ => by
    obtain ⟨d', S', R2, T2, r2, p2⟩ := p1.fz1 R1 r1
    exact p2.hereV R2 r2⟩⟩
theorem db_nil : DB X hx [] sNext := ⟨fun W tk => PSsimp pss_nil fun σ H D ⟨b0, A0, S0, H0, A, S, σd, R0, T, R, E, p⟩ => p A H σ R T E⟩
theorem seq_of {c : Cn} {f g : SM} {σ : L2.St} {H : Hp} {D : Ends} (h : tS c (sSeq f g) D σ H) : tS c f { D with nx := tS c g D } σ H := by
  obtain ⟨b0, A0, S0, H0, A, S, σd, R0, T, R, E, p⟩ := h
  refine ⟨b0, A0, S0, H0, A, S, σd, R0, T, R, E, ?_⟩
  unfold sSeq at p
  cases q : f b0 σd S with
  | nx σd' S' => rw [q] at p; exact fun A' H' σ' R' T' E' => ⟨b0, A0, S0, H0, A', S', σd', R0, T', R', E', p⟩
  | rt d S' => rw [q] at p; exact p
  | bk σd' S' => rw [q] at p; exact p
  | ct σd' S' => rw [q] at p; exact p
  | exc C ns l σd' S' => rw [q] at p; exact p
  | bad => rw [q] at p; exact p
theorem db_cons (h1 : DS X hx st f) (h2 : DB X hx rest g) : DB X hx (st :: rest) (sSeq f g) := ⟨fun W tk => PSsimp (pss_cons (h1.run W tk) (h2.run W tk)) fun σ H D h => seq_of h⟩
theorem db_one (h1 : DS X hx st f) : DB X hx [st] f := ⟨fun W tk => pss_one (h1.run W tk)⟩
theorem ds_pass : DS X hx (.Pass pos) sNext := ⟨fun W tk => PSimp ps_pass fun σ H D ⟨b0, A0, S0, H0, A, S, σd, R0, T, R, E, p⟩ => p A H σ R T E⟩
theorem ds_break : DS X hx (.Break pos) sBreak := ⟨fun W tk => PSimp ps_break fun σ H D ⟨b0, A0, S0, H0, A, S, σd, R0, T, R, E, p⟩ => p A H σ R T E⟩
theorem ds_cont : DS X hx (.Continue pos) sCont := ⟨fun W tk => PSimp ps_continue fun σ H D ⟨b0, A0, S0, H0, A, S, σd, R0, T, R, E, p⟩ => p A H σ R T E⟩
theorem ds_expr (h : DE X hx e fe) (hs : swapsWith e none pos.line X.env = pure false := by rfl) : DS X hx (.Expr e pos) (sExpr fe) := ⟨fun W tk => PSimp (ps_expr (h.run W tk) hs) fun σ H D ⟨b0, A0, S0, H0, A, S, σd, R0, T, R, E, p⟩ =>
  ⟨A, S, σd, R, E, (Post.ofS (R1 := rV _) R T E p).mono fun v H1 ⟨A1, S1, d, R1, T1, E1, r1, p1⟩ => p1 A1 H1 σ R1 T1 E1⟩⟩
theorem ds_ret (h : DE X hx e fe) : DS X hx (.Return (some e) pos) (sRet fe) := ⟨fun W tk => PSimp (ps_ret (h.run W tk)) fun σ H D ⟨b0, A0, S0, H0, A, S, σd, R0, T, R, E, p⟩ =>
  ⟨A, S, σd, R, E, (Post.ofS (R1 := rV _) R T E p).mono fun v H1 ⟨A1, S1, d, R1, T1, E1, r1, p1⟩ => p1 A1 H1 v R1 T1 r1⟩⟩
def sRetN : SM := fun _ _ S => .rt (.d .non) S
theorem ds_retN : DS X hx (.Return none pos) sRetN := ⟨fun W tk => PSimp ps_retN fun σ H D ⟨b0, A0, S0, H0, A, S, σd, R0, T, R, E, p⟩ => p A H .non R T (RV.of (x := .non) .non)⟩
/-- where the name is assigned -/
theorem ds_set {i : Nat} {x : Str} {pos' : Pos} (hN : X.N.Nodup) (h : DE X hx e fe) (hi : X.N[i]? = some x := by rfl) (hl : Loc X.env.scope x := by first | exact .inl rfl | exact .inr rfl) (hs : swapsWith e (some (.Name x pos')) pos.line X.env = pure false := by rfl)
    (hf : X.fn x = true ∨ X.env.scope.names.lookup x = some .local := by first | exact .inl rfl | exact .inr rfl) : DS X hx (.Assign [.Name x pos'] e pos) (sSet i fe) := ⟨fun W tk => PSimp (ps_set hN hi hl (h.run W tk) hs hf) fun σ H D ⟨b0, A0, S0, H0, A, S, σd, R0, T, R, E, p⟩ =>
  ⟨A, S, σd, R, E, (Post.ofS (R1 := rV _) R T E p).mono fun v H1 ⟨A1, S1, d, R1, T1, E1, r1, p1⟩ => p1 A1 H1 _ R1 T1 (E1.set r1)⟩⟩
theorem ds_if {t : TM} {cnd : Expr} {as bs : List Stmt} (hc : DT X hx cnd t) (ha : DB X hx as f) (hb : DB X hx bs g) : DS X hx (.If cnd as bs pos) (sIf t f g) := ⟨fun W tk => PSimp (ps_if (hc.run W tk) (ha.run W tk) (hb.run W tk)) fun σ H D ⟨b0, A0, S0, H0, A, S, σd, R0, T, R, E, p⟩ =>
  ⟨A, S, σd, R, E, (Post.ofS (R1 := rB) R T E p).mono fun v H1 ⟨A1, S1, d, R1, T1, E1, r1, p1⟩ => by
    cases r1
    cases v with
    | true => exact ⟨b0, A0, S0, H0, A1, S1, σd, R0, T1, R1, E1, p1⟩
    | false => exact ⟨b0, A0, S0, H0, A1, S1, σd, R0, T1, R1, E1, p1⟩⟩⟩
end

/-! ### while -/
def whileN (t : TM) (f : SM) : Nat → SM
  | 0 => fun _ _ _ => .bad
  | n + 1 => fun b σd S => (t σd S).toS σd fun k S1 => if k = true then (match f b σd S1 with
    | .nx σd' S' => whileN t f n b σd' S'
    | .ct σd' S' => whileN t f n b σd' S'
    | .bk σd' S' => .nx σd' S'
    | r => r) else .nx σd S1
/-- at most m turns -/
def sWhile (m : Nat) (t : TM) (f : SM) : SM := whileN t f m
section
variable {X : Cx} {hx : Hx} {pos : Pos} {t : TM} {f : SM} {cnd : Expr} {body : List Stmt}
theorem ds_while (m : Nat) (hp : PassesOwn (model X.prog X.w) X.A X.env X.xe) (hc : DT X hx cnd t) (hb : DB X hx body f) : DS X hx (.While cnd body [] pos) (sWhile m t f) := ⟨fun W tk => PSimp (ps_while hp (hc.run W tk) (hb.run W tk)) fun σ H D ⟨b0, A0, S0, H0, A, S, σd, R0, T, R, E, p⟩ => by
  refine ⟨fun n σ H => ∃ A S σd, Stp A0 S0 H0 A S H ∧ Rel X.K A S H ∧ RE X.K hx A (Live A S) H σd σ ∧ SPost ⟨X.K, hx, W⟩ A0 S0 H0 D (whileN t f n b0 σd S), ⟨m, A, S, σd, T, R, E, p⟩, ?_⟩
  rintro n σ H ⟨A, S, σd, T, R, E, p⟩
  cases n with
  | zero => exact p.elim
  | succ n =>
    refine ⟨A, S, σd, R, E, (Post.ofS (R1 := rB) R T E p).mono fun v H1 ⟨A1, S1, d, R1, T1, E1, r1, p1⟩ => ?_⟩
    cases r1
    cases v with
    | false =>
      rw [if_neg Bool.false_ne_true] at p1 ⊢
      exact p1 A1 H1 σ R1 T1 E1
    | true =>
      rw [if_pos rfl] at p1 ⊢
      refine ⟨fun σ' H' => ∃ A S σd, Stp A0 S0 H0 A S H' ∧ Rel X.K A S H' ∧ RE X.K hx A (Live A S) H' σd σ' ∧ SPost ⟨X.K, hx, W⟩ A0 S0 H0 D (whileN t f n b0 σd S), fun σ' H' h => ⟨n, Nat.lt_succ_self n, h⟩, b0, A0, S0, H0, A1, S1, σd, R0, T1, R1, E1, ?_⟩
      cases q : f b0 σd S1 with
      | nx σd' S' => rw [q] at p1; exact fun A' H' σ' R' T' E' => ⟨A', S', σd', T', R', E', p1⟩
      | ct σd' S' => rw [q] at p1; exact fun A' H' σ' R' T' E' => ⟨A', S', σd', T', R', E', p1⟩
      | rt d S' => rw [q] at p1; exact p1
      | bk σd' S' => rw [q] at p1; exact p1
      | exc C ns l σd' S' => rw [q] at p1; exact p1
      | bad => rw [q] at p1; exact p1⟩
end

/-! ### defs -/
/-- what comes out of a def: the cells that it made are forgotten, but one that it hands back -/
def finish (b : Nat) : SR → Res Wt
  | .rt (.d x) S => .ok (.d x) (S.take b)
  | .rt (.loc n) S => if n < b then .ok (.loc n) (S.take b) else match S[n]? with
    | some c => .ok (.loc b) (S.take b ++ [c])
    | none => .bad
  | .nx _ S => .ok (.d .non) (S.take b)
  | .exc C ns l _ S => .exc C ns l (S.take b)
  | _ => .bad
/-- a def of n parameters and m names -/
def mkFn (n m : Nat) (f : SM) : List Wt → Store → Res Wt := fun ds S => if ds.length = n then finish S.length (f S.length (ds.map some ++ List.replicate (m - n) none) S) else .bad
def cE (K : PySem.W.Frag) (hx : Hx) (E : XK) : Cn := ⟨K, hx, fun cls d _ H => E cls d H⟩
/-- a def's promise: what F says -/
def spOf (K : PySem.W.Frag) (F : List Wt → Store → Res Wt) : Sp := fun vs H Q E => ∃ hx A S ds, Rel K A S H ∧ rVs (cE K hx E) A S H ds vs ∧ Post (cE K hx E) (rV (cE K hx E)) [] A S H Q (F ds S)
section
variable {K : PySem.W.Frag} {A A0 : Ads} {S S0 : Store} {H H0 : Hp}
theorem live_take {m : Nat} {b : Addr} (l : Live (A.take m) (S.take m) b) : Live A S b := by
  obtain ⟨n, c, h1, h2, h3⟩ := l
  have hn : n < m := by
    by_cases h : n < m
    · exact h
    · rw [List.getElem?_eq_none (by rw [List.length_take]; omega)] at h1; cases h1
  rw [List.getElem?_take_of_lt hn] at h1 h2
  exact ⟨n, c, h1, h2, h3⟩
theorem Fr.take (m : Nat) : Fr A S H (A.take m) (S.take m) H := ⟨fun _ _ h _ => h, fun _ l => .inl (live_take l)⟩
theorem Rel.take (m : Nat) (R : Rel K A S H) : Rel K (A.take m) (S.take m) H := by
  have lt : ∀ {α : Type} {l : List α} {n : Nat} {x : α}, (l.take m)[n]? = some x → n < m ∧ l[n]? = some x := fun {α l n x} h => by
    by_cases hn : n < m
    · rw [List.getElem?_take_of_lt hn] at h; exact ⟨hn, h⟩
    · rw [List.getElem?_eq_none (by rw [List.length_take]; omega)] at h; cases h
  refine ⟨by simp [R.len], fun n k a h1 h2 => R.inj n k a (lt h1).2 (lt h2).2, fun n c hc => ?_⟩
  obtain ⟨hn, hc⟩ := lt hc
  rcases R.cell n c hc with ⟨e1, e2⟩ | ⟨a, ha, ok⟩
  · exact .inl ⟨e1, by rw [List.getElem?_take_of_lt hn]; exact e2⟩
  · exact .inr ⟨a, by rw [List.getElem?_take_of_lt hn]; exact ha, ok.fr R (Fr.take m) fun _ h => h⟩
theorem Stp.take (R0 : Rel K A0 S0 H0) (T : Stp A0 S0 H0 A S H) : Stp A0 S0 H0 (A.take S0.length) (S.take S0.length) H := by
  refine ⟨fun n a h => ?_, ?_, T.fr.trans (Fr.take _)⟩
  · rw [List.getElem?_take_of_lt (by rw [← R0.len]; exact (List.getElem?_eq_some_iff.mp h).1)]
    exact T.ext n a h
  · rw [List.length_take, ← R0.len]
    have := T.le
    omega
theorem RV.take {hx : Hx} {d : Wt} {v : V} {m : Nat} (R : Rel K A S H) (h : RV K hx A (Live A S) H d v) (hd : ∀ n, d = .loc n → n < m) : RV K hx (A.take m) (Live (A.take m) (S.take m)) H d v :=
  h.fr R (Fr.take m) fun n a e q => by rw [List.getElem?_take_of_lt (hd n e)]; exact q
/-- one cell is kept behind the old ones -/
theorem Rel.keep {n m : Nat} {a : Addr} {c : Cell} (R : Rel K A S H) (hm : m ≤ n) (hA : A[n]? = some (some a)) (hS : S[n]? = some c) : Rel K (A.take m ++ [some a]) (S.take m ++ [c]) H ∧ Fr A S H (A.take m ++ [some a]) (S.take m ++ [c]) H := by
  have ml : m ≤ A.length := Nat.le_of_lt (Nat.lt_of_le_of_lt hm (List.getElem?_eq_some_iff.mp hA).1)
  have la : (A.take m).length = m := by rw [List.length_take]; omega
  have ls : (S.take m).length = m := by rw [List.length_take, ← R.len]; omega
  have cs : ∀ {α : Type} {l : List α} {x y : α} {k : Nat}, (l.take m).length = m → (l.take m ++ [x])[k]? = some y → (k < m ∧ l[k]? = some y) ∨ (k = m ∧ x = y) := fun {α l x y k} hl h => by
    by_cases hk : k < m
    · rw [List.getElem?_append_left (by omega), List.getElem?_take_of_lt hk] at h
      exact .inl ⟨hk, h⟩
    · rw [List.getElem?_append_right (by omega), hl] at h
      have e : k = m := by
        have := (List.getElem?_eq_some_iff.mp h).1
        simp at this
        omega
      subst e
      simp at h
      exact .inr ⟨rfl, h⟩
  have f : Fr A S H (A.take m ++ [some a]) (S.take m ++ [c]) H := ⟨fun _ _ h _ => h, fun b ⟨k, c', h1, h2, h3⟩ => by
    rcases cs la h1 with ⟨k1, q1⟩ | ⟨k1, q1⟩
    · rcases cs ls h2 with ⟨k2, q2⟩ | ⟨k2, q2⟩
      · exact .inl ⟨k, c', q1, q2, h3⟩
      · omega
    · rcases cs ls h2 with ⟨k2, q2⟩ | ⟨k2, q2⟩
      · omega
      · have e := Option.some.inj q1
        subst e q2
        exact .inl ⟨n, c, hA, hS, h3⟩⟩
  refine ⟨⟨by simp [R.len], fun i j b h1 h2 => ?_, fun i c' hc => ?_⟩, f⟩
  · rcases cs la h1 with ⟨k1, q1⟩ | ⟨k1, q1⟩ <;> rcases cs la h2 with ⟨k2, q2⟩ | ⟨k2, q2⟩
    · exact R.inj i j b q1 q2
    · have e := Option.some.inj q2
      subst e
      have := R.inj i n a q1 hA
      omega
    · have e := Option.some.inj q1
      subst e
      have := R.inj j n a q2 hA
      omega
    · omega
  · rcases cs ls hc with ⟨k1, q1⟩ | ⟨k1, q1⟩
    · rcases R.cell i c' q1 with ⟨e1, e2⟩ | ⟨b, hb, ok⟩
      · exact .inl ⟨e1, by rw [List.getElem?_append_left (by omega), List.getElem?_take_of_lt k1]; exact e2⟩
      · exact .inr ⟨b, by rw [List.getElem?_append_left (by omega), List.getElem?_take_of_lt k1]; exact hb, ok.fr R f fun _ h => h⟩
    · subst q1
      subst k1
      rcases R.cell n c hS with ⟨e1, e2⟩ | ⟨b, hb, ok⟩
      · rw [hA] at e2; cases e2
      · rw [hA] at hb
        obtain rfl := Option.some.inj (Option.some.inj hb)
        exact .inr ⟨a, by rw [List.getElem?_append_right (by omega), la]; simp, ok.fr R f fun _ h => h⟩
/-- a body's end is the def's -/
theorem finish_ok {hx : Hx} {E : XK} {Q : VK} {r : SR} (R0 : Rel K A0 S0 H0) (p : Post (cE K hx E) (rV (cE K hx E)) [] A0 S0 H0 Q (finish S0.length r)) :
    SPost (cE K hx E) A0 S0 H0 { nx := fun _ H' => Q .non H', rt := Q } r := by
  cases r with
  | nx σd S => exact fun A H σ R T E => p _ _ .non (R.take _) (T.take R0) (RV.of (x := .non) .non)
  | bk σd S => exact p.elim
  | ct σd S => exact p.elim
  | bad => exact p.elim
  | exc C ns l σd S => exact fun A H σ dx vs R T E h1 h2 h3 => p _ _ dx vs (R.take _) (T.take R0) h1 (h2.fr R (Fr.take _)) h3
  | rt d S =>
    cases d with
    | hex C ns l => exact p.elim
    | d x => exact fun A H v R T r => p _ _ v (R.take _) (T.take R0) (RV.take (d := .d x) R r fun _ e => nomatch e)
    | loc n =>
      intro A H v R T r
      unfold finish at p
      dsimp only at p
      by_cases hn : n < S0.length
      · rw [if_pos hn] at p
        exact p _ _ v (R.take _) (T.take R0) (RV.take (d := .loc n) R r fun _ e => by cases e; exact hn)
      · rw [if_neg hn] at p
        obtain ⟨a, ha, rfl⟩ := r
        obtain ⟨c, u, hc, hu, ok⟩ := R.known ha
        rw [hc] at p
        obtain ⟨R1, f1⟩ := R.keep (m := S0.length) (by omega) ha hc
        have tk := T.take R0
        have la : (A.take S0.length).length = S0.length := by rw [List.length_take, ← R0.len]; have := T.le; omega
        refine p _ _ _ R1 ⟨fun k b q => ?_, ?_, T.fr.trans f1⟩ ⟨a, by rw [List.getElem?_append_right (by omega), la]; simp, rfl⟩
        · have := tk.ext k b q
          rw [List.getElem?_append_left (List.getElem?_eq_some_iff.mp this).1]
          exact this
        · rw [List.length_append, la, R0.len]; simp
end
theorem rVs_map {c : Cn} {A : Ads} {S : Store} {H : Hp} : ∀ {ds : List Wt} {vs : List V}, rVs c A S H ds vs → ds.length = vs.length
  | _, _, h => Paired.length h
theorem start_re {K : PySem.W.Frag} {hx : Hx} {E : XK} {A : Ads} {S : Store} {H : Hp} {N : List Str} {ds : List Wt} {vs : List V} (r : rVs (cE K hx E) A S H ds vs) : RE K hx A (Live A S) H (ds.map some ++ List.replicate (N.length - ds.length) none) (L2.start N vs) := by
  have hl := rVs_map r
  refine ⟨by simp [L2.start, hl], fun i d e => ?_⟩
  unfold L2.start
  by_cases hi : i < ds.length
  · rw [List.getElem?_append_left (by simpa using hi), List.getElem?_map] at e
    rw [List.getElem?_append_left (by simpa [← hl] using hi), List.getElem?_map]
    have get : ∀ {ds : List Wt} {vs : List V} {i : Nat} {d : Wt}, rVs (cE K hx E) A S H ds vs → ds[i]? = some d → ∃ v, vs[i]? = some v ∧ RV K hx A (Live A S) H d v := by
      intro ds vs i d r
      induction r generalizing i with
      | nil => intro e; simp at e
      | cons r1 r2 ih =>
        intro e
        cases i with
        | zero => simp at e; subst e; exact ⟨_, rfl, r1⟩
        | succ i => simpa using ih (by simpa using e)
    cases q : ds[i]? with
    | none => rw [q] at e; cases e
    | some d' =>
      rw [q] at e
      have e : some d' = some d := Option.some.inj e
      obtain rfl := Option.some.inj e
      obtain ⟨v, h1, h2⟩ := get r q
      exact ⟨v, by rw [h1]; rfl, h2⟩
  · rw [List.getElem?_append_right (by simpa using Nat.le_of_not_lt hi), List.getElem?_replicate] at e
    split at e <;> cases e
section
variable {P : Program} {w : World} {K : PySem.W.Frag} {mg : Str → Option Value} {base : Heap} {x qual : Str} {params : Arguments} {body : List Stmt} {scope : Scope} {f : Addr} {fd : FuncData}
/-- the context of a def's body -/
abbrev cxF (P : Program) (w : World) (K : PySem.W.Frag) (mg : Str → Option Value) (base : Heap) (N : List Str) (qual : Str) (scope : Scope) (f : Addr) (cdv : Value) (A : Around) (outer : List Env) (s : Shared) (H : Hp) (E : XK) : Cx := cxOf (L2.CX P w) P w K mg base N qual scope f cdv A outer s H E
theorem fn_ok {N ps : List Str} {k : Nat} {bf : SM} (F : FunD K x qual params body scope [] [] f fd) (Sc : FnScope N ps scope)
    (hb : ∀ (hx : Hx) (cdv : Value) (A : Around) (outer : List Env) (s : Shared) (H : Hp) (E : XK), Room k (A.deeper (envOfC qual scope s.heap.objs.size f cdv)) → DB (cxF P w K mg base N qual scope f cdv A outer s H E) hx body bf) :
    FnOk P w K mg base (L2.CX P w) (k + 1) f fd ps (spOf K (mkFn ps.length N.length bf)) := by
  refine F.ok Sc (fun vs H Q E h => ?_) fun cdv A outer s H vs Q E hr h => ?_
  · obtain ⟨hx, A, S, ds, R, r, p⟩ := h
    unfold mkFn at p
    obtain ⟨hl, _⟩ := Post.iteP p
    rw [← rVs_map r]
    exact hl
  · obtain ⟨hx, A1, S, ds, R, r, p⟩ := h
    unfold mkFn at p
    obtain ⟨hl, p⟩ := Post.iteP p
    refine ⟨_, (hb hx cdv A outer s H E hr).run (fun cls d _ H => E cls d H) (takes_of rfl rfl rfl rfl), S.length, A1, S, H, A1, S, ds.map some ++ List.replicate (N.length - ps.length) none, R, .refl, R, ?_, finish_ok R p⟩
    have := start_re (N := N) r
    rw [hl] at this
    exact this
end
/-- a def that stands at a name -/
structure Fn (P : Program) (w : World) (K : PySem.W.Frag) (mg : Str → Option Value) (base : Heap) (x : Str) (k : Nat) (ps : List Str) (F : List Wt → Store → Res Wt) : Prop where
  is : ∃ f fd, mg x = some (.ref f) ∧ PySem.W.keepIn K (.ref f) = true ∧ Binds K fd ps [] ∧ FnOk P w K mg base (L2.CX P w) k f fd ps (spOf K F)
theorem Fn.mono {P : Program} {w : World} {K : PySem.W.Frag} {mg : Str → Option Value} {base : Heap} {x : Str} {k k' : Nat} {ps : List Str} {F : List Wt → Store → Res Wt} (h : Fn P w K mg base x k ps F) (l : k ≤ k') : Fn P w K mg base x k' ps F := by
  obtain ⟨f, fd, h1, h2, h3, h4⟩ := h.is
  exact ⟨f, fd, h1, h2, h3, h4.mono l⟩
section
variable {X : Cx} {hx : Hx} {x : Str} {k : Nat} {ps : List Str} {F : List Wt → Store → Res Wt} {e : Expr} {es : List Expr} {g : AM} {p pos : Pos}
theorem Post.toCE {c : Cn} {σ : L2.St} {A : Ads} {S : Store} {H : Hp} {Q : VK} {r : Res Wt} (p : Post c (rV c) σ A S H Q r) : Post (cE c.K c.hx (WE c.W σ)) (rV (cE c.K c.hx (WE c.W σ))) [] A S H Q r := by
  cases r with
  | ok a S' => exact p
  | exc C ns l S' => exact p
  | bad => exact p
theorem d_call (G : Fn X.prog X.w X.K X.mg X.base x k ps F) (hr : Room k X.A) (ha : DA X hx (e :: es) g) (hg : Gl X x := by rfl) (hdb : (x == ("__debug__" : Str)) = false := by decide) (he : starEach (e :: es) X.env = (false, eval e X.env) :: starEach es X.env := by rfl)
    (hpl : (backTo pos (starEach es X.env)).any (·.1) = false := by rfl) : DE X hx (.Call (.Name x p) (e :: es) [] pos) (eB F g) := by
  obtain ⟨f, fd, hm, hk, hb, hF⟩ := G.is
  refine ⟨fun W tk => PEimp (pe_callS hF hr hg hm hk hb (fun σ => passAt tk σ) (ha.run W tk) hdb he hpl) fun σ H Q ⟨A, S, σd, R, E, q⟩ => ⟨A, S, σd, R, E, (Post.bind (R1 := rVs _) q).mono fun vs H1 ⟨A1, S1, ds, R1, T1, r1, p1⟩ => ?_⟩⟩
  exact ⟨hx, A1, S1, ds, R1, r1, p1.toCE⟩
end
end Y
end
section
/-! Y10: targets, stores into cells, methods of lists. -/
namespace Y
open PySem PySem.Spec PyProof.Rows L2

section
variable {K : PySem.W.Frag} {A : Ads} {S : Store} {H : Hp} {a : Addr} {n : Nat} {c c' : Cell} {o : HO}
/-- a live cell is written anew -/
theorem Rel.put (R : Rel K A S H) (ha : A[n]? = some (some a)) (hc : S[n]? = some c) (hl : c.live = true) (hl' : c'.live = true)
    (ok : ∀ lv H', (∀ d v, RP K (Live A S) H d v → RP K lv H' d v) → (∀ ds vs, RPs K (Live A S) H ds vs → RPs K lv H' ds vs) → H' a = some o → COk K lv H' a c') :
    Rel K A (S.set n c') (upd H a o) ∧ Stp A S H A (S.set n c') (upd H a o) := by
  have hLa : Live A S a := ⟨n, c, ha, hc, hl⟩
  have hnl : n < S.length := (List.getElem?_eq_some_iff.mp hc).1
  have sub : ∀ b, Live A (S.set n c') b → Live A S b := fun b ⟨m, d, h1, h2, h3⟩ => by
    rcases set_cases h2 with ⟨rfl, rfl⟩ | ⟨hm, h2⟩
    · exact ⟨m, c, h1, hc, hl⟩
    · exact ⟨m, d, h1, h2, h3⟩
  have f : Fr A S H A (S.set n c') (upd H a o) := ⟨fun b u h nl => by rw [upd_ne (show b ≠ a from fun e => nl (by rw [e]; exact hLa))]; exact h, fun b l => .inl (sub b l)⟩
  refine ⟨⟨by simp [R.len], R.inj, fun m d hd => ?_⟩, fun _ _ h => h, Nat.le_refl _, f⟩
  rcases set_cases hd with ⟨rfl, rfl⟩ | ⟨hm, h2⟩
  · exact .inr ⟨a, ha, ok _ _ (fun d v r => r.fr R f) (fun ds vs r => r.fr R f) upd_same⟩
  · rcases R.cell m d h2 with q | ⟨b, hb, okb⟩
    · exact .inl q
    · refine .inr ⟨b, hb, okb.fr R f fun u hu => ?_⟩
      rw [upd_ne (fun e => hm (R.inj m n a (by rw [← e]; exact hb) ha))]
      exact hu
theorem Rel.putL {l l' : List D} {vs : List V} (R : Rel K A S H) (ha : A[n]? = some (some a)) (hc : S[n]? = some (.lst l)) (r : RPs K (Live A S) H l' vs) :
    Rel K A (S.set n (.lst l')) (upd H a (.lst vs)) ∧ Stp A S H A (S.set n (.lst l')) (upd H a (.lst vs)) :=
  R.put ha hc rfl rfl fun lv H' _ h2 h3 => ⟨vs, h3, h2 _ _ r⟩
theorem Rel.putK {l l' : List (Key × D)} {kvs : List (Key × V)} (R : Rel K A S H) (ha : A[n]? = some (some a)) (hc : S[n]? = some (.dK l)) (hk : kvs.map (·.1) = l'.map (·.1)) (r : RPs K (Live A S) H (l'.map (·.2)) (kvs.map (·.2))) :
    Rel K A (S.set n (.dK l')) (upd H a (.dK kvs)) ∧ Stp A S H A (S.set n (.dK l')) (upd H a (.dK kvs)) :=
  R.put ha hc rfl rfl fun lv H' _ h2 h3 => ⟨kvs, h3, hk, h2 _ _ r⟩
end

/-! ### targets -/
/-- but at these places -/
def Same (is : List Nat) (σ0 σ : L2.St) : Prop := σ.length = σ0.length ∧ ∀ j, j ∉ is → σ[j]? = σ0[j]?
def rEv (c : Cn) (is : List Nat) (σ0 : L2.St) : RR Ev L2.St := fun A S H σd σ => RE c.K c.hx A (Live A S) H σd σ ∧ Same is σ0 σ
theorem Same.refl (is : List Nat) (σ : L2.St) : Same is σ σ := ⟨rfl, fun _ _ => rfl⟩
theorem Same.trans {is js : List Nat} {σ0 σ1 σ2 : L2.St} (h : Same is σ0 σ1) (g : Same js σ1 σ2) : Same (is ++ js) σ0 σ2 :=
  ⟨g.1.trans h.1, fun j hj => (g.2 j fun z => hj (List.mem_append_right _ z)).trans (h.2 j fun z => hj (List.mem_append_left _ z))⟩
theorem Same.set (σ : L2.St) (i : Nat) (v : Option V) : Same [i] σ (σ.set i v) := ⟨by simp, fun j hj => List.getElem?_set_ne fun e => hj (by simp [e])⟩
abbrev GM := Wt → Ev → Store → Res Ev
abbrev GMs := List Wt → Ev → Store → Res Ev
def tG (c : Cn) (is : List Nat) (g : GM) : TG := fun v σ H Q => ∃ A S σd d, Rel c.K A S H ∧ RE c.K c.hx A (Live A S) H σd σ ∧ rV c A S H d v ∧ Post c (rEv c is σ) σ A S H Q (g d σd S)
def tGs (c : Cn) (is : List Nat) (g : GMs) : TGs := fun v σ H Q => ∃ A S σd d, Rel c.K A S H ∧ RE c.K c.hx A (Live A S) H σd σ ∧ rVs c A S H d v ∧ Post c (rEv c is σ) σ A S H Q (g d σd S)
/-- no exception comes out of it -/
def NoX {α : Type} (r : Res α) : Prop := ∀ C ns l S, r ≠ .exc C ns l S
structure DG (X : Cx) (hx : Hx) (tg : Expr) (is : List Nat) (g : GM) : Prop where
  run : ∀ W, Takes X W → PG X tg (tG ⟨X.K, hx, W⟩ is g)
  nox : ∀ d σd S, NoX (g d σd S)
structure DGs (X : Cx) (hx : Hx) (tg : List Expr) (is : List Nat) (g : GMs) : Prop where
  run : ∀ W, Takes X W → PGs X tg (tGs ⟨X.K, hx, W⟩ is g)
  nox : ∀ d σd S, NoX (g d σd S)
theorem PGimp {X : Cx} {e : Expr} {t t' : TG} (h : PG X e t) (i : ∀ v σ H Q, t' v σ H Q → t v σ H Q) : PG X e t' := ⟨fun pins s σ H v u Q I r q => h.run pins s σ H v u Q I r (i v σ H Q q)⟩
theorem PGsimp {X : Cx} {e : List Expr} {t t' : TGs} (h : PGs X e t) (i : ∀ v σ H Q, t' v σ H Q → t v σ H Q) : PGs X e t' := ⟨fun pins s σ H v u Q I r q => h.run pins s σ H v u Q I r (i v σ H Q q)⟩
def gN (i : Nat) : GM := fun d σd S => .ok (σd.set i (some d)) S
def gN0 : GMs := fun ds σd S => match ds with
  | [] => .ok σd S
  | _ => .bad
def gN1 (g : GM) (h : GMs) : GMs := fun ds σd S => match ds with
  | d :: r => (g d σd S).bind fun σ1 S1 => h r σ1 S1
  | _ => .bad
def gT (n : Nat) (h : GMs) : GM := fun d σd S => match deref S d with
  | some (.tup l) => if l.length = n then h (l.map Wt.d) σd S else .bad
  | _ => .bad
theorem Res.bind_nox {α β : Type} {r : Res α} {f : α → Store → Res β} (h : NoX r) (h2 : ∀ a S, NoX (f a S)) : NoX (r.bind f) := by
  cases r with
  | ok a S => exact h2 a S
  | exc C ns l S => exact (h C ns l S rfl).elim
  | bad => intro _ _ _ _ e; cases e
theorem rvs_of {c : Cn} {A : Ads} {S : Store} {H : Hp} : ∀ {l : List D} {vs : List V}, RPs c.K (Live A S) H l vs → rVs c A S H (l.map Wt.d) vs
  | _, _, .nil => .nil
  | _, _, .cons r t => .cons (RV.of r) (rvs_of t)
section
variable {X : Cx} {hx : Hx} {pos : Pos}
theorem dg_name {i : Nat} {x : Str} (hN : X.N.Nodup) (hi : X.N[i]? = some x := by rfl) (hl : Loc X.env.scope x := by first | exact .inl rfl | exact .inr rfl)
    (hf : X.fn x = true ∨ X.env.scope.names.lookup x = some .local := by first | exact .inl rfl | exact .inr rfl) : DG X hx (.Name x pos) [i] (gN i) :=
  ⟨fun W tk => PGimp (pg_name hN hi hl hf) fun v σ H Q ⟨A, S, σd, d, R, E, r, p⟩ => p A H _ R .refl ⟨E.set r, Same.set _ _ _⟩, fun _ _ _ _ _ _ _ e => by cases e⟩
theorem dgs_nil : DGs X hx [] [] gN0 := ⟨fun W tk => PGsimp pgs_nil fun v σ H Q ⟨A, S, σd, d, R, E, r, p⟩ => by
    cases r with
    | nil => exact ⟨rfl, p A H _ R .refl ⟨E, .refl _ _⟩⟩
    | cons _ _ => exact p.elim, fun d _ _ _ _ _ _ e => by cases d <;> cases e⟩
theorem dgs_cons {e : Expr} {es : List Expr} {g : GM} {h : GMs} {is js : List Nat} (h1 : DG X hx e is g) (h2 : DGs X hx es js h)
    (hs : (assignEach (e :: es) X.env).map (·.2) = assign e X.env :: (assignEach es X.env).map (·.2) := by rfl) : DGs X hx (e :: es) (is ++ js) (gN1 g h) :=
  ⟨fun W tk => PGsimp (pgs_cons (h1.run W tk) (h2.run W tk) hs) fun v σ H Q ⟨A, S, σd, d, R, E, r, p⟩ => by
    cases r with
    | nil => exact p.elim
    | @cons d v ds vs r t =>
      refine ⟨v, vs, rfl, A, S, σd, d, R, E, r, (Post.bind (R1 := rEv _ is σ) p).mono fun σ1 H1 ⟨A1, S1, σd1, R1, T1, ⟨E1, sm⟩, p1⟩ => ?_⟩
      refine ⟨A1, S1, σd1, ds, R1, E1, Paired.mapP t fun d v q => RV.step R T1 q, ?_⟩
      revert p1
      cases q : h ds σd1 S1 with
      | ok a S' => exact fun p1 A' H' b x y z => p1 A' H' b x y ⟨z.1, sm.trans z.2⟩
      | exc C ns l S' => exact fun _ => (h2.nox _ _ _ _ _ _ _ q).elim
      | bad => exact id,
   fun d σd S => by
    cases d with
    | nil => intro _ _ _ _ e; cases e
    | cons d r => exact Res.bind_nox (h1.nox _ _ _) fun a S => h2.nox _ _ _⟩
theorem dg_tup {es : List Expr} {k : Nat} {h : GMs} {n : Nat} {is : List Nat} (hc : X.calm = true) (hg : DGs X hx es is h) (hn : (assignEach es X.env).length = n := by rfl) (hst : (assignEach es X.env).findIdx? (·.1) = none := by rfl) : DG X hx (.Tuple es k pos) is (gT n h) :=
  ⟨fun W tk => PGimp (pg_tup hc (hg.run W tk) hn hst) fun v σ H Q ⟨A, S, σd, d, R, E, r, p⟩ => by
    unfold gT at p
    split at p
    · rename_i l e
      obtain ⟨hl, p⟩ := Post.iteP p
      obtain ⟨a, vs, rfl, h1, g1⟩ := (readAs R r e).tup
      exact ⟨a, vs, rfl, h1, by rw [← g1.len]; exact hl, A, S, σd, _, R, E, rvs_of g1, p⟩
    · exact p.elim,
   fun d σd S => by
    unfold gT
    split
    · split
      · exact hg.nox _ _ _
      · intro _ _ _ _ e; cases e
    · intro _ _ _ _ e; cases e⟩
end

/-! ### assignments -/
def sAsg (g : GM) (f : EM) : SM := fun _ σd S => (f σd S).toS σd fun d S1 => (g d σd S1).toS σd fun σ2 S2 => .nx σ2 S2
def sPar (i j : Nat) (f : AM) : SM := fun _ σd S => (f σd S).toS σd fun ds S1 => match ds with
  | [d, e] => .nx ((σd.set i (some d)).set j (some e)) S1
  | _ => .bad
def sPar3 (i j l : Nat) (f : AM) : SM := fun _ σd S => (f σd S).toS σd fun ds S1 => match ds with
  | [d, e, h] => .nx (((σd.set i (some d)).set j (some e)).set l (some h)) S1
  | _ => .bad
section
variable {X : Cx} {hx : Hx} {pos : Pos} {e tg : Expr} {fe : EM} {g : GM} {is : List Nat}
theorem ds_asg (h : DE X hx e fe) (hg : DG X hx tg is g) (hs : swapsWithSole [tg] e pos.line X.env = pure false := by rfl) (hw : swappedStores [tg] e X.env = pure none := by rfl)
    (h1 : (assignEach [tg] X.env).map (·.2) = [assign tg X.env] := by rfl) : DS X hx (.Assign [tg] e pos) (sAsg g fe) := ⟨fun W tk => PSimp (ps_asg (h.run W tk) (hg.run W tk) hs hw h1) fun σ H D ⟨b0, A0, S0, H0, A, S, σd, R0, T, R, E, p⟩ =>
  ⟨A, S, σd, R, E, (Post.ofS (R1 := rV _) R T E p).mono fun v H1 ⟨A1, S1, d, R1, T1, E1, r1, p1⟩ => ⟨A1, S1, σd, d, R1, E1, r1, (Post.ofS (R1 := rEv _ is σ) R1 T1 E1 p1).mono fun σ2 H2 ⟨A2, S2, σd2, R2, T2, _, ⟨E2, _⟩, p2⟩ => p2 A2 H2 σ2 R2 T2 E2⟩⟩⟩
theorem ds_par {i j : Nat} {x y : Str} {a b : Expr} {fa : AM} {px py pt : Pos} {kt k2 pt2} (hc : X.calm = true) (hN : X.N.Nodup) (ha : DA X hx [a, b] fa) (hi : X.N[i]? = some x := by rfl) (hj : X.N[j]? = some y := by rfl) (hij : i ≠ j := by decide)
    (hx' : X.env.scope.names.lookup x = some .local := by rfl) (hy : X.env.scope.names.lookup y = some .local := by rfl)
    (hw : swappedStores [.Tuple [.Name x px, .Name y py] kt pt] (.Tuple [a, b] k2 pt2) X.env = pure (some [x, y]) := by rfl)
    (hs : swapsWithSole [.Tuple [.Name x px, .Name y py] kt pt] (.Tuple [a, b] k2 pt2) pos.line X.env = pure false := by rfl) :
    DS X hx (.Assign [.Tuple [.Name x px, .Name y py] kt pt] (.Tuple [a, b] k2 pt2) pos) (sPar i j fa) := ⟨fun W tk => PSimp (ps_par hc hN hi hj hij hx' hy (ha.run W tk) hw hs) fun σ H D ⟨b0, A0, S0, H0, A, S, σd, R0, T, R, E, p⟩ =>
  ⟨A, S, σd, R, E, (Post.ofS (R1 := rVs _) R T E p).mono fun vs H1 ⟨A1, S1, ds, R1, T1, E1, r1, p1⟩ => by
    match ds, r1, p1 with
    | [d, e], r1, p1 =>
      obtain ⟨v, u, rfl, r2, r3⟩ := rvs2 r1
      exact ⟨v, u, rfl, p1 A1 H1 _ R1 T1 ((E1.set r2).set r3)⟩
    | [], _, p1 => exact p1.elim
    | [_], _, p1 => exact p1.elim
    | _ :: _ :: _ :: _, _, p1 => exact p1.elim⟩⟩
end

/-! ### o[i] = v for a list's cell, a dict's cell -/
def dput (k : Key) (x : D) (l : List (Key × D)) : List (Key × D) := if (l.any fun p => decide (p.1 = k)) = true then l.map (fun p => if p.1 = k then (p.1, x) else p) else l ++ [(k, x)]
def noEx {α : Type} : Res α → Res α
  | .ok a S => .ok a S
  | _ => .bad
theorem noEx_nox {α : Type} (r : Res α) : NoX (noEx r) := by cases r <;> intro _ _ _ _ e <;> cases e
theorem Post.noEx {α β : Type} {c : Cn} {R1 : RR α β} {σ : L2.St} {A : Ads} {S : Store} {H : Hp} {Q : β → Hp → Prop} {r : Res α} (p : Post c R1 σ A S H Q (Y.noEx r)) : Post c R1 σ A S H Q r := by
  cases r with
  | ok a S' => exact p
  | exc C ns l S' => exact p.elim
  | bad => exact p.elim
def putC (n : Nat) (i : Option D) (x : D) (S : Store) : Option Cell → Res Unit
  | some (.lst l) => match i with
    | some (.int k) => match ixN l.length k with
      | some j => .ok () (S.set n (.lst (l.set j x)))
      | none => .bad
    | _ => .bad
  | some (.dK l) => match i.bind D.key with
    | some k => if l.length < lim then .ok () (S.set n (.dK (dput k x l))) else .bad
    | none => .bad
  | _ => .bad
def setC (o i d : Wt) (S : Store) : Res Unit := (fz1 S d).bind fun x S1 => match o with
  | .loc n => putC n (deref S1 i) x S1 S1[n]?
  | _ => .bad
def rU (c : Cn) : RR Unit Unit := fun _ _ _ _ _ => True
def rSet (c : Cn) : TSet := fun o i v H Q => ∃ A S σ d1 d2 d3, Rel c.K A S H ∧ rV c A S H d1 o ∧ rV c A S H d2 i ∧ rV c A S H d3 v ∧ Post c (rU c) σ A S H (fun _ H' => Q H') (setC d1 d2 d3 S)
theorem any_map {α : Type} {β : Type} {k : Key} {l : List (Key × α)} {l' : List (Key × β)} (h : l.map (·.1) = l'.map (·.1)) : (l.any fun p => decide (p.1 = k)) = (l'.any fun p => decide (p.1 = k)) := by
  have q : ∀ {γ : Type} (l : List (Key × γ)), (l.any fun p => decide (p.1 = k)) = ((l.map (·.1)).any fun p => decide (p = k)) := fun l => by rw [List.any_map]; rfl
  rw [q, q, h]
theorem dput_rps {K : PySem.W.Frag} {lv : Addr → Prop} {H : Hp} {k : Key} {x : D} {v : V} {l : List (Key × D)} {kvs : List (Key × V)} (hk : kvs.map (·.1) = l.map (·.1)) (r : RPs K lv H (l.map (·.2)) (kvs.map (·.2))) (rx : RP K lv H x v) :
    (putK kvs k v).map (·.1) = (dput k x l).map (·.1) ∧ RPs K lv H ((dput k x l).map (·.2)) ((putK kvs k v).map (·.2)) := by
  unfold putK dput
  rw [any_map hk]
  split
  · rename_i hb
    clear hb
    induction l generalizing kvs with
    | nil =>
      cases kvs with
      | nil => exact ⟨rfl, .nil⟩
      | cons _ _ => cases hk
    | cons p l ih =>
      cases kvs with
      | nil => cases hk
      | cons q kvs =>
        simp only [List.map_cons, List.cons.injEq] at hk
        simp only [List.map_cons] at r
        cases r with
        | cons r1 r2 =>
          obtain ⟨i1, i2⟩ := ih hk.2 r2
          simp only [List.map_cons]
          rw [hk.1, i1]
          by_cases e : p.1 = k
          · rw [if_pos e, if_pos e]
            exact ⟨rfl, .cons rx i2⟩
          · rw [if_neg e, if_neg e]
            exact ⟨by rw [hk.1], .cons r1 i2⟩
  · rw [List.map_append, List.map_append, List.map_append, List.map_append, hk]
    exact ⟨rfl, r.append (.one rx)⟩
section
variable {X : Cx} {hx : Hx} {pos : Pos} {o i e : Expr} {fo fi fe : EM}
theorem pset (hu : X.A.units + 65 < cLine) (W : WX) : PSet X (rSet ⟨X.K, hx, W⟩) := by
  intro pins s σ H o i v ov iv u Q I ro ri rv h
  obtain ⟨A, S, σ', d1, d2, d3, R, r1, r2, r3, p⟩ := h
  obtain ⟨x, S1, R1, T1, rx, p1⟩ := Post.fz1 R r3 p
  have r1' := r1.step R T1
  have r2' := r2.step R T1
  cases d1 with
  | d x => exact p1.elim
  | hex C ns l => exact p1.elim
  | loc n =>
    obtain ⟨a, ha, rfl⟩ := r1'
    obtain ⟨c, w, hc, hu', ok⟩ := R1.known ha
    have p1 : Post (⟨X.K, hx, W⟩ : Cn) (rU ⟨X.K, hx, W⟩) σ' A S1 H (fun _ H' => Q H') (putC n (deref S1 d2) x S1 S1[n]?) := p1
    rw [hc] at p1
    cases c with
    | dead => exact p1.elim
    | frz d => exact p1.elim
    | ins C l => exact p1.elim
    | lst l =>
      obtain ⟨vs, h1, h2⟩ := ok
      cases e2 : deref S1 d2 with
      | none => rw [e2] at p1; exact p1.elim
      | some y =>
        rw [e2] at p1
        cases y with
        | int k =>
          unfold putC at p1
          dsimp only at p1
          cases e3 : ixN l.length k with
          | none => rw [e3] at p1; exact p1.elim
          | some j =>
            rw [e3] at p1
            obtain rfl := (readAs R1 r2' e2).int
            obtain ⟨R2, T2⟩ := R1.putL ha hc (h2.set rx j)
            exact set_list pins s σ H _ _ v ov iv u Q I ro ri rv ⟨a, vs, k, j, rfl, rfl, h1, by rw [← h2.len]; exact e3, p1 A _ () R2 T2 trivial⟩
        | _ => exact p1.elim
    | dK l =>
      obtain ⟨kvs, h1, h2, h3⟩ := ok
      unfold putC at p1
      dsimp only at p1
      cases e2 : deref S1 d2 with
      | none => rw [e2] at p1; exact p1.elim
      | some y =>
        rw [e2] at p1
        cases e3 : y.key with
        | none => rw [show (some y).bind D.key = none from e3] at p1; exact p1.elim
        | some k =>
          rw [show (some y).bind D.key = some k from e3] at p1
          obtain ⟨hz, p1⟩ := Post.iteP p1
          have hkl : kvs.length = l.length := by
            have := congrArg List.length h2
            simpa using this
          obtain ⟨q1, q2⟩ := dput_rps (k := k) h2 h3 rx
          obtain ⟨R2, T2⟩ := R1.putK ha hc q1 q2
          obtain rfl := key_ok (readAs R1 r2' e2) e3
          cases ro
          exact d_setItem (by omega) I (DPut.k h1 (by rw [hkl]; exact lim_lt hz)) ri rv fun s' I' => ⟨_, I', p1 A _ () R2 T2 trivial⟩
def gSb (fo fi : EM) : GM := fun d σd S => noEx ((fo σd S).bind fun o S1 => (fi σd S1).bind fun i S2 => (setC o i d S2).bind fun _ S3 => .ok σd S3)
theorem dg_sub (hu : X.A.units + 65 < cLine) (ho : DE X hx o fo) (hi : DE X hx i fi)
    (ha : ∀ v, assign (.Subscript o i pos) X.env v = (do
      let ov ← holding [v] (eval o X.env)
      let iv ← holding [v, ov] (eval i X.env)
      standAt pos
      holding [v, ov, iv] (setItem ov iv v)
      release [v, ov, iv] []) := by intro _; rfl) : DG X hx (.Subscript o i pos) [] (gSb fo fi) :=
  ⟨fun W tk => PGimp (pg_sub (ho.run W tk) (hi.run W tk) (pset hu W) ha) fun v σ H Q ⟨A, S, σd, d, R, E, r, p⟩ => by
    refine ⟨A, S, σd, R, E, (Post.bind (R1 := rV _) (Post.noEx p)).mono fun ov H1 ⟨A1, S1, o1, R1, T1, r1, p1⟩ => ⟨A1, S1, σd, R1, E.step R T1, (Post.bind (R1 := rV _) p1).mono fun iv H2 ⟨A2, S2, i2, R2, T2, r2, p2⟩ => ?_⟩⟩
    exact ⟨A2, S2, σ, o1, i2, d, R2, r1.step R1 T2, r2, (r.step R T1).step R1 T2, (Post.bind (R1 := rU _) p2).mono fun _ H3 ⟨A3, S3, _, R3, T3, _, p3⟩ => p3 A3 H3 _ R3 .refl ⟨((E.step R T1).step R1 T2).step R2 T3, .refl _ _⟩⟩,
   fun d σd S => noEx_nox _⟩
end

/-! ### methods -/
def rMD (c : Cn) (f : Wt → List Wt → Store → Res Wt) : V → List V → Hp → VK → Prop := fun x vs H Q => ∃ A S σ d ds, Rel c.K A S H ∧ rV c A S H d x ∧ rVs c A S H ds vs ∧ Post c (rV c) σ A S H Q (f d ds S)
def MetD (X : Cx) (hx : Hx) (id : String) (f : Wt → List Wt → Store → Res Wt) : Prop := ∀ W, MtR X id (rMD ⟨X.K, hx, W⟩ f)
def eM (ok : Wt → Store → Bool) (f : Wt → List Wt → Store → Res Wt) (fo : EM) (g : AM) : EM := fun σd S => (fo σd S).bind fun o S1 => if ok o S1 = true then (g σd S1).bind fun ds S2 => f o ds S2 else .bad
def isLst (d : Wt) (S : Store) : Bool := match deref S d with
  | some (.lst _) => true
  | some (.fls _) => true
  | _ => false
def isStr (d : Wt) (S : Store) : Bool := match deref S d with
  | some (.str _) => true
  | _ => false
section
variable {X : Cx} {hx : Hx} {apos cpos : Pos} {o e : Expr} {es : List Expr} {fo : EM} {g : AM} {name : Str} {T id : String} {f : Wt → List Wt → Store → Res Wt} {ok : Wt → Store → Bool}
def TyD (T : String) (ok : Wt → Store → Bool) : Prop := ∀ {c : Cn} {A : Ads} {S : Store} {H : Hp} {d : Wt} {v : V}, Rel c.K A S H → rV c A S H d v → ok d S = true → tyV c.K T v H
theorem ty_lst : TyD "list" isLst := by
  intro c A S H d v R r h
  unfold isLst at h
  split at h
  · rename_i l e
    obtain ⟨a, vs, rfl, h1, g1⟩ := (readAs R r e).lst
    exact .inl ⟨rfl, vs, SqL.of h1⟩
  · rename_i l e
    obtain ⟨a, vs, rfl, h1, g1⟩ := (readAs R r e).fls
    exact .inl ⟨rfl, vs, h1⟩
  · cases h
theorem ty_str : TyD "str" isStr := by
  intro c A S H d v R r h
  unfold isStr at h
  split at h
  · rename_i l e
    obtain rfl := (readAs R r e).str
    rfl
  · cases h
theorem d_m0 (ht : TyD T ok) (pa : PlainAttrs T) (slot : Slot T name id) (hty : typeOf (.builtin id) = pure (.type "method_descriptor")) (hm : MetD X hx id f) (ho : DE X hx o fo)
    (hbase : attributeBase o name X.env (eval o X.env) = eval o X.env := by rfl) (hline : (apos.endLine == cpos.line) = true := by rfl) : DE X hx (.Call (.Attribute o name apos) [] [] cpos) (eM ok f fo aNil) :=
  ⟨fun W tk => PEimp (pe_bm0 pa slot hty (hm W) (ho.run W tk) hbase hline) fun σ H Q ⟨A, S, σd, R, E, p⟩ => ⟨A, S, σd, R, E, (Post.bind (R1 := rV _) p).mono fun v H1 ⟨A1, S1, d, R1, T1, r1, p1⟩ => by
    obtain ⟨hk, p1⟩ := Post.iteP p1
    exact ⟨ht (c := ⟨X.K, hx, W⟩) R1 r1 hk, A1, S1, σ, d, [], R1, r1, .nil, p1⟩⟩⟩
theorem d_m (ht : TyD T ok) (pa : PlainAttrs T) (slot : Slot T name id) (hty : typeOf (.builtin id) = pure (.type "method_descriptor")) (hm : MetD X hx id f) (ho : DE X hx o fo) (ha : DA X hx (e :: es) g)
    (hbase : attributeBase o name X.env (eval o X.env) = eval o X.env := by rfl)
    (hfew : ((backTo cpos (starEach (e :: es) X.env)).all (fun x => !x.1) && (backToKw cpos (keywordEach [] X.env)).all (fun x => x.1.isSome)
      && decide ((e :: es).length + ([] : List Keyword).length + (if ([] : List Keyword).isEmpty then 0 else 1) < 30)) = true := by rfl)
    (hline : (apos.endLine == cpos.line) = true := by rfl) (hs : starEach (e :: es) X.env = (false, eval e X.env) :: starEach es X.env := by rfl) (hplain : (backTo cpos (starEach es X.env)).any (·.1) = false := by rfl) :
    DE X hx (.Call (.Attribute o name apos) (e :: es) [] cpos) (eM ok f fo g) :=
  ⟨fun W tk => PEimp (pe_bm pa slot hty (hm W) (ho.run W tk) (ha.run W tk) hbase hfew hline hs hplain) fun σ H Q ⟨A, S, σd, R, E, p⟩ => ⟨A, S, σd, R, E, (Post.bind (R1 := rV _) p).mono fun v H1 ⟨A1, S1, d, R1, T1, r1, p1⟩ => by
    obtain ⟨hk, p1⟩ := Post.iteP p1
    exact ⟨ht (c := ⟨X.K, hx, W⟩) R1 r1 hk, A1, S1, σd, R1, E.step R T1, (Post.bind (R1 := rVs _) p1).mono fun vs H2 ⟨A2, S2, ds, R2, T2, r2, p2⟩ => ⟨A2, S2, σ, d, ds, R2, r1.step R1 T2, r2, p2⟩⟩⟩⟩
end
def appC (n : Nat) (x : D) (S : Store) : Option Cell → Res Wt
  | some (.lst l) => if l.length < lim then .ok (.d .non) (S.set n (.lst (l ++ [x]))) else .bad
  | _ => .bad
def mApp (o : Wt) (ds : List Wt) (S : Store) : Res Wt := match ds with
  | [d] => (fz1 S d).bind fun x S1 => match o with
    | .loc n => appC n x S1 S1[n]?
    | _ => .bad
  | _ => .bad
def popC (n : Nat) (S : Store) : Option Cell → Res Wt
  | some (.lst l) => match l[l.length - 1]? with
    | some x => .ok (.d x) (S.set n (.lst l.dropLast))
    | none => .bad
  | _ => .bad
def mPop (o : Wt) (ds : List Wt) (S : Store) : Res Wt := match ds with
  | [] => match o with
    | .loc n => popC n S S[n]?
    | _ => .bad
  | _ => .bad
def popAtC (n : Nat) (i : Option D) (S : Store) : Option Cell → Res Wt
  | some (.lst l) => match i with
    | some (.int i) => match ixN l.length i with
      | some k => match l[k]? with
        | some x => .ok (.d x) (S.set n (.lst (l.eraseIdx k)))
        | none => .bad
      | none => .bad
    | _ => .bad
  | _ => .bad
def mPopAt (o : Wt) (ds : List Wt) (S : Store) : Res Wt := match ds with
  | [i] => match o with
    | .loc n => popAtC n (deref S i) S S[n]?
    | _ => .bad
  | _ => .bad
def extC (n : Nat) (m : List D) (S : Store) : Option Cell → Res Wt
  | some (.lst l) => if l.length + m.length ≤ lim then .ok (.d .non) (S.set n (.lst (l ++ m))) else .bad
  | _ => .bad
def mExt (o : Wt) (ds : List Wt) (S : Store) : Res Wt := match ds with
  | [d] => match deref S d with
    | some (.lst m) => match o with
      | .loc n => extC n m S S[n]?
      | _ => .bad
    | _ => .bad
  | _ => .bad
section
variable {X : Cx} {hx : Hx}
theorem RPs.eraseIdx {K : PySem.W.Frag} {lv : Addr → Prop} {H : Hp} : ∀ {ds : List D} {vs : List V} (i : Nat), RPs K lv H ds vs → RPs K lv H (ds.eraseIdx i) (vs.eraseIdx i)
  | _, _, _, .nil => .nil
  | _, _, 0, .cons _ t => t
  | _, _, i + 1, .cons r t => .cons r (RPs.eraseIdx i t)
theorem RPs.dropLast {K : PySem.W.Frag} {lv : Addr → Prop} {H : Hp} {ds : List D} {vs : List V} (h : RPs K lv H ds vs) : RPs K lv H ds.dropLast vs.dropLast := by
  rw [List.dropLast_eq_take, List.dropLast_eq_take, h.length]
  exact h.take _
theorem met_app : MetD X hx "list.append" mApp := by
  intro W pins s σ H x xs v us Q I r rs h
  obtain ⟨A, S, σ', d, ds, R, rd, rds, p⟩ := h
  match ds, rds, p with
  | [], _, p => exact p.elim
  | _ :: _ :: _, _, p => exact p.elim
  | [y], rds, p =>
    obtain ⟨w, rfl, ry⟩ := rvs1 rds
    obtain ⟨x', S1, R1, T1, rx, p1⟩ := Post.fz1 R ry p
    have rd' := rd.step R T1
    cases d with
    | d x => exact p1.elim
    | hex C ns l => exact p1.elim
    | loc n =>
      obtain ⟨a, ha, rfl⟩ := rd'
      obtain ⟨c, w', hc, hu', ok⟩ := R1.known ha
      have p1 : Post (⟨X.K, hx, W⟩ : Cn) (rV ⟨X.K, hx, W⟩) σ' A S1 H Q (appC n x' S1 S1[n]?) := p1
      rw [hc] at p1
      cases c with
      | lst l =>
        obtain ⟨vs, h1, h2⟩ := ok
        obtain ⟨hz, p1⟩ := Post.iteP p1
        obtain ⟨R2, T2⟩ := R1.putL ha hc (h2.append (.one rx))
        exact mt_append pins s σ H _ _ v us Q I r rs ⟨a, vs, w, rfl, rfl, h1, by rw [← h2.len]; exact lim_lt hz, p1 A _ _ R2 T2 (RV.of (x := .non) .non)⟩
      | _ => exact p1.elim
theorem met_pop : MetD X hx "list.pop" mPop := by
  intro W pins s σ H x xs v us Q I r rs h
  obtain ⟨A, S, σ', d, ds, R, rd, rds, p⟩ := h
  match ds, rds, p with
  | _ :: _, _, p => exact p.elim
  | [], .nil, p =>
    cases d with
    | d x => exact p.elim
    | hex C ns l => exact p.elim
    | loc n =>
      obtain ⟨a, ha, rfl⟩ := rd
      obtain ⟨c, w', hc, hu', ok⟩ := R.known ha
      have p1 : Post (⟨X.K, hx, W⟩ : Cn) (rV ⟨X.K, hx, W⟩) σ' A S H Q (popC n S S[n]?) := p
      rw [hc] at p1
      cases c with
      | lst l =>
        obtain ⟨vs, h1, h2⟩ := ok
        unfold popC at p1
        dsimp only at p1
        cases e : l[l.length - 1]? with
        | none => rw [e] at p1; exact p1.elim
        | some y =>
          rw [e] at p1
          obtain ⟨w, e', ry⟩ := h2.get e
          obtain ⟨R2, T2⟩ := R.putL ha hc h2.dropLast
          exact mt_pop pins s σ H _ _ v us Q I r rs ⟨a, vs, w, rfl, rfl, h1, by rw [← h2.len]; exact e', p1 A _ _ R2 T2 (RV.of (RP.fr R T2.fr ry))⟩
      | _ => exact p1.elim
theorem met_popAt : MetD X hx "list.pop" mPopAt := by
  intro W pins s σ H x xs v us Q I r rs h
  obtain ⟨A, S, σ', d, ds, R, rd, rds, p⟩ := h
  match ds, rds, p with
  | [], _, p => exact p.elim
  | _ :: _ :: _, _, p => exact p.elim
  | [y], rds, p =>
    obtain ⟨w, rfl, ry⟩ := rvs1 rds
    cases d with
    | d x => exact p.elim
    | hex C ns l => exact p.elim
    | loc n =>
      obtain ⟨a, ha, rfl⟩ := rd
      obtain ⟨c, w', hc, hu', ok⟩ := R.known ha
      have p1 : Post (⟨X.K, hx, W⟩ : Cn) (rV ⟨X.K, hx, W⟩) σ' A S H Q (popAtC n (deref S y) S S[n]?) := p
      rw [hc] at p1
      cases c with
      | lst l =>
        obtain ⟨vs, h1, h2⟩ := ok
        cases e2 : deref S y with
        | none => rw [e2] at p1; exact p1.elim
        | some y' =>
          rw [e2] at p1
          cases y' with
          | int i =>
            unfold popAtC at p1
            dsimp only at p1
            cases e3 : ixN l.length i with
            | none => rw [e3] at p1; exact p1.elim
            | some k =>
              rw [e3] at p1
              dsimp only at p1
              cases e : l[k]? with
              | none => rw [e] at p1; exact p1.elim
              | some z =>
                rw [e] at p1
                obtain ⟨w2, e', rz⟩ := h2.get e
                obtain ⟨R2, T2⟩ := R.putL ha hc (h2.eraseIdx k)
                obtain rfl := (readAs R ry e2).int
                rw [h2.len] at e3
                obtain ⟨q1, q2, q3, q4⟩ := ixN_seq e3
                have hn := line63
                have hzl := (I.lst h1)
                obtain ⟨its, n', rvs, ho, hz⟩ := hzl
                have := rvs.length
                exact mt_popAt pins s σ H _ _ v us Q I r rs ⟨a, vs, i, k, w2, rfl, rfl, h1, by omega, by omega, q1, e', p1 A _ _ R2 T2 (RV.of (RP.fr R T2.fr rz))⟩
          | _ => exact p1.elim
      | _ => exact p1.elim
end
end Y
end
section
/-! Y11: enumerate over tuples. -/
namespace Y
open PySem PySem.Spec PyProof.Rows L2
open Sem (wp)

theorem meets_enumerate_newB1 {v : Value} {o : Obj} {H : Heap → Prop} (B : Begins v o H) :
    Meets (Builtin.«enumerate.__new__» ⟨[.type "enumerate", v], []⟩) (fun _ R s => H s.heap ∧
      R (.ok (.ret (.ref (s.heap.push o).objs.size))) { s with heap := (s.heap.push o).push { cls := .type "enumerate", data := .fields #[.none, .bool false, .ref s.heap.objs.size, rawInt 0, .none, .none] } }) :=
  .of_wp fun prog w A R s h => by
    obtain ⟨hp, g, d, tk, os⟩ := s; obtain ⟨h1, h⟩ := h
    have hsub := sub_enumerate
    have q1 : ∀ {A' : Around} {E : Value → Shared → Prop} {Q : Value → Shared → Prop}, Q (.ref hp.objs.size) ⟨hp.push o, g, d, tk, os⟩ → wpAny (model prog w) A' (pyIter v) Q E ⟨hp, g, d, tk, os⟩ :=
      fun q => B.iter prog w _ _ ⟨hp, g, d, tk, os⟩ _ h1 q
    wp_walk using q1
    refine wpAny_stack_any fun st => wpAny_pure ?_
    split
    · rename_i c _ _ _ _ _
      cases (c == Value.type "enumerate")
      · wp_walk using q1
        exact ⟨_, rfl, h⟩
      · wp_walk using q1
        exact ⟨_, rfl, h⟩
    · wp_walk using q1
      exact ⟨_, rfl, h⟩
theorem enum_begins1 {prog : Program} {w : World} {A : Around} {E : Value → Shared → Prop} {s : Shared} {v : Value} {o : Obj} {H : Heap → Prop} {Q : Value → Shared → Prop} (B : Begins v o H) (h1 : H s.heap)
    (h : ∀ h', IsEnum h' (s.heap.objs.size + 1) s.heap.objs.size 0 .none → h'.get? s.heap.objs.size = some o → h'.objs.size = s.heap.objs.size + 2 →
      (∀ b o, s.heap.get? b = some o → h'.get? b = some o) → Q (.ref (s.heap.objs.size + 1)) { s with heap := h' }) :
    wpAny (model prog w) A (call (.type "enumerate") [v]) Q E s := by
  refine callType_new F.called_enumerate (by decide) (F.typeCall_enumerate_1 _) (F.newCall_enumerate_1 _) (fun obj => F.args_object_init_2 obj _) F.entry_enumerate_new
    (meets_enumerate_newB1 B) ⟨h1, ?_⟩
  have hz : (s.heap.push o).objs.size = s.heap.objs.size + 1 := Heap.size_push ..
  show _ ∧ _
  rw [hz]
  have he : IsEnum ((s.heap.push o).push { cls := .type "enumerate", data := .fields #[.none, .bool false, .ref s.heap.objs.size, rawInt 0, .none, .none] }) (s.heap.objs.size + 1) s.heap.objs.size 0 .none := by
    have := Heap.get?_push_size (s.heap.push o) (o := { cls := .type "enumerate", data := .fields #[.none, .bool false, .ref s.heap.objs.size, rawInt 0, .none, .none] }) rfl
    rw [hz] at this; exact this
  refine ⟨⟨_, he, rfl⟩, h _ he (Heap.get?_push_of_some _ (Heap.get?_push_size _ B.free)) (by rw [Heap.size_push, hz]) fun b o x => Heap.get?_push_of_some _ (Heap.get?_push_of_some _ x)⟩

def IteT (K : PySem.W.Frag) (a : Addr) : It :=
  ⟨fun i H => ∃ (xs : List V) (x : V), SqT K H a xs ∧ xs[i]? = some x, fun i H v H' => ∃ T x, v = .ref T ∧ H T = none ∧ H' = upd H T (.tup [.int (i : Nat), x]) ∧ ∀ xs, SqT K H a xs → xs[i]? = some x, fun i H => ∃ xs : List V, SqT K H a xs ∧ xs.length ≤ i⟩
theorem turn_enumT {P : Program} {w : World} {K : PySem.W.Frag} {elts : List Expr} {kk : Nat} {tpos : Pos} (a e it : Addr) (hai : a ≠ it) (hae : a ≠ e) :
    Turn P w K (.Tuple elts kk tpos) (IteT K a) [e, it] e (fun i h => (∃ old, IsEnum h e it ((i : Nat) : Int) old) ∧ h.IsTupleIter it a i ∧ e ≠ it) where
  mem := by simp
  obj := fun i h st b hb => by
    obtain ⟨⟨old, he⟩, ⟨o, ho, hc, hd⟩, _⟩ := st
    have e' : b = e ∨ b = it := by simpa using hb
    rcases e' with z | z
    · rw [z]; exact ⟨_, he, fun v q => nomatch q⟩
    · rw [z]; exact ⟨o, ho, fun v q => by rw [hd] at q; cases q⟩
  keep := fun i h h' st k => let ⟨⟨old, he⟩, hi, hne⟩ := st; ⟨⟨old, k e (by simp) _ he⟩, hi.at fun o q => k it (by simp) o q, hne⟩
  item := by
    intro X hP hw hK hc i pins s σ H E I hf st hg
    subst hP hw hK
    obtain ⟨⟨old, he⟩, hit, hne⟩ := st
    obtain ⟨xs, x, hq, hx⟩ := hg
    obtain ⟨its, rv, p, hz⟩ := I.tuple hq
    obtain ⟨u, hu, ru⟩ := rv.get hx
    have hel : e < s.heap.objs.size := Heap.lt_size he
    have hil : it < s.heap.objs.size := by obtain ⟨_, q, _⟩ := hit; exact Heap.lt_size q
    have D := Draws.tuple (prog := X.prog) (w := X.w) (A := X.A.in1) (I.ok.hd hc) it a hai its.toArray
    have hlt : i < its.toArray.size := by
      have := (List.getElem?_eq_some_iff.mp hu).1
      simpa using this
    refine wpAny_pyNext_enum_itemC D he ⟨hit, p⟩ hlt hne (by simp [hne, Ne.symm hae]) fun y h' tk hy ho hit' hT hsz hk => ?_
    obtain rfl : y = u := by
      rw [show its.toArray[i]? = some u by simpa using hu] at hy
      exact (Option.some.inj hy).symm
    refine ⟨_, rfl, wpAny_letOwnedTupleGo_enum (s := { s with heap := h', toks := tk + 1 }) ho fun h'' he' sb => ?_⟩
    have hT2 : h''.get? s.heap.objs.size = some { cls := .type "tuple", data := .seq #[.int i tk, y] } := (sb.2 _ (Nat.ne_of_gt hel)).trans hT
    have new : ObjOk X.prog X.w (upd H s.heap.objs.size (.tup [.int (i : Nat), x])) h'' s.heap.objs.size (.tup [.int (i : Nat), x]) :=
      ⟨by show 2 ≤ sizeLine; decide, [.int i tk, y], .cons ⟨_, rfl⟩ (.cons ru .nil), ⟨_, hT2, rfl, _, rfl⟩⟩
    have I1 : Inv X pins σ (upd H s.heap.objs.size (.tup [.int (i : Nat), x])) { s with heap := h'', toks := tk + 1 } :=
      I.turnedNew (ch := [e, it]) (fun b ob hb q => (sb.2 b (fun z => hb (by simp [z]))).trans (hk b ob (fun z => hb (by simp [z])) (fun z => hb (by simp [z])) q)) hf (Nat.le_refl _) new
    refine ⟨.ref s.heap.objs.size, _, I1, rfl, ⟨_, x, rfl, I.hok.fresh (Nat.le_refl _), rfl, fun ys hy => by rw [I.tuple_inj hy hq]; exact hx⟩, ⟨⟨y, ?_⟩, hit'.1.at fun o q => (sb.2 it (Ne.symm hne)).trans q, hne⟩, fun b hb => ?_⟩
    · have e1 : ((i + 1 : Nat) : Int) = (i : Int) + 1 := by omega
      rw [e1]; exact he'
    · have hb' : b < s.heap.objs.size := by
        have e' : b = e ∨ b = it := by simpa using hb
        rcases e' with z | z
        · rw [z]; exact hel
        · rw [z]; exact hil
      rw [upd_ne (Nat.ne_of_lt hb')]
      exact (hf b hb).1
  done := by
    intro X hP hw hK hc i pins s σ H E I hf st hg
    subst hP hw hK
    obtain ⟨⟨old, he⟩, hit, hne⟩ := st
    obtain ⟨xs, hq, hx⟩ := hg
    obtain ⟨its, rv, p, hz⟩ := I.tuple hq
    obtain ⟨f0, f1, f2, f3, f4, f5⟩ := hf it (by simp)
    have hl := rv.length
    have D : Draws X.prog X.w X.A.in1 it [it, a] i (fun _ _ => True) (fun j h => j = i ∧ h.IsTupleIter it a i ∧ h.IsTuple a its.toArray) :=
      { live := fun _ _ st => let ⟨o, ho, _⟩ := st.2.1; ⟨o, ho⟩
        frame := fun _ _ _ st hk => ⟨st.1, st.2.1.at fun o e => hk it (by simp) o e, st.2.2.at fun o e => hk a (by simp) o e⟩
        item := fun j s Q E hi st hQ => by have := st.1; omega
        done := fun s Q E st hE => wpAny_nextOf_tuple_end (I.ok.hd hc) st.2.1 st.2.2 (by simp; omega) hE }
    exact wpAny_pyNext_enum_endD D he ⟨rfl, hit, p⟩ fun h' eb => ⟨rfl, I.turned (t' := s.toks) (fun b o hb q => eb b o hb q) f0 f1 f3 f4 f5⟩
  self := fun A i s Q E st h => let ⟨⟨_, he⟩, _⟩ := st; wpAny_pyIter_enum he h
def iEnumA (K : PySem.W.Frag) (ta : TA) : TI := fun σ H R => ta σ H fun vs H1 => ∃ a xs, vs = [.ref a] ∧ ((SqL K H1 a xs ∧ R (Ite K a) H1) ∨ (SqT K H1 a xs ∧ R (IteT K a) H1))
theorem pi_enumA {X : Cx} {e : Expr} {ta : TA} {p pos tpos : Pos} {elts : List Expr} {kk : Nat} (hg : Gl X "enumerate") (hm : X.mg "enumerate" = none) (ha : PA X [e] ta) (hs : starEach [e] X.env = [(false, eval e X.env)] := by rfl) :
    PI X (.Tuple elts kk tpos) (.Call (.Name "enumerate" p) [e] [] pos) (iEnumA X.K ta) := by
  refine ⟨fun pins s σ H R I h => ?_⟩
  refine Call_ (ld_blt I hg hm boot_enumerate (PyProof.Rows.callWith_type1 (thn (ha.run pos pins s σ H _ I h) fun us s1 ⟨vs, H1, I1, r1, q1⟩ => ?_) hs rfl))
  obtain ⟨a, xs, ex, q1⟩ := q1
  subst ex
  cases r1 with
  | cons r rr =>
    cases rr
    cases r
    have fin : ∀ b ∈ [s1.heap.objs.size + 1, s1.heap.objs.size], FpOk X pins H1 b := fun b hb => by
      have e' : b = s1.heap.objs.size + 1 ∨ b = s1.heap.objs.size := by simpa using hb
      have hle : s1.heap.objs.size ≤ b := by
        rcases e' with z | z
        · rw [z]; exact Nat.le_add_right _ _
        · rw [z]; exact Nat.le_refl _
      exact I1.fpOk hle (I1.hok.fresh hle)
    rcases q1 with ⟨hq, q⟩ | ⟨hq, q⟩
    · obtain ⟨its, rv, p', hz⟩ := I1.list hq
      refine call_enumerate_list p'.isList fun h' he hit hsz hk => wpAny_pyIter_enum he ?_
      have I2 : Inv X pins σ H1 { s1 with heap := h' } := I1.kept (t' := s1.toks) hk
      exact ⟨s1.heap.objs.size + 1, [s1.heap.objs.size + 1, s1.heap.objs.size], _, _, H1, rfl, I2, turn_enum a (s1.heap.objs.size + 1) s1.heap.objs.size, ⟨⟨.none, he⟩, hit, Nat.succ_ne_self _⟩, fin, q⟩
    · obtain ⟨its, rv, p', hz⟩ := I1.tuple hq
      refine enum_begins1 (begins_tuple a its.toArray) p' fun h' he hit hsz hk => wpAny_pyIter_enum he ?_
      have I2 : Inv X pins σ H1 { s1 with heap := h' } := I1.kept (t' := s1.toks) hk
      have hal : a < s1.heap.objs.size := by obtain ⟨o, ho, _⟩ := p'; exact Heap.lt_size ho
      exact ⟨s1.heap.objs.size + 1, [s1.heap.objs.size + 1, s1.heap.objs.size], _, _, H1, rfl, I2, turn_enumT a (s1.heap.objs.size + 1) s1.heap.objs.size (Nat.ne_of_lt hal) (Nat.ne_of_lt (Nat.lt_succ_of_lt hal)), ⟨⟨.none, he⟩, ⟨_, hit, rfl, rfl⟩, Nat.succ_ne_self _⟩, fin, q⟩

/-! ### walks -/
/-- what a walk yields: these, however the heap has grown -/
def rIt (c : Cn) : RR (List D) It := fun A S H ds J => ∀ A' S' H', Rel c.K A' S' H' → Fr A S H A' S' H' →
  (∀ i, i < ds.length → J.go i H') ∧ J.stop ds.length H' ∧
    ∀ i x H'', i < ds.length → J.yld i H' x H'' → ∃ d, ds[i]? = some d ∧ Rel c.K A' S' H'' ∧ Stp A' S' H' A' S' H'' ∧ RP c.K (Live A' S') H'' d x
abbrev IM := Ev → Store → Res (List D)
def tI (c : Cn) (f : IM) : TI := fun σ H R => ∃ A S σd, Rel c.K A S H ∧ RE c.K c.hx A (Live A S) H σd σ ∧ Post c (rIt c) σ A S H R (f σd S)
structure DI (X : Cx) (hx : Hx) (tg iter : Expr) (f : IM) : Prop where
  run : ∀ W, Takes X W → PI X tg iter (tI ⟨X.K, hx, W⟩ f)
theorem PIimp {X : Cx} {tg e : Expr} {t t' : TI} (h : PI X tg e t) (i : ∀ σ H Q, t' σ H Q → t σ H Q) : PI X tg e t' := ⟨fun pins s σ H Q I q => h.run pins s σ H Q I (i σ H Q q)⟩
/-- the items of a list, a tuple (let alone from then on), the signs of a text -/
def itemsOf : D → Option (List D)
  | .lst l => some l
  | .fls l => some l
  | .tup l => some l
  | .str x => some (x.cps.toList.map fun c => .str ⟨#[c]⟩)
  | _ => none
def optI (S : Store) : Option (List D) → Res (List D)
  | some l => .ok l S
  | none => .bad
def iVal (f : EM) : IM := fun σd S => (f σd S).bind fun d S1 => (fz1 S1 d).bind fun x S2 => optI S2 (itemsOf x)
theorem optI_ok {c : Cn} {σ : L2.St} {A : Ads} {S : Store} {H : Hp} {R : It → Hp → Prop} {o : Option (List D)} (p : Post c (rIt c) σ A S H R (optI S o)) : ∃ d, o = some d ∧ Post c (rIt c) σ A S H R (.ok d S) := by
  cases o with
  | none => exact p.elim
  | some d => exact ⟨d, rfl, p⟩
section
variable {c : Cn} {A : Ads} {S : Store} {H : Hp} {ds : List D} {vs : List V} {a : Addr}
theorem it_at {α : Type} {l : List α} {i : Nat} (h : i < l.length) : ∃ x, l[i]? = some x := ⟨_, List.getElem?_eq_getElem h⟩
theorem it_list (R0 : Rel c.K A S H) (hl : ∀ A' S' H', Rel c.K A' S' H' → Fr A S H A' S' H' → SqL c.K H' a vs) (r : RPs c.K (Live A S) H ds vs) : rIt c A S H ds (Itl c.K a) := by
  intro A' S' H' R' T
  have q := hl A' S' H' R' T
  have r' := r.fr R0 T
  refine ⟨fun i hi => ?_, ⟨vs, q, by rw [r.len]; exact Nat.le_refl _⟩, fun i x H'' hi y => ?_⟩
  · obtain ⟨x, hx⟩ := it_at (l := vs) (by rw [← r.len]; exact hi)
    exact ⟨vs, x, q, hx⟩
  · obtain ⟨rfl, y⟩ := y
    obtain ⟨d, hd⟩ := it_at hi
    obtain ⟨v, hv, rd⟩ := r'.get hd
    have e := y vs q
    rw [hv] at e
    cases e
    exact ⟨d, hd, R', .refl, rd⟩
theorem it_tup (R0 : Rel c.K A S H) (h : SqT c.K H a vs) (r : RPs c.K (Live A S) H ds vs) : rIt c A S H ds (Itt c.K a) := by
  intro A' S' H' R' T
  have q := T.sqT R0 h
  have r' := r.fr R0 T
  refine ⟨fun i hi => ?_, ⟨vs, q, by rw [r.len]; exact Nat.le_refl _⟩, fun i x H'' hi y => ?_⟩
  · obtain ⟨x, hx⟩ := it_at (l := vs) (by rw [← r.len]; exact hi)
    exact ⟨vs, x, q, hx⟩
  · obtain ⟨rfl, y⟩ := y
    obtain ⟨d, hd⟩ := it_at hi
    obtain ⟨v, hv, rd⟩ := r'.get hd
    have e := y vs q
    rw [hv] at e
    cases e
    exact ⟨d, hd, R', .refl, rd⟩
def numbered (i : Nat) : List D → List D
  | [] => []
  | d :: ds => .tup [.int (i : Nat), d] :: numbered (i + 1) ds
theorem numbered_len : ∀ (i : Nat) (ds : List D), (numbered i ds).length = ds.length
  | _, [] => rfl
  | i, d :: ds => by simp [numbered, numbered_len (i + 1) ds]
theorem numbered_get : ∀ (k i : Nat) (ds : List D) (d : D), ds[i]? = some d → (numbered k ds)[i]? = some (.tup [.int ((k + i : Nat) : Int), d])
  | _, _, [], _, h => by simp at h
  | k, 0, x :: ds, d, h => by simp at h; subst h; simp [numbered]
  | k, i + 1, x :: ds, d, h => by
    have := numbered_get (k + 1) i ds d (by simpa using h)
    simp only [numbered, List.getElem?_cons_succ, this]
    have e : k + 1 + i = k + (i + 1) := by omega
    rw [e]
theorem pair_new {T : Addr} {i : Int} {x : V} {d : D} {lv : Addr → Prop} (R : Rel c.K A S H) (h : H T = none) (r : RP c.K (Live A S) H d x) :
    Rel c.K A S (upd H T (.tup [.int i, x])) ∧ Stp A S H A S (upd H T (.tup [.int i, x])) ∧ RP c.K (Live A S) (upd H T (.tup [.int i, x])) (.tup [.int i, d]) (.ref T) :=
  ⟨R.new h, Stp.new h, .tup (SqT.of upd_same) (.cons (.int i) (.cons (r.fr R (Fr.upd_new h)) .nil))⟩
theorem it_enumL (R0 : Rel c.K A S H) (hl : ∀ A' S' H', Rel c.K A' S' H' → Fr A S H A' S' H' → SqL c.K H' a vs) (r : RPs c.K (Live A S) H ds vs) : rIt c A S H (numbered 0 ds) (Ite c.K a) := by
  intro A' S' H' R' T
  have q := hl A' S' H' R' T
  have r' := r.fr R0 T
  rw [numbered_len]
  refine ⟨fun i hi => ?_, ⟨vs, q, by rw [r.len]; exact Nat.le_refl _⟩, fun i x H'' hi y => ?_⟩
  · obtain ⟨x, hx⟩ := it_at (l := vs) (by rw [← r.len]; exact hi)
    exact ⟨vs, x, q, hx⟩
  · obtain ⟨T, x, rfl, hT, rfl, y⟩ := y
    obtain ⟨d, hd⟩ := it_at hi
    obtain ⟨v, hv, rd⟩ := r'.get hd
    have e := y vs q
    rw [hv] at e
    cases e
    have := numbered_get 0 i ds d hd
    rw [Nat.zero_add] at this
    exact ⟨_, this, pair_new (lv := Live A' S') R' hT rd⟩
theorem it_enumT (R0 : Rel c.K A S H) (h : SqT c.K H a vs) (r : RPs c.K (Live A S) H ds vs) : rIt c A S H (numbered 0 ds) (IteT c.K a) := by
  intro A' S' H' R' T
  have q := T.sqT R0 h
  have r' := r.fr R0 T
  rw [numbered_len]
  refine ⟨fun i hi => ?_, ⟨vs, q, by rw [r.len]; exact Nat.le_refl _⟩, fun i x H'' hi y => ?_⟩
  · obtain ⟨x, hx⟩ := it_at (l := vs) (by rw [← r.len]; exact hi)
    exact ⟨vs, x, q, hx⟩
  · obtain ⟨T, x, rfl, hT, rfl, y⟩ := y
    obtain ⟨d, hd⟩ := it_at hi
    obtain ⟨v, hv, rd⟩ := r'.get hd
    have e := y vs q
    rw [hv] at e
    cases e
    have := numbered_get 0 i ds d hd
    rw [Nat.zero_add] at this
    exact ⟨_, this, pair_new (lv := Live A' S') R' hT rd⟩
theorem it_str {x : Str} : rIt c A S H (x.cps.toList.map fun c => D.str ⟨#[c]⟩) (Its x) := by
  intro A' S' H' R' T
  have hl : (x.cps.toList.map fun c => D.str ⟨#[c]⟩).length = x.cps.size := by simp
  rw [hl]
  refine ⟨fun i hi => hi, Nat.le_refl _, fun i v H'' hi y => ?_⟩
  obtain ⟨rfl, c', hc, rfl⟩ := y
  refine ⟨.str ⟨#[c']⟩, ?_, R', .refl, .str _⟩
  rw [List.getElem?_map, Array.getElem?_toList, hc]
  rfl
def rng (lo : Int) (n : Nat) : List D := (List.range n).map fun i : Nat => D.int (lo + i)
theorem it_rng {lo : Int} {n : Nat} : rIt c A S H (rng lo n) (Itr lo n) := by
  intro A' S' H' R' T
  have hl : (rng lo n).length = n := by simp [rng]
  rw [hl]
  refine ⟨fun i hi => hi, Nat.le_refl _, fun i v H'' hi y => ?_⟩
  obtain ⟨rfl, rfl⟩ := y
  refine ⟨.int (lo + i), ?_, R', .refl, .int _⟩
  simp [rng, hi]
def rngC (lo s : Int) (n : Nat) : List D := (List.range n).map fun i : Nat => D.int (lo + i * s)
theorem it_rngC {lo s : Int} {n : Nat} : rIt c A S H (rngC lo s n) (Itc lo s n) := by
  intro A' S' H' R' T
  have hl : (rngC lo s n).length = n := by simp [rngC]
  rw [hl]
  refine ⟨fun i hi => hi, Nat.le_refl _, fun i v H'' hi y => ?_⟩
  obtain ⟨rfl, rfl⟩ := y
  refine ⟨.int (lo + i * s), ?_, R', .refl, .int _⟩
  simp [rngC, hi]
/-- a list, let alone, is there for good -/
theorem lst_stays {l : List D} {lv : Addr → Prop} (R0 : Rel c.K A S H) (r : RP c.K (Live A S) H (.lst l) (.ref a)) (h : H a = some (.lst vs)) : ∀ A' S' H', Rel c.K A' S' H' → Fr A S H A' S' H' → SqL c.K H' a vs := by
  intro A' S' H' R' T
  cases r with
  | lst h0 h1 h2 => exact SqL.of (T.tr _ _ h0 h).2
theorem fl_stays (h : FL c.K (Live A S) H a vs) : ∀ A' S' H', Rel c.K A' S' H' → Fr A S H A' S' H' → SqL c.K H' a vs := fun A' S' H' R' T => (h.mono T.tr).sq
end
section
variable {X : Cx} {hx : Hx} {tg e : Expr} {fe : EM} {p pos : Pos}
/-- what walks over a value -/
theorem pi_any {tl : TE} (hl : PE X e tl) : PI X tg e (fun σ H R => tl σ H fun x H1 => (∃ a xs, x = .ref a ∧ SqL X.K H1 a xs ∧ R (Itl X.K a) H1) ∨ (∃ a xs, x = .ref a ∧ SqT X.K H1 a xs ∧ R (Itt X.K a) H1) ∨ ∃ y, x = .str y ∧ R (Its y) H1) := by
  refine ⟨fun pins s σ H R I h => ?_⟩
  refine thn (hl.run pins s σ H _ I h) fun v s1 ⟨x, H1, I1, r1, q1⟩ => ?_
  rcases q1 with ⟨a, xs, e, hq, q⟩ | ⟨a, xs, e, hq, q⟩ | ⟨y, e, q⟩
  · subst e
    cases r1
    obtain ⟨its, rv, p, hz⟩ := I1.list hq
    refine wpAny_pyIter_list p.isList ?_
    refine ⟨s1.heap.objs.size, [s1.heap.objs.size], _, _, H1, rfl, I1.kept (t' := s1.toks) fun b o e => Heap.get?_push_of_some _ e, turn_list a _, ⟨_, Heap.get?_push_size _ rfl, rfl, rfl⟩, fun b hb => ?_, q⟩
    have e : b = s1.heap.objs.size := by simpa using hb
    subst e
    exact I1.fpOk (Nat.le_refl _) (I1.hok.fresh (Nat.le_refl _))
  · subst e
    cases r1
    obtain ⟨its, rv, p, hz⟩ := I1.tuple hq
    refine wpAny_pyIter_tuple (show s1.heap.IsTuple a its.toArray from p) ?_
    refine ⟨s1.heap.objs.size, [s1.heap.objs.size], _, _, H1, rfl, I1.kept (t' := s1.toks) fun b o e => Heap.get?_push_of_some _ e, turn_tuple a _, ⟨_, Heap.get?_push_size _ rfl, rfl, rfl⟩, fun b hb => ?_, q⟩
    have e : b = s1.heap.objs.size := by simpa using hb
    subst e
    exact I1.fpOk (Nat.le_refl _) (I1.hok.fresh (Nat.le_refl _))
  · subst e
    obtain ⟨t, rfl⟩ := r1
    cases ha : y.cps.all (· < 128)
    · exact wpAny_pyIter_wide ha (pi_one (tk := s1.toks) I1 _ (turn_str _ y t "str_iterator" (.inr rfl)) ⟨_, Heap.get?_push_size _ rfl, rfl, rfl⟩ q)
    · exact wpAny_pyIter_ascii ha (pi_one (tk := s1.toks) I1 _ (turn_str _ y t "str_ascii_iterator" (.inl rfl)) ⟨_, Heap.get?_push_size _ rfl, rfl, rfl⟩ q)
theorem di_val (h : DE X hx e fe) : DI X hx tg e (iVal fe) := ⟨fun W tk => PIimp (pi_any (h.run W tk)) fun σ H Q ⟨A, S, σd, R, E, p⟩ => ⟨A, S, σd, R, E, (Post.bind (R1 := rV _) p).mono fun v H1 ⟨A1, S1, d, R1, T1, r1, p1⟩ => by
    obtain ⟨x, S2, R2, T2, r2, p2⟩ := Post.fz1 R1 r1 p1
    obtain ⟨l, e, p3⟩ := optI_ok p2
    cases x with
    | lst l' =>
      cases e
      cases r2 with
      | lst h0 h1 h2 => exact .inl ⟨_, _, rfl, SqL.of h1, p3 A1 H1 _ R2 .refl (it_list (c := ⟨X.K, hx, W⟩) R2 (lst_stays (lv := Live A1 S2) R2 (.lst h0 h1 h2) h1) h2)⟩
    | fls l' =>
      cases e
      cases r2 with
      | fls h1 h2 => exact .inl ⟨_, _, rfl, h1.sq, p3 A1 H1 _ R2 .refl (it_list (c := ⟨X.K, hx, W⟩) R2 (fl_stays (c := ⟨X.K, hx, W⟩) h1) h2)⟩
    | tup l' =>
      cases e
      cases r2 with
      | tup h1 h2 => exact .inr (.inl ⟨_, _, rfl, h1, p3 A1 H1 _ R2 .refl (it_tup (c := ⟨X.K, hx, W⟩) R2 h1 h2)⟩)
    | str y =>
      cases e
      cases r2
      exact .inr (.inr ⟨y, rfl, p3 A1 H1 _ R2 .refl it_str⟩)
    | _ => cases e⟩⟩
/-- range -/
def iRng1 (g : AM) : IM := fun σd S => (g σd S).bind fun ds S1 => match ds with
  | [.d (.int j)] => if -(2 ^ 62) ≤ j ∧ j < 2 ^ 62 then .ok (rng 0 j.toNat) S1 else .bad
  | _ => .bad
def iRng2 (g : AM) : IM := fun σd S => (g σd S).bind fun ds S1 => match ds with
  | [.d (.int i), .d (.int j)] => if -(2 ^ 62) ≤ i ∧ i < 2 ^ 62 ∧ -(2 ^ 62) ≤ j ∧ j < 2 ^ 62 then .ok (rng i (j - i).toNat) S1 else .bad
  | _ => .bad
def iRng3 (g : AM) : IM := fun σd S => (g σd S).bind fun ds S1 => match ds with
  | [.d (.int i), .d (.int j), .d (.int s)] => if s ≠ 0 ∧ s.natAbs < 1073741824 ∧ Builtin.Range.small i j s = true ∧ 0 ≤ Builtin.Range.rangeSize i j s then .ok (rngC i s (Builtin.Range.rangeSize i j s).toNat) S1 else .bad
  | _ => .bad
theorem rv_int {c : Cn} {A : Ads} {S : Store} {H : Hp} {i : Int} {v : V} (h : rV c A S H (.d (.int i)) v) : v = .int i := by
  have h : RP c.K (Live A S) H (.int i) v := h
  cases h; rfl
theorem di_rng1 {a : Expr} {g : AM} (hm : X.mg "range" = none) (ha : DA X hx [a] g) (hg : Gl X "range" := by rfl) (hs : starEach [a] X.env = [(false, eval a X.env)] := by rfl) : DI X hx tg (.Call (.Name "range" p) [a] [] pos) (iRng1 g) :=
  ⟨fun W tk => PIimp (pi_range1 hg hm (ha.run W tk) hs) fun σ H Q ⟨A, S, σd, R, E, p⟩ => ⟨A, S, σd, R, E, (Post.bind (R1 := rVs _) p).mono fun vs H1 ⟨A1, S1, ds, R1, T1, r1, p1⟩ => by
    split at p1
    · rename_i j
      obtain ⟨⟨z1, z2⟩, p1⟩ := Post.iteP p1
      obtain ⟨v, rfl, r2⟩ := rvs1 r1
      obtain rfl := rv_int r2
      exact ⟨j, rfl, z1, z2, p1 A1 H1 _ R1 .refl it_rng⟩
    · exact p1.elim⟩⟩
theorem di_rng2 {a b : Expr} {g : AM} (hm : X.mg "range" = none) (ha : DA X hx [a, b] g) (hg : Gl X "range" := by rfl) (hs : starEach [a, b] X.env = [(false, eval a X.env), (false, eval b X.env)] := by rfl) (hs2 : starEach [b] X.env = [(false, eval b X.env)] := by rfl) :
    DI X hx tg (.Call (.Name "range" p) [a, b] [] pos) (iRng2 g) :=
  ⟨fun W tk => PIimp (pi_range2 hg hm (ha.run W tk) hs hs2) fun σ H Q ⟨A, S, σd, R, E, p⟩ => ⟨A, S, σd, R, E, (Post.bind (R1 := rVs _) p).mono fun vs H1 ⟨A1, S1, ds, R1, T1, r1, p1⟩ => by
    split at p1
    · rename_i i j
      obtain ⟨hz, p1⟩ := Post.iteP p1
      obtain ⟨v, u, rfl, r2, r3⟩ := rvs2 r1
      obtain rfl := rv_int r2
      obtain rfl := rv_int r3
      exact ⟨i, j, rfl, hz, p1 A1 H1 _ R1 .refl it_rng⟩
    · exact p1.elim⟩⟩
theorem rvs3 {c : Cn} {A : Ads} {S : Store} {H : Hp} {d e f : Wt} {vs : List V} (h : rVs c A S H [d, e, f] vs) : ∃ v u w, vs = [v, u, w] ∧ rV c A S H d v ∧ rV c A S H e u ∧ rV c A S H f w := by
  cases h with
  | cons r t =>
    obtain ⟨u, w, rfl, r', r''⟩ := rvs2 t
    exact ⟨_, _, _, rfl, r, r', r''⟩
theorem di_rng3 {a b c : Expr} {g : AM} (hm : X.mg "range" = none) (ha : DA X hx [a, b, c] g) (hg : Gl X "range" := by rfl)
    (hs : starEach [a, b, c] X.env = (false, eval a X.env) :: starEach [b, c] X.env := by rfl) (hpl : (backTo pos (starEach [b, c] X.env)).any (·.1) = false := by rfl) :
    DI X hx tg (.Call (.Name "range" p) [a, b, c] [] pos) (iRng3 g) :=
  ⟨fun W tk => PIimp (pi_range3 hg hm (ha.run W tk) hs hpl) fun σ H Q ⟨A, S, σd, R, E, p⟩ => ⟨A, S, σd, R, E, (Post.bind (R1 := rVs _) p).mono fun vs H1 ⟨A1, S1, ds, R1, T1, r1, p1⟩ => by
    split at p1
    · rename_i i j s
      obtain ⟨⟨z1, z2, z3, z4⟩, p1⟩ := Post.iteP p1
      obtain ⟨v, u, w, rfl, r2, r3, r4⟩ := rvs3 r1
      obtain rfl := rv_int r2
      obtain rfl := rv_int r3
      obtain rfl := rv_int r4
      exact ⟨i, j, s, _, rfl, ⟨z1, z2, z3, by omega⟩, p1 A1 H1 _ R1 .refl it_rngC⟩
    · exact p1.elim⟩⟩
/-- enumerate -/
def optE (S : Store) : D → Res (List D)
  | .lst l => .ok (numbered 0 l) S
  | .fls l => .ok (numbered 0 l) S
  | .tup l => .ok (numbered 0 l) S
  | _ => .bad
def iEnu (g : AM) : IM := fun σd S => (g σd S).bind fun ds S1 => match ds with
  | [d] => (fz1 S1 d).bind fun x S2 => optE S2 x
  | _ => .bad
theorem di_enu {a : Expr} {g : AM} {elts : List Expr} {kk : Nat} {tpos : Pos} (hm : X.mg "enumerate" = none) (ha : DA X hx [a] g) (hg : Gl X "enumerate" := by rfl) (hs : starEach [a] X.env = [(false, eval a X.env)] := by rfl) :
    DI X hx (.Tuple elts kk tpos) (.Call (.Name "enumerate" p) [a] [] pos) (iEnu g) :=
  ⟨fun W tk => PIimp (pi_enumA hg hm (ha.run W tk) hs) fun σ H Q ⟨A, S, σd, R, E, p⟩ => ⟨A, S, σd, R, E, (Post.bind (R1 := rVs _) p).mono fun vs H1 ⟨A1, S1, ds, R1, T1, r1, p1⟩ => by
    split at p1
    · obtain ⟨v, rfl, r2⟩ := rvs1 r1
      obtain ⟨x, S2, R2, T2, r2, p2⟩ := Post.fz1 R1 r2 p1
      cases x with
      | lst l' =>
        cases r2 with
        | lst h0 h1 h2 => exact ⟨_, _, rfl, .inl ⟨SqL.of h1, p2 A1 H1 _ R2 .refl (it_enumL (c := ⟨X.K, hx, W⟩) R2 (lst_stays (lv := Live A1 S2) R2 (.lst h0 h1 h2) h1) h2)⟩⟩
      | fls l' =>
        cases r2 with
        | fls h1 h2 => exact ⟨_, _, rfl, .inl ⟨h1.sq, p2 A1 H1 _ R2 .refl (it_enumL (c := ⟨X.K, hx, W⟩) R2 (fl_stays (c := ⟨X.K, hx, W⟩) h1) h2)⟩⟩
      | tup l' =>
        cases r2 with
        | tup h1 h2 => exact ⟨_, _, rfl, .inr ⟨h1, p2 A1 H1 _ R2 .refl (it_enumT (c := ⟨X.K, hx, W⟩) R2 h1 h2)⟩⟩
      | _ => exact p2.elim
    · exact p1.elim⟩⟩
end

/-! ### zip -/
def zipD : List D → List D → List D
  | d :: ds, e :: es => .tup [d, e] :: zipD ds es
  | _, _ => []
theorem zipD_len : ∀ (l m : List D), (zipD l m).length = min l.length m.length
  | [], m => by simp [zipD]
  | _ :: _, [] => by simp [zipD]
  | d :: l, e :: m => by simp [zipD, zipD_len l m, Nat.succ_min_succ]
theorem zipD_get : ∀ (l m : List D) (i : Nat) (d e : D), l[i]? = some d → m[i]? = some e → (zipD l m)[i]? = some (.tup [d, e])
  | [], _, _, _, _, h, _ => by simp at h
  | _ :: _, [], _, _, _, _, h => by simp at h
  | a :: l, b :: m, 0, d, e, h1, h2 => by simp at h1 h2; simp [zipD, h1, h2]
  | a :: l, b :: m, i + 1, d, e, h1, h2 => by simpa [zipD] using zipD_get l m i d e (by simpa using h1) (by simpa using h2)
section
variable {c : Cn} {A : Ads} {S : Store} {H : Hp} {ds es : List D} {vs us : List V} {a b : Addr}
theorem pair_new2 {T : Addr} {y x : V} {d e : D} (R : Rel c.K A S H) (h : H T = none) (re : RP c.K (Live A S) H e y) (r : RP c.K (Live A S) H d x) :
    Rel c.K A S (upd H T (.tup [y, x])) ∧ Stp A S H A S (upd H T (.tup [y, x])) ∧ RP c.K (Live A S) (upd H T (.tup [y, x])) (.tup [e, d]) (.ref T) :=
  ⟨R.new h, Stp.new h, .tup (SqT.of upd_same) (.cons (re.fr R (Fr.upd_new h)) (.cons (r.fr R (Fr.upd_new h)) .nil))⟩
theorem it_zipL (R0 : Rel c.K A S H) (hl : ∀ A' S' H', Rel c.K A' S' H' → Fr A S H A' S' H' → SqL c.K H' a vs) (hm : ∀ A' S' H', Rel c.K A' S' H' → Fr A S H A' S' H' → SqL c.K H' b us)
    (r : RPs c.K (Live A S) H ds vs) (re : RPs c.K (Live A S) H es us) : rIt c A S H (zipD ds es) (Itz c.K a b) := by
  intro A' S' H' R' T
  have q := hl A' S' H' R' T
  have q2 := hm A' S' H' R' T
  have r' := r.fr R0 T
  have re' := re.fr R0 T
  have l1 := r.len
  have l2 := re.len
  rw [zipD_len]
  refine ⟨fun i hi => ?_, ⟨vs, us, q, q2, by omega⟩, fun i x H'' hi y => ?_⟩
  · obtain ⟨x, hx⟩ := it_at (l := vs) (i := i) (by omega)
    obtain ⟨y, hy⟩ := it_at (l := us) (i := i) (by omega)
    exact ⟨vs, us, x, y, q, q2, hx, hy⟩
  · obtain ⟨T, x, y, rfl, hT, rfl, e1, e2⟩ := y
    obtain ⟨d, hd⟩ := it_at (l := ds) (i := i) (by omega)
    obtain ⟨e, he⟩ := it_at (l := es) (i := i) (by omega)
    obtain ⟨v, hv, rd⟩ := r'.get hd
    obtain ⟨u, hu, ru⟩ := re'.get he
    have e1 := e1 vs q
    have e2 := e2 us q2
    rw [hv] at e1
    rw [hu] at e2
    cases e1
    cases e2
    exact ⟨_, zipD_get _ _ _ _ _ hd he, pair_new2 R' hT rd ru⟩
theorem it_zipT (R0 : Rel c.K A S H) (hl : SqT c.K H a vs) (hm : SqT c.K H b us)
    (r : RPs c.K (Live A S) H ds vs) (re : RPs c.K (Live A S) H es us) : rIt c A S H (zipD ds es) (RZ.ItzT c.K a b) := by
  intro A' S' H' R' T
  have q := T.sqT R0 hl
  have q2 := T.sqT R0 hm
  have r' := r.fr R0 T
  have re' := re.fr R0 T
  have l1 := r.len
  have l2 := re.len
  rw [zipD_len]
  refine ⟨fun i hi => ?_, ⟨vs, us, q, q2, by omega⟩, fun i x H'' hi y => ?_⟩
  · obtain ⟨x, hx⟩ := it_at (l := vs) (i := i) (by omega)
    obtain ⟨y, hy⟩ := it_at (l := us) (i := i) (by omega)
    exact ⟨vs, us, x, y, q, q2, hx, hy⟩
  · obtain ⟨T, x, y, rfl, hT, rfl, e1, e2⟩ := y
    obtain ⟨d, hd⟩ := it_at (l := ds) (i := i) (by omega)
    obtain ⟨e, he⟩ := it_at (l := es) (i := i) (by omega)
    obtain ⟨v, hv, rd⟩ := r'.get hd
    obtain ⟨u, hu, ru⟩ := re'.get he
    have e1 := e1 vs q
    have e2 := e2 us q2
    rw [hv] at e1
    rw [hu] at e2
    cases e1
    cases e2
    exact ⟨_, zipD_get _ _ _ _ _ hd he, pair_new2 R' hT rd ru⟩
end
def optZ (S : Store) : D → D → Res (List D)
  | .lst l, .lst m => .ok (zipD l m) S
  | .tup l, .tup m => .ok (zipD l m) S
  | _, _ => .bad
def iZip (g : AM) : IM := fun σd S => (g σd S).bind fun ds S1 => match ds with
  | [d, e] => (fz1 S1 d).bind fun x S2 => (fz1 S2 e).bind fun y S3 => optZ S3 x y
  | _ => .bad
section
variable {X : Cx} {hx : Hx} {p pos : Pos}
theorem di_zip {a b : Expr} {g : AM} {elts : List Expr} {kk : Nat} {tpos : Pos} (hm : X.mg "zip" = none) (ha : DA X hx [a, b] g) (hg : Gl X "zip" := by rfl)
    (hs : starEach [a, b] X.env = (false, eval a X.env) :: starEach [b] X.env := by rfl) (hpl : (backTo pos (starEach [b] X.env)).any (·.1) = false := by rfl) :
    DI X hx (.Tuple elts kk tpos) (.Call (.Name "zip" p) [a, b] [] pos) (iZip g) :=
  ⟨fun W tk => PIimp (RZ.pi_zipA hg hm (ha.run W tk) hs hpl) fun σ H Q ⟨A, S, σd, R, E, p⟩ => ⟨A, S, σd, R, E, (Post.bind (R1 := rVs _) p).mono fun vs H1 ⟨A1, S1, ds, R1, T1, r1, p1⟩ => by
    split at p1
    · obtain ⟨v, u, rfl, r2, r3⟩ := rvs2 r1
      obtain ⟨x, S2, R2, T2, r2, p2⟩ := Post.fz1 R1 r2 p1
      obtain ⟨y, S3, R3, T3, r3, p3⟩ := Post.fz1 R2 (r3.step R1 T2) p2
      have r2 := r2.fr R2 T3.fr
      unfold optZ at p3
      split at p3
      · cases r2 with
        | lst h0 h1 h2 =>
          cases r3 with
          | lst g0 g1 g2 => exact ⟨_, _, _, _, rfl, .inl ⟨SqL.of h1, SqL.of g1, p3 A1 H1 _ R3 .refl (it_zipL (c := ⟨X.K, hx, W⟩) R3 (lst_stays (lv := Live A1 S3) R3 (.lst h0 h1 h2) h1) (lst_stays (lv := Live A1 S3) R3 (.lst g0 g1 g2) g1) h2 g2)⟩⟩
      · cases r2 with
        | tup h1 h2 =>
          cases r3 with
          | tup g1 g2 => exact ⟨_, _, _, _, rfl, .inr ⟨h1, g1, p3 A1 H1 _ R3 .refl (it_zipT (c := ⟨X.K, hx, W⟩) R3 h1 g1 h2 g2)⟩⟩
      · exact p3.elim
    · exact p1.elim⟩⟩
end

/-! ### for -/
def forN (g : GM) (f : SM) : List D → SM
  | [] => fun _ σd S => .nx σd S
  | d :: ds => fun b σd S => (g (.d d) σd S).toS σd fun σ1 S1 => match f b σ1 S1 with
    | .nx σ2 S2 => forN g f ds b σ2 S2
    | .ct σ2 S2 => forN g f ds b σ2 S2
    | .bk σ2 S2 => .nx σ2 S2
    | r => r
def sFor (w : IM) (g : GM) (f : SM) : SM := fun b σd S => (w σd S).toS σd fun ds S1 => forN g f ds b σd S1
section
variable {X : Cx} {hx : Hx} {tg iter : Expr} {body : List Stmt} {pos : Pos} {w : IM} {g : GM} {f : SM} {is : List Nat}
theorem drop_cons {α : Type} {l : List α} {i : Nat} {d : α} (h : l[i]? = some d) : l.drop i = d :: l.drop (i + 1) := by
  obtain ⟨hl, rfl⟩ := List.getElem?_eq_some_iff.mp h
  exact List.drop_eq_getElem_cons hl
theorem ds_for (hp : PassesOwn (model X.prog X.w) X.A X.env X.xe) (hc : X.calm = true) (hi : DI X hx tg iter w) (hg : DG X hx tg is g) (hb : DB X hx body f)
    (hs : ∀ x, foldedSetIterable iter X.env x = pure x := by intro _; rfl) : DS X hx (.For tg iter body [] pos) (sFor w g f) := ⟨fun W tk => PSimp (ps_for hp hc (hi.run W tk) (hg.run W tk) (hb.run W tk) hs) fun σ H D ⟨b0, A0, S0, H0, A, S, σd, R0, T, R, E, p⟩ => by
  refine ⟨A, S, σd, R, E, (Post.ofS (R1 := rIt _) R T E p).mono fun J H1 ⟨A1, S1, ds, R1, T1, E1, j1, p1⟩ => ?_⟩
  let Pn : List Y.D → L2.St → Hp → Prop := fun l σ H => ∃ A S σd, Stp A1 S1 H1 A S H ∧ Rel X.K A S H ∧ RE X.K hx A (Live A S) H σd σ ∧ SPost ⟨X.K, hx, W⟩ A1 S1 H1 D (forN g f l b0 σd S)
  refine ⟨fun i m σ H => i + m = ds.length ∧ Pn (ds.drop i) σ H, ⟨ds.length, Nat.zero_add _, A1, S1, σd, .refl, R1, E1, SPost.shift T1 p1⟩, ?_⟩
  rintro i m σ H ⟨hm, A, S, σd, T, R, E, p⟩
  obtain ⟨go, stop, yld⟩ := j1 A S H R T.fr
  by_cases hlt : i < ds.length
  · refine .inr ⟨go i hlt, fun σ' H' => Pn (ds.drop (i + 1)) σ' H', fun σ' H' h => ⟨m - 1, by omega, by omega, h⟩, fun x H' y => ?_⟩
    obtain ⟨d, hd, R2, T2, r2⟩ := yld i x H' hlt y
    rw [drop_cons hd] at p
    refine ⟨A, S, σd, .d d, R2, E.step R T2, RV.of r2, (Post.ofS (R1 := rEv _ is σ) R2 (T.trans T2) (E.step R T2) p).mono fun σ3 H3 ⟨A3, S3, σd3, R3, T3, _, ⟨E3, _⟩, p3⟩ => ?_⟩
    refine ⟨b0, A1, S1, H1, A3, S3, σd3, R1, T3, R3, E3, ?_⟩
    cases q : f b0 σd3 S3 with
    | nx σd' S' => rw [q] at p3; exact fun A' H' σ' R' T' E' => ⟨A', S', σd', T', R', E', p3⟩
    | ct σd' S' => rw [q] at p3; exact fun A' H' σ' R' T' E' => ⟨A', S', σd', T', R', E', p3⟩
    | rt d S' => rw [q] at p3; exact p3
    | bk σd' S' => rw [q] at p3; exact p3
    | exc C ns l σd' S' => rw [q] at p3; exact p3
    | bad => rw [q] at p3; exact p3
  · have e : i = ds.length := by omega
    subst e
    rw [List.drop_length] at p
    exact .inl ⟨stop, p A H σ R T E⟩⟩
end
end Y
end
section
/-! Y12: list comprehensions. -/
namespace Y
open PySem PySem.Spec PyProof.Rows L2

def wipeD (σ : Ev) : List Nat → Ev
  | [] => σ
  | v :: vs => (wipeD σ vs).set v none
theorem wipeD_length (σ : Ev) : ∀ vs : List Nat, (wipeD σ vs).length = σ.length
  | [] => rfl
  | v :: vs => by unfold wipeD; rw [List.length_set, wipeD_length σ vs]
theorem RE.wipe {K : PySem.W.Frag} {hx : Hx} {A : Ads} {lv : Addr → Prop} {H : Hp} {σd : Ev} {σ : L2.St} (h : RE K hx A lv H σd σ) : ∀ vs : List Nat, RE K hx A lv H (wipeD σd vs) (wipe σ vs)
  | [] => h
  | v :: vs => by
    have ih := RE.wipe h vs
    refine ⟨by rw [wipeD_length, wipe_length, h.len], fun j d e => ?_⟩
    unfold wipeD at e
    unfold L2.wipe
    by_cases hj : v = j
    · subst hj
      by_cases hl : v < (wipeD σd vs).length
      · rw [List.getElem?_set_self hl] at e; cases e
      · rw [List.getElem?_eq_none (by simpa using hl)] at e; cases e
    · rw [List.getElem?_set_ne hj] at e ⊢
      exact ih.at_ j d e
theorem wipe_at {σ : L2.St} {j : Nat} : ∀ {vs : List Nat}, (wipe σ vs)[j]? = if j ∈ vs then (if j < σ.length then some none else none) else σ[j]?
  | [] => by simp [L2.wipe]
  | v :: vs => by
    unfold L2.wipe
    by_cases hj : v = j
    · subst hj
      rw [if_pos (by simp)]
      by_cases hl : v < (wipe σ vs).length
      · rw [List.getElem?_set_self hl]
        rw [wipe_length] at hl
        rw [if_pos hl]
      · rw [List.getElem?_eq_none (by simpa using hl)]
        rw [wipe_length] at hl
        rw [if_neg hl]
    · rw [List.getElem?_set_ne hj, wipe_at (vs := vs)]
      have : (j ∈ v :: vs) ↔ j ∈ vs := by simp [Ne.symm hj]
      simp only [this]
theorem Same.wipe {is vs : List Nat} {σ0 σ : L2.St} (h : Same is σ0 σ) (hs : ∀ i ∈ is, i ∈ vs) : wipe σ vs = wipe σ0 vs := by
  apply List.ext_getElem?
  intro j
  rw [wipe_at, wipe_at, h.1]
  by_cases hj : j ∈ vs
  · rw [if_pos hj, if_pos hj]
  · rw [if_neg hj, if_neg hj]
    exact h.2 j fun z => hj (hs j z)
theorem wipe_wipe {σ : L2.St} {vs : List Nat} : wipe (wipe σ vs) vs = wipe σ vs := by
  apply List.ext_getElem?
  intro j
  rw [wipe_at (σ := wipe σ vs), wipe_length]
  by_cases hj : j ∈ vs
  · rw [if_pos hj, wipe_at, if_pos hj]
  · rw [if_neg hj]

structure DTs (X : Cx) (hx : Hx) (ifs : List Expr) (t : TM) : Prop where
  run : ∀ W, Takes X W → PTs X ifs (tT ⟨X.K, hx, W⟩ t)
def tYs : TM := fun _ S => .ok true S
theorem dts_nil {X : Cx} {hx : Hx} : DTs X hx [] tYs := ⟨fun W tk => ⟨fun pins s σ H Q I ⟨A, S, σd, R, E, p⟩ => pts_nil.run pins s σ H Q I (p.here R rfl)⟩⟩
theorem dts_one {X : Cx} {hx : Hx} {c : Expr} {t : TM} (h : DT X hx c t) : DTs X hx [c] t := ⟨fun W tk => pts_one (h.run W tk)⟩

def addC (n : Nat) (y : D) (S : Store) : Option Cell → Option Store
  | some (.lst acc) => if acc.length < lim then some ((S.set n (.lst (acc ++ [y]))).take (n + 1)) else none
  | _ => none
/-- the turns; the new list is the n-th cell -/
def lcN (g : GM) (t : TM) (e : EM) (σw : Ev) (n : Nat) : List D → Store → Option Store
  | [], S => some S
  | d :: ds, S => match g (.d d) σw S with
    | .ok σ2 S2 => match t σ2 S2 with
      | .ok true S3 => match e σ2 S3 with
        | .ok w S4 => match fz1 S4 w with
          | .ok y S5 => match addC n y S5 S5[n]? with
            | some S6 => lcN g t e σw n ds S6
            | none => none
          | _ => none
        | _ => none
      | .ok false S3 => lcN g t e σw n ds (S3.take (n + 1))
      | _ => none
    | _ => none
def optS (o : Option Store) (k : Store → Res Wt) : Res Wt := match o with
  | some S => k S
  | none => .bad
def finV (n : Nat) (S : Store) : Res Wt := match S[n]? with
  | some (.lst acc) => .ok (.d (.lst acc)) (S.take n)
  | _ => .bad
def finL (n : Nat) (S : Store) : Res Wt := .ok (.loc n) S
def eLcG (fin : Nat → Store → Res Wt) (w : IM) (g : GM) (t : TM) (e : EM) (vs : List Nat) : EM := fun σd S => (w σd S).bind fun ds S1 => optS (lcN g t e (wipeD σd vs) S1.length ds (S1 ++ [.lst []])) (fin S1.length)
abbrev eLc := eLcG finV
abbrev eLcL := eLcG finL
def FinOk (fin : Nat → Store → Res Wt) : Prop := ∀ (c : Cn) (σ : L2.St) (A1 A : Ads) (S1 S : Store) (H1 H : Hp) (D : Addr) (Q : VK), Rel c.K A1 S1 H1 → Rel c.K A S H → Stp A1 S1 H1 A S H → A[S1.length]? = some (some D) → Post c (rV c) σ A1 S1 H1 Q (fin S1.length S) → Q (.ref D) H
theorem finL_ok : FinOk finL := fun c σ A1 A S1 S H1 H D Q R1 R T hA p => p A H _ R T ⟨D, hA, rfl⟩
theorem finV_ok : FinOk finV := fun c σ A1 A S1 S H1 H D Q R1 R T hA p => by
  unfold finV at p
  split at p
  · rename_i acc e
    have fz : fz1 S (.loc S1.length) = .ok (.lst acc) (S.set S1.length (.frz (.lst acc))) := by
      show fzC S S1.length S[S1.length]? = _
      rw [e]
      rfl
    obtain ⟨R2, T2, r2⟩ := fz1_ok (hx := hx0) (d := .loc S1.length) (v := .ref D) R ⟨D, hA, rfl⟩ fz
    have e2 : (S.set S1.length (.frz (.lst acc))).take S1.length = S.take S1.length := by
      rw [List.take_set_of_le (Nat.le_refl _)]
    have R3 := R2.take S1.length
    have T3 := (T.trans T2).take R1
    rw [e2] at R3 T3
    refine p _ H _ R3 T3 ?_
    have := RP.fr R2 (Fr.take S1.length) r2
    rw [e2] at this
    exact RV.of this
  · exact p.elim
theorem takes_no {X : Cx} : Takes X (fun _ _ _ _ => False) := fun u s' ⟨a, B, sI, pins, σ, H, cls, d, e, I, nb, up, sky, na, os, ag, w⟩ => w.elim
abbrev cno (K : PySem.W.Frag) (hx : Hx) : Cn := ⟨K, hx, fun _ _ _ _ => False⟩
section
variable {K : PySem.W.Frag} {hx : Hx} {W : WX} {w : IM} {g : GM} {t : TM} {e : EM} {vs is : List Nat} {fin : Nat → Store → Res Wt}
theorem lc_of (fo : FinOk fin) (hs : ∀ i ∈ is, i ∈ vs) {σ : L2.St} {H : Hp} {Q : VK} (h : tE ⟨K, hx, W⟩ (eLcG fin w g t e vs) σ H Q) :
    tLc (tI ⟨K, hx, W⟩ w) (tG (cno K hx) is g) (tT (cno K hx) t) (tE (cno K hx) e) vs σ H Q := by
  obtain ⟨A, S, σd, R, E, p⟩ := h
  refine ⟨A, S, σd, R, E, (Post.bind (R1 := rIt ⟨K, hx, W⟩) p).mono fun J H1 ⟨A1, S1, ds, R1, T1, j1, p1⟩ => ?_⟩
  intro D hD
  cases hq : lcN g t e (wipeD σd vs) S1.length ds (S1 ++ [.lst []]) with
  | none => rw [hq] at p1; exact p1.elim
  | some Sf =>
    rw [hq] at p1
    have p1 : Post ⟨K, hx, W⟩ (rV ⟨K, hx, W⟩) σ A1 S1 H1 Q (fin S1.length Sf) := p1
    obtain ⟨Rb, Tb⟩ := Rel.alloc (c := .lst []) (o := .lst []) R1 hD ⟨[], upd_same, .nil⟩
    have hAb : (A1 ++ [some D])[S1.length]? = some (some D) := by rw [← R1.len]; simp
    have hlb : (S1 ++ [Cell.lst []]).length = S1.length + 1 := by simp
    have E1 := E.step R T1
    have Ew := (E1.step R1 Tb).wipe vs
    generalize hAe : A1 ++ [some D] = Ab at Rb Tb hAb Ew
    generalize hSe : S1 ++ [Cell.lst []] = Sb at Rb Tb hlb hq Ew
    generalize hHe : upd H1 D (.lst []) = Hb at Rb Tb Ew
    refine ⟨fun i m H => i + m = ds.length ∧ ∃ A S, Rel K A S H ∧ Stp Ab Sb Hb A S H ∧ lcN g t e (wipeD σd vs) S1.length (ds.drop i) S = some Sf, ⟨ds.length, Nat.zero_add _, Ab, Sb, Rb, .refl, hq⟩, ?_⟩
    rintro i m H ⟨hm, A, S, R, T, q⟩
    obtain ⟨go, stop, yld⟩ := j1 A S H R (Tb.trans T).fr
    by_cases hlt : i < ds.length
    · refine .inr ⟨go i hlt, fun H => i + 1 + (m - 1) = ds.length ∧ ∃ A S, Rel K A S H ∧ Stp Ab Sb Hb A S H ∧ lcN g t e (wipeD σd vs) S1.length (ds.drop (i + 1)) S = some Sf, fun H' h => ⟨m - 1, by omega, h⟩, fun x H' y => ?_⟩
      obtain ⟨d, hd, R2, T2, r2⟩ := yld i x H' hlt y
      rw [drop_cons hd] at q
      unfold lcN at q
      cases qg : g (.d d) (wipeD σd vs) S with
      | bad => rw [qg] at q; cases q
      | exc C ns l S' => rw [qg] at q; cases q
      | ok σ2d S2 =>
        rw [qg] at q
        dsimp only at q
        refine ⟨A, S, wipeD σd vs, .d d, R2, Ew.step Rb (T.trans T2), RV.of r2, ?_⟩
        rw [qg]
        intro A2 H2 σ2 R3 T3 ⟨E3, sm⟩
        refine ⟨by rw [sm.wipe hs, wipe_wipe], ?_⟩
        cases qt : t σ2d S2 with
        | bad => rw [qt] at q; cases q
        | exc C ns l S' => rw [qt] at q; cases q
        | ok b S3 =>
          rw [qt] at q
          refine ⟨A2, S2, σ2d, R3, E3, ?_⟩
          rw [qt]
          intro A3 H3 b' R4 T4 hb
          have hb : b = b' := hb
          subst hb
          have T' := ((T.trans T2).trans T3).trans T4
          cases b with
          | false =>
            rw [if_neg Bool.false_ne_true]
            dsimp only at q
            refine ⟨by omega, A3.take (S1.length + 1), S3.take (S1.length + 1), R4.take _, ?_, q⟩
            have := T'.take Rb
            rw [hlb] at this
            exact this
          | true =>
            rw [if_pos rfl]
            dsimp only at q
            cases qe : e σ2d S3 with
            | bad => rw [qe] at q; cases q
            | exc C ns l S' => rw [qe] at q; cases q
            | ok w4 S4 =>
              rw [qe] at q
              dsimp only at q
              refine ⟨A3, S3, σ2d, R4, E3.step R3 T4, ?_⟩
              rw [qe]
              intro A4 H4 y R5 T5 r5
              cases qf : fz1 S4 w4 with
              | bad => rw [qf] at q; cases q
              | exc C ns l S' => rw [qf] at q; cases q
              | ok yd S5 =>
                rw [qf] at q
                dsimp only at q
                obtain ⟨R6, T6, r6⟩ := fz1_ok R5 r5 qf
                have T'' := (T'.trans T5).trans T6
                have hA4 := T''.ext _ _ hAb
                obtain ⟨cl, u, hcl, hu, ok⟩ := R6.known hA4
                rw [hcl] at q
                cases cl with
                | lst acc =>
                  obtain ⟨us, h1, h2⟩ := ok
                  unfold addC at q
                  dsimp only at q
                  by_cases hz : acc.length < lim
                  · rw [if_pos hz] at q
                    dsimp only at q
                    obtain ⟨R7, T7⟩ := R6.putL hA4 hcl (h2.append (.one r6))
                    refine ⟨us, h1, by rw [← h2.len]; exact lim_lt hz, by omega, A4.take (S1.length + 1), _, R7.take _, ?_, q⟩
                    have := (T''.trans T7).take Rb
                    rw [hlb] at this
                    exact this
                  · rw [if_neg hz] at q; cases q
                | _ => cases q
    · have e : i = ds.length := by omega
      subst e
      rw [List.drop_length] at q
      cases q
      exact .inl ⟨stop, fo ⟨K, hx, W⟩ σ A1 A S1 _ H1 H D Q R1 R (Tb.trans T) (T.ext _ _ hAb) p1⟩
end
section
variable {X : Cx} {hx : Hx} {elt tg iter : Expr} {ifs : List Expr} {scope : Scope} {own : List (Str × Nat)} {pos : Pos} {w : IM} {g : GM} {t : TM} {e : EM} {is : List Nat} {fin : Nat → Store → Res Wt}
theorem d_lcG (fo : FinOk fin) (hc : X.calm = true) (hN : X.N.Nodup) (own : List (Str × Nat)) (hi : DI X hx tg iter w) (ok : BlkOk X.N X.env.scope scope own) (hs' : ∀ i ∈ is, i ∈ own.map (·.2))
    (hg : ∀ (s : Shared) (H : Hp) (C : Addr) (cl : List (Str × Addr)) (fp : List Addr), DG (X.blk s H scope (compEnvC scope cl C X.env) fp) hx tg is g)
    (ht : ∀ (s : Shared) (H : Hp) (C : Addr) (cl : List (Str × Addr)) (fp : List Addr), DTs (X.blk s H scope (compEnvC scope cl C X.env) fp) hx ifs t)
    (he : ∀ (s : Shared) (H : Hp) (C : Addr) (cl : List (Str × Addr)) (fp : List Addr), DE (X.blk s H scope (compEnvC scope cl C X.env) fp) hx elt e) (hs : ∀ x, foldedSetIterable iter X.env x = pure x := by intro _; rfl) :
    DE X hx (.ListComp elt [⟨tg, iter, ifs, 0⟩] scope pos) (eLcG fin w g t e (own.map (·.2))) :=
  ⟨fun W tk => PEimp (pe_lc hc hN (hi.run W tk) ok (fun s H C cl fp => (hg s H C cl fp).run _ takes_no) (fun s H C cl fp => (ht s H C cl fp).run _ takes_no) (fun s H C cl fp => (he s H C cl fp).run _ takes_no) hs) fun σ H Q h => lc_of fo hs' h⟩
theorem ds_setLcG {i : Nat} {y : Str} {py spos : Pos} (fo : FinOk fin) (hc : X.calm = true) (hN : X.N.Nodup) (own : List (Str × Nat)) (hi : DI X hx tg iter w) (ok : BlkOk X.N X.env.scope scope own) (hs' : ∀ i ∈ is, i ∈ own.map (·.2))
    (hg : ∀ (s : Shared) (H : Hp) (C : Addr) (cl : List (Str × Addr)) (fp : List Addr), DG (X.blk s H scope (compEnvC scope cl C X.env) fp) hx tg is g)
    (ht : ∀ (s : Shared) (H : Hp) (C : Addr) (cl : List (Str × Addr)) (fp : List Addr), DTs (X.blk s H scope (compEnvC scope cl C X.env) fp) hx ifs t)
    (he : ∀ (s : Shared) (H : Hp) (C : Addr) (cl : List (Str × Addr)) (fp : List Addr), DE (X.blk s H scope (compEnvC scope cl C X.env) fp) hx elt e)
    (hy : X.N[i]? = some y := by rfl) (hyl : X.env.scope.names.lookup y = some .local := by rfl)
    (hsw : swapsWith (.ListComp elt [⟨tg, iter, ifs, 0⟩] scope pos) (some (.Name y py)) spos.line X.env = pure true := by first | exact sw_true rfl rfl rfl rfl) (hs : ∀ x, foldedSetIterable iter X.env x = pure x := by intro _; rfl) :
    DS X hx (.Assign [.Name y py] (.ListComp elt [⟨tg, iter, ifs, 0⟩] scope pos) spos) (sSet i (eLcG fin w g t e (own.map (·.2)))) :=
  ⟨fun W tk => PSimp (ps_setLc hc hN hy hyl hsw (hi.run W tk) ok (fun s H C cl fp => (hg s H C cl fp).run _ takes_no) (fun s H C cl fp => (ht s H C cl fp).run _ takes_no) (fun s H C cl fp => (he s H C cl fp).run _ takes_no) hs) fun σ H D ⟨b0, A0, S0, H0, A, S, σd, R0, T, R, E, p⟩ =>
    lc_of (W := W) fo hs' ⟨A, S, σd, R, E, (Post.ofS (R1 := rV _) R T E p).mono fun v H1 ⟨A1, S1, d, R1, T1, E1, r1, p1⟩ => p1 A1 H1 _ R1 T1 (E1.set r1)⟩⟩
end
end Y
end
section
/-! Y13: calls with keywords, methods of texts, str(..), three names at once. -/
namespace Y
open PySem PySem.Spec PyProof.Rows L2

/-! ### keywords -/
def pick {α : Type} (perm : List Nat) (l : List α) : List α := perm.filterMap (l[·]?)
theorem Paired.at_ {α β : Type} {R : α → β → Prop} : ∀ {l : List α} {m : List β}, Paired R l m → ∀ i : Nat, (∃ a b, l[i]? = some a ∧ m[i]? = some b ∧ R a b) ∨ (l[i]? = none ∧ m[i]? = none)
  | _, _, .nil, i => .inr ⟨by simp, by simp⟩
  | _, _, .cons r _, 0 => .inl ⟨_, _, rfl, rfl, r⟩
  | _, _, .cons _ t, i + 1 => by simpa using Paired.at_ t i
theorem paired_pick {α β : Type} {R : α → β → Prop} {l : List α} {m : List β} (h : Paired R l m) : ∀ perm : List Nat, Paired R (pick perm l) (pick perm m)
  | [] => .nil
  | i :: perm => by
    have ih := paired_pick h perm
    unfold pick at ih ⊢
    rcases Paired.at_ h i with ⟨a, b, e1, e2, r⟩ | ⟨e1, e2⟩
    · rw [List.filterMap_cons_some e1, List.filterMap_cons_some e2]
      exact .cons r ih
    · rw [List.filterMap_cons_none e1, List.filterMap_cons_none e2]
      exact ih
theorem paired_app {α β : Type} {R : α → β → Prop} : ∀ {l l' : List α} {m m' : List β}, Paired R l m → Paired R l' m' → Paired R (l ++ l') (m ++ m')
  | _, _, _, _, .nil, h => h
  | _, _, _, _, .cons r t, h => .cons r (paired_app t h)
theorem vals_pick {l : List V} {m : List Value} (h : Vals l m) : ∀ perm : List Nat, Vals (pick perm l) (pick perm m) := fun perm => paired_pick h perm
theorem vals_app {l l' : List V} {m m' : List Value} (h : Vals l m) (h' : Vals l' m') : Vals (l ++ l') (m ++ m') := paired_app h h'
structure DK (X : Cx) (hx : Hx) (kws : List Keyword) (f : AM) : Prop where
  run : ∀ W, Takes X W → PK X kws (tA ⟨X.K, hx, W⟩ f)
/-- a def that stands at a name, called with keywords -/
structure FnKw (P : Program) (w : World) (K : PySem.W.Frag) (mg : Str → Option Value) (base : Heap) (x : Str) (k : Nat) (ps : List Str) (F : List Wt → Store → Res Wt) (n : Nat) (ks : List Str) (perm : List Nat) : Prop where
  is : ∃ f fd, mg x = some (.ref f) ∧ PySem.W.keepIn K (.ref f) = true ∧ KBn K fd ps n ks (fun us ws => pick perm (us ++ ws)) (fun vs zs => pick perm (vs ++ zs)) ∧ FnOk P w K mg base (L2.CX P w) k f fd ps (spOf K F)
theorem FnKw.mono {P : Program} {w : World} {K : PySem.W.Frag} {mg : Str → Option Value} {base : Heap} {x : Str} {k k' : Nat} {ps : List Str} {F : List Wt → Store → Res Wt} {n : Nat} {ks : List Str} {perm : List Nat} (h : FnKw P w K mg base x k ps F n ks perm) (l : k ≤ k') : FnKw P w K mg base x k' ps F n ks perm := by
  obtain ⟨f, fd, h1, h2, h3, h4⟩ := h.is
  exact ⟨f, fd, h1, h2, h3, h4.mono l⟩
theorem kbn_of {K : PySem.W.Frag} {x qual : Str} {params : Arguments} {body : List Stmt} {scope : Scope} {f : Addr} {fd : FuncData} {ps : List Str} {n : Nat} {ks : List Str} {perm : List Nat} (F : FunD K x qual params body scope [] [] f fd)
    (h : ∀ (kV doc pm : Value) (an : Option Addr) (cdv ct : Value) (us ws : List Value), us.length = n → ws.length = ks.length → bindArgs (PySem.W.fnOf x qual params body scope .none kV doc pm an cdv ct) ⟨us, ks.zip ws⟩ = pure (ps.zip (pick perm (us ++ ws)))) :
    KBn K fd ps n ks (fun us ws => pick perm (us ++ ws)) (fun vs zs => pick perm (vs ++ zs)) := by
  obtain ⟨oc, od, dV, kV, doc, pm, an, cdv, ct, osl, rfl, lk, hcd, hD, hK⟩ := F.ex
  rcases hD with ⟨_, rfl⟩ | ⟨e, _⟩
  · exact ⟨fun s us ws _ l1 l2 => .of_eq (h kV doc pm an cdv ct us ws l1 l2), fun r1 r2 => vals_pick (vals_app r1 r2) perm⟩
  · exact absurd rfl e
def eCK (F : List Wt → Store → Res Wt) (n m : Nat) (perm : List Nat) (g gk : AM) : EM := fun σd S => (g σd S).bind fun ds S1 => (gk σd S1).bind fun es S2 => if ds.length = n ∧ es.length = m then F (pick perm (ds ++ es)) S2 else .bad
section
variable {X : Cx} {hx : Hx} {x : Str} {k n : Nat} {ps ks : List Str} {perm : List Nat} {F : List Wt → Store → Res Wt} {e : Expr} {es : List Expr} {kws : List Keyword} {g gk : AM} {p pos kpos : Pos} {nm : Option Str} {fe : EM}
theorem PKimp {kws : List Keyword} {t t' : TA} (h : PK X kws t) (i : ∀ σ H Q, t' σ H Q → t σ H Q) : PK X kws t' := ⟨fun p pins s σ H Q I q => h.run p pins s σ H Q I (i σ H Q q)⟩
theorem dk_nil : DK X hx [] aNil := ⟨fun W tk => PKimp pk_nil fun σ H Q ⟨A, S, σd, R, E, p⟩ => p.here R .nil⟩
theorem dk_cons (h1 : DE X hx e fe) (h2 : DK X hx kws gk) : DK X hx (⟨nm, e, kpos⟩ :: kws) (aCons fe gk) := ⟨fun W tk => PKimp (pk_cons (h1.run W tk) (h2.run W tk)) fun σ H Q ⟨A, S, σd, R, E, p⟩ =>
    ⟨A, S, σd, R, E, (Post.bind (R1 := rV _) p).mono fun v H1 ⟨A1, S1, d, R1, T1, r1, p1⟩ => ⟨A1, S1, σd, R1, E.step R T1, (Post.bind (R1 := rVs _) p1).mono fun vs H2 ⟨A2, S2, ds, R2, T2, r2, p2⟩ =>
      p2.here R2 (.cons (r1.step R1 T2) r2)⟩⟩⟩
theorem run_fnNS {CX : CXT} {f : Addr} {fd : FuncData} {sp : Sp} {E : L2.St → XK} {g : List Value → List Value → List Value} {gV : List V → List V → List V} {pins : List (Addr × Obj)} {σ : L2.St} {H : Hp} {s : Shared} {Q : VK} {us ws : List Value} {vs zs : List V} (F : FnOk X.prog X.w X.K X.mg X.base CX k f fd ps sp) (hr : Room k X.A) (hb : KBn X.K fd ps n ks g gV) (hx : PassesAt CX X σ (E σ))
    (I : Inv X pins σ H s) (r : Vals vs us) (rz : Vals zs ws) (l1 : vs.length = n) (l2 : zs.length = ks.length) (h : sp (gV vs zs) H Q (E σ)) : wpAny (model X.prog X.w) X.A (call (.ref f) us (ks.zip ws)) (EP X pins σ Q) X.xe s := by
  have r2 := hb.rel r rz
  refine wpAny_call (codeAny_mono (F.run X.A X.stack s H ⟨us, ks.zip ws⟩ (g us ws) (gV vs zs) Q (E σ) hr I.env0 (hb.to s us ws I.kIn (r.length.symm.trans l1) (rz.length.symm.trans l2)) r2 h) fun r s' hq => ?_)
  cases r with
  | error e => exact hx pins H s e s' I hq
  | ok fl =>
    cases fl with
    | ret u => exact I.after hq
    | next => exact False.elim hq
    | brk => exact False.elim hq
    | cont => exact False.elim hq
def tCK (n m : Nat) (sp : Sp) (gV : List V → List V → List V) (E : L2.St → XK) (t tk : TA) : TE := fun σ H Q => t σ H fun vs H1 => tk σ H1 fun zs H2 => vs.length = n ∧ zs.length = m ∧ sp (gV vs zs) H2 Q (E σ)
theorem d_callKw (G : FnKw X.prog X.w X.K X.mg X.base x k ps F n ks perm) (hr : Room k X.A) (ha : DA X hx (e :: es) g) (hkw : DK X hx kws gk) {m : Nat} (hg : Gl X x := by rfl) (hmm : ks.length = m := by rfl) (hdb : (x == ("__debug__" : Str)) = false := by decide)
    (hall : (backToKw pos (keywordEach kws X.env)).all (·.1.isSome) = true := by rfl) (hks : (backToKw pos (keywordEach kws X.env)).filterMap (·.1) = ks := by rfl) (he : starEach (e :: es) X.env = (false, eval e X.env) :: starEach es X.env := by rfl)
    (hpl : ((backTo pos (starEach (e :: es) X.env)).any (·.1) || (backToKw pos (keywordEach kws X.env)).any (·.1.isNone)) = false := by rfl) : DE X hx (.Call (.Name x p) (e :: es) kws pos) (eCK F n m perm g gk) := by
  subst hmm
  obtain ⟨f, fd, hm, hk, hb, hF⟩ := G.is
  refine ⟨fun W tk => PEimp (t := tCK n ks.length (spOf X.K F) (fun vs zs => pick perm (vs ++ zs)) (WE W) (tA ⟨X.K, hx, W⟩ g) (tA ⟨X.K, hx, W⟩ gk)) ⟨fun pins s σ H Q I h => ?_⟩ fun σ H Q ⟨A, S, σd, R, E, q⟩ => ?_⟩
  · refine wpAny_Call_Name_kw (ld_glob I hg hm ?_ hdb)
    refine PySem.W.callWith_KW (h₀ := X.base) I.ok.mod.kin hk hall (thn ((ha.run W tk).run pos pins s σ H _ I h) fun us s1 ⟨vs, H1, I1, r, q⟩ => ?_) hpl he
    refine thn ((hkw.run W tk).run pos pins s1 σ H1 _ I1 q) fun ws s2 ⟨zs, H2, I2, rz, l1, l2, q2⟩ => ⟨I2.kIn, ?_⟩
    rw [hks]
    exact run_fnNS hF hr hb (passAt tk σ) I2 r rz l1 l2 q2
  · refine ⟨A, S, σd, R, E, (Post.bind (R1 := rVs _) q).mono fun vs H1 ⟨A1, S1, ds, R1, T1, r1, p1⟩ => ⟨A1, S1, σd, R1, E.step R T1, (Post.bind (R1 := rVs _) p1).mono fun zs H2 ⟨A2, S2, es', R2, T2, r2, p2⟩ => ?_⟩⟩
    obtain ⟨⟨l1, l2⟩, p3⟩ := Post.iteP p2
    have r1' := Paired.mapP r1 fun d v q => RV.step (hx := hx) R1 T2 q
    exact ⟨by rw [← Paired.length r1]; exact l1, by rw [← Paired.length r2]; exact l2, hx, A2, S2, _, R2, paired_pick (paired_app r1' r2) perm, p3.toCE⟩
theorem d_callKw0 (G : FnKw X.prog X.w X.K X.mg X.base x k ps F 0 ks perm) (hr : Room k X.A) (hkw : DK X hx kws gk) {m : Nat} (hg : Gl X x := by rfl) (hmm : ks.length = m := by rfl) (hdb : (x == ("__debug__" : Str)) = false := by decide)
    (hall : (backToKw pos (keywordEach kws X.env)).all (·.1.isSome) = true := by rfl) (hks : (backToKw pos (keywordEach kws X.env)).filterMap (·.1) = ks := by rfl)
    (hpl : ((backTo pos (starEach [] X.env)).any (·.1) || (backToKw pos (keywordEach kws X.env)).any (·.1.isNone)) = false := by rfl) : DE X hx (.Call (.Name x p) [] kws pos) (eCK F 0 m perm aNil gk) := by
  subst hmm
  obtain ⟨f, fd, hm, hk, hb, hF⟩ := G.is
  refine ⟨fun W tk => PEimp (t := tCK 0 ks.length (spOf X.K F) (fun vs zs => pick perm (vs ++ zs)) (WE W) L2.tNil (tA ⟨X.K, hx, W⟩ gk)) ⟨fun pins s σ H Q I h => ?_⟩ fun σ H Q ⟨A, S, σd, R, E, q⟩ => ?_⟩
  · refine wpAny_Call_Name_kw (ld_glob I hg hm ?_ hdb)
    refine PySem.W.callWith_KW0 (h₀ := X.base) I.ok.mod.kin hk hall ?_ hpl
    refine thn ((hkw.run W tk).run pos pins s σ H _ I h) fun ws s2 ⟨zs, H2, I2, rz, l1, l2, q2⟩ => ⟨I2.kIn, ?_⟩
    rw [hks]
    exact run_fnNS (us := []) (vs := []) hF hr hb (passAt tk σ) I2 .nil rz rfl l2 q2
  · refine ⟨A, S, σd, R, E, (Post.bind (R1 := rVs _) (show Post ⟨X.K, hx, W⟩ (rV ⟨X.K, hx, W⟩) σ A S H Q ((gk σd S).bind fun es S2 => if ([] : List Wt).length = 0 ∧ es.length = ks.length then F (pick perm ([] ++ es)) S2 else .bad) from q)).mono fun zs H2 ⟨A2, S2, es', R2, T2, r2, p2⟩ => ?_⟩
    obtain ⟨⟨_, l2⟩, p3⟩ := Post.iteP p2
    exact ⟨rfl, by rw [← Paired.length r2]; exact l2, hx, A2, S2, _, R2, paired_pick r2 perm, p3.toCE⟩
/-- f() -/
theorem d_call0 (G : Fn X.prog X.w X.K X.mg X.base x k [] F) (hr : Room k X.A) (hg : Gl X x := by rfl) (hdb : (x == ("__debug__" : Str)) = false := by decide) : DE X hx (.Call (.Name x p) [] [] pos) (fun _ S => F [] S) := by
  obtain ⟨f, fd, hm, hk, hb, hF⟩ := G.is
  refine ⟨fun W tk => ⟨fun pins s σ H Q I ⟨A, S, σd, R, E, q⟩ => ?_⟩⟩
  refine wpAny_Call_Name_kw (ld_glob I hg hm ?_ hdb)
  refine PySem.W.callWith_KW0 (kws := []) (env := X.env) (h₀ := X.base) I.ok.mod.kin hk rfl (wpAny_evalAll_nil ⟨I.kIn, ?_⟩) rfl
  exact run_fnS (us := []) (vs := []) (E := WE W) hF hr hb (passAt tk σ) I .nil ⟨hx, A, S, [], R, .nil, q.toCE⟩
end

/-! ### three names at once -/
section
variable {X : Cx} {hx : Hx} {pos : Pos}
theorem ds_par3 {i j l : Nat} {x y z : Str} {a b c : Expr} {fa : AM} {px py pz pt : Pos} {kt k2 pt2} (hc : X.calm = true) (hN : X.N.Nodup) (ha : DA X hx [a, b, c] fa) (hi : X.N[i]? = some x := by rfl) (hj : X.N[j]? = some y := by rfl) (hl : X.N[l]? = some z := by rfl) (hij : i ≠ j := by decide) (hil : i ≠ l := by decide) (hjl : j ≠ l := by decide)
    (hx' : X.env.scope.names.lookup x = some .local := by rfl) (hy : X.env.scope.names.lookup y = some .local := by rfl) (hz : X.env.scope.names.lookup z = some .local := by rfl)
    (hw : swappedStores [.Tuple [.Name x px, .Name y py, .Name z pz] kt pt] (.Tuple [a, b, c] k2 pt2) X.env = pure (some [x, y, z]) := by rfl)
    (hs : swapsWithSole [.Tuple [.Name x px, .Name y py, .Name z pz] kt pt] (.Tuple [a, b, c] k2 pt2) pos.line X.env = pure false := by rfl) :
    DS X hx (.Assign [.Tuple [.Name x px, .Name y py, .Name z pz] kt pt] (.Tuple [a, b, c] k2 pt2) pos) (sPar3 i j l fa) := ⟨fun W tk => PSimp (ps_par3 hc hN hi hj hl hij hil hjl hx' hy hz (ha.run W tk) hw hs) fun σ H D ⟨b0, A0, S0, H0, A, S, σd, R0, T, R, E, p⟩ =>
  ⟨A, S, σd, R, E, (Post.ofS (R1 := rVs _) R T E p).mono fun vs H1 ⟨A1, S1, ds, R1, T1, E1, r1, p1⟩ => by
    match ds, r1, p1 with
    | [d, e, f], r1, p1 =>
      obtain ⟨v, u, w, rfl, r2, r3, r4⟩ := rvs3 r1
      exact ⟨v, u, w, rfl, p1 A1 H1 _ R1 T1 (((E1.set r2).set r3).set r4)⟩
    | [], _, p1 => exact p1.elim
    | [_], _, p1 => exact p1.elim
    | [_, _], _, p1 => exact p1.elim
    | _ :: _ :: _ :: _ :: _, _, p1 => exact p1.elim⟩⟩

/-! ### texts -/
def bStr : List Wt → Store → Res Wt := f1 fun d S => match d with
  | .int i => if i.natAbs.log2 < 1920 then .ok (.d (.str (toString i))) S else .bad
  | _ => .bad
theorem cal_str : CalD X hx (.type "str") bStr := by
  intro W pins s σ H xs us Q I r h
  obtain ⟨A, S, σ', d, v, R, rfl, rv, p⟩ := rcd1 h
  split at p
  · rename_i x
    obtain ⟨hz, p⟩ := Post.iteP p
    exact call_str_int pins s σ H _ us Q I r ⟨x, by rw [rv.int], hz, p.hereV R (.str _)⟩
  · exact p.elim
def asStrs : List D → Option (List Str)
  | [] => some []
  | .str b :: l => (asStrs l).map (b :: ·)
  | _ => none
theorem strs_of {K : PySem.W.Frag} {lv : Addr → Prop} {H : Hp} : ∀ {l : List D} {vs : List V} {bs : List Str}, RPs K lv H l vs → asStrs l = some bs → vs = bs.map V.str
  | [], _, _, h, e => by cases h; cases e; rfl
  | d :: l, _, bs, h, e => by
    cases h with
    | cons h1 h2 =>
      cases d with
      | str b =>
        unfold asStrs at e
        cases e2 : asStrs l with
        | none => rw [e2] at e; cases e
        | some cs =>
          rw [e2] at e
          cases e
          cases h1
          rw [strs_of h2 e2]
          rfl
      | _ => cases e
theorem of_strs {K : PySem.W.Frag} {lv : Addr → Prop} {H : Hp} : ∀ (ns : List Str), RPs K lv H (ns.map D.str) (ns.map V.str)
  | [] => .nil
  | n :: ns => .cons (.str n) (of_strs ns)
end
end Y
end
section
/-! Y14: methods of texts; the end. -/
namespace Y
open PySem PySem.Spec PyProof.Rows L2
section
variable {X : Cx} {hx : Hx}
def optSt (S : Store) (o : Option (List Str)) (k : List Str → Res Wt) : Res Wt := match o with
  | some l => k l
  | none => .bad
def strsOf : D → Option (List Str)
  | .lst l => asStrs l
  | .tup l => asStrs l
  | _ => none
def mJoin (o : Wt) (ds : List Wt) (S : Store) : Res Wt := match ds with
  | [d] => match deref S o, deref S d with
    | some (.str a), some x => optSt S (strsOf x) fun ys => if (ys.map (·.length)).sum + ys.length * a.length ≤ 10000000 then .ok (.d (.str (Txt.join a ys))) S else .bad
    | _, _ => .bad
  | _ => .bad
theorem optSt_ok {c : Cn} {σ : L2.St} {A : Ads} {S : Store} {H : Hp} {Q : VK} {o : Option (List Str)} {k : List Str → Res Wt} (p : Post c (rV c) σ A S H Q (optSt S o k)) : ∃ l, o = some l ∧ Post c (rV c) σ A S H Q (k l) := by
  cases o with
  | none => exact p.elim
  | some l => exact ⟨l, rfl, p⟩
theorem met_join : MetD X hx "str.join" mJoin := by
  intro W pins s σ H x xs v us Q I r rs h
  obtain ⟨A, S, σ', d, ds, R, rd, rds, p⟩ := h
  match ds, rds, p with
  | [], _, p => exact p.elim
  | _ :: _ :: _, _, p => exact p.elim
  | [y], rds, p =>
    obtain ⟨w, rfl, ry⟩ := rvs1 rds
    unfold mJoin at p
    dsimp only at p
    split at p
    · rename_i a x' e1 e2
      obtain ⟨ys, e, p2⟩ := optSt_ok p
      obtain ⟨hz, p3⟩ := Post.iteP p2
      clear p p2
      obtain rfl := (readAs R rd e1).str
      have hz' : (ys.map (·.length)).sum + ys.length * a.length ≤ 16777216 := by omega
      cases x' with
      | lst l =>
        obtain ⟨b, vs, rfl, hq, g⟩ := (readAs R ry e2).lst
        obtain rfl := strs_of g e
        exact mt_join pins s σ H _ _ v us Q I r rs ⟨a, b, ys, rfl, rfl, .inl (SqL.of hq), hz', p3.hereV R (.str _)⟩
      | tup l =>
        obtain ⟨b, vs, rfl, hq, g⟩ := (readAs R ry e2).tup
        obtain rfl := strs_of g e
        exact mt_join pins s σ H _ _ v us Q I r rs ⟨a, b, ys, rfl, rfl, .inr hq, hz', p3.hereV R (.str _)⟩
      | _ => cases e
    · exact p.elim
theorem d_join {o e : Expr} {fo fe : EM} {apos cpos : Pos} (ho : DE X hx o fo) (he : DE X hx e fe) (hbase : attributeBase o "join" X.env (eval o X.env) = eval o X.env := by rfl)
    (hfew : ((backTo cpos (starEach [e] X.env)).all (fun x => !x.1) && (backToKw cpos (keywordEach [] X.env)).all (fun x => x.1.isSome)
      && decide ([e].length + ([] : List Keyword).length + (if ([] : List Keyword).isEmpty then 0 else 1) < 30)) = true := by rfl)
    (hline : (apos.endLine == cpos.line) = true := by rfl) (hs : starEach [e] X.env = (false, eval e X.env) :: starEach [] X.env := by rfl) (hplain : (backTo cpos (starEach [] X.env)).any (·.1) = false := by rfl) :
    DE X hx (.Call (.Attribute o "join" apos) [e] [] cpos) (eM isStr mJoin fo (aCons fe aNil)) :=
  d_m ty_str F.plainAttrs_str F.slot_str_join F.type_str_join met_join ho (da_cons he da_nil hs) hbase hfew hline hs hplain
end
def scr (ns : List Int) : Wt := .d (.fls (ns.map D.int))
theorem rel_none {K : PySem.W.Frag} {H : Hp} : Rel K [] [] H := ⟨rfl, fun n m a h _ => by simp at h, fun n c h => by simp at h⟩
theorem not_live_none {a : Addr} : ¬ Live [] [] a := fun ⟨n, c, h, _⟩ => by simp at h
theorem walk_Y {l : PySem.W.OpenLaw} {n k : Nat} {q : Program} {loose : List Str} {XP : (Str → Option Value) → Heap → Prop} {YP : World → Heap → Prop} {d : DefRec} {x : Str} {F : List Wt → Store → Res Wt}
    (hn : l.most = some n) (hn2 : n ≤ sizeLine) (hdf : d.params.defaults = []) (hr : Room k callerA)
    (Fc : ∀ (w : World) (mg : Str → Option Value) (fa : Addr) (h : Heap), YP w h → h.Ns mainGlobals mg → mg d.name = some (.ref fa) →
      ∃ (K : PySem.W.Frag) (fd : FuncData), K.In h ∧ (∀ (s : Shared) (u : Value), BindsTo s fd ⟨[u], []⟩ [(x, u)]) ∧
        ∀ base : Heap, K.In base → base.Ns mainGlobals mg → FnOk l.prog w K mg base (L2.CX l.prog w) k fa fd [x] (spOf K F))
    (hF : ∀ ns : List Int, ns.length ≤ n → (∀ z ∈ ns, Builtin.Int.intBits z ≤ 1048576) → ∃ S, F [scr ns] [] = .ok (.d (.bl true)) S) :
    PySem.W.WalkO q loose XP YP l.row.toRowW d [] (fun f vs => PySem.call f vs) := by
  refine Att.attach_callB hn hdf fun w s₀ s₁ mg mb fa o pm cd doc a vs ns G Y ho hd hcd hmg hobj hints hlen hbits hg => ?_
  obtain ⟨K, fd, KX, hb, hFn⟩ := Fc w mg fa _ Y G.T.g hmg
  refine law_call (CX := L2.CX l.prog w) KX G.T.g G.T.b G.T.builtins G.T.nolimit hg hobj hints (Nat.le_trans hlen hn2) hr hFn hb (fun H hO hS => ?_) fun H e s' => ?_
  · obtain ⟨S, e⟩ := hF ns hlen hbits
    refine ⟨hx0, [], [], [scr ns], rel_none, .cons ?_ .nil, ?_⟩
    · refine RV.of (.fls ?_ (of_ints ns))
      rcases hS with h | h
      · exact .inl ⟨not_live_none, h⟩
      · exact .inr h
    · rw [e]
      intro A' H' b R T r
      have r : RP K (Live A' S) H' (.bl true) b := r
      cases r
      rfl
  · rintro ⟨a, B, H', cls, d, _, _, _, _, _, _, _, z⟩
    exact z
end Y
end
section
/-! Y15: what the printed texts use. -/
namespace Y
open PySem PySem.Spec PyProof.Rows L2

def fuelW : Nat := 1000000000000000000000000000000
def sBad : SM := fun _ _ _ => .bad
section
variable {X : Cx} {hx : Hx} {apos cpos : Pos} {o e : Expr} {fo fe : EM} {st : Stmt}
theorem ds_never : DS X hx st sBad := ⟨fun W tk => PSimp ps_never fun σ H D ⟨b0, A0, S0, H0, A, S, σd, R0, T, R, E, p⟩ => p.elim⟩
theorem d_app (ho : DE X hx o fo) (he : DE X hx e fe) (hbase : attributeBase o "append" X.env (eval o X.env) = eval o X.env := by rfl)
    (hfew : ((backTo cpos (starEach [e] X.env)).all (fun x => !x.1) && (backToKw cpos (keywordEach [] X.env)).all (fun x => x.1.isSome)
      && decide ([e].length + ([] : List Keyword).length + (if ([] : List Keyword).isEmpty then 0 else 1) < 30)) = true := by rfl)
    (hline : (apos.endLine == cpos.line) = true := by rfl) (hs : starEach [e] X.env = (false, eval e X.env) :: starEach [] X.env := by rfl) (hplain : (backTo cpos (starEach [] X.env)).any (·.1) = false := by rfl) :
    DE X hx (.Call (.Attribute o "append" apos) [e] [] cpos) (eM isLst mApp fo (aCons fe aNil)) :=
  d_m ty_lst F.plainAttrs_list F.slot_list_append F.type_list_append met_app ho (da_cons he da_nil hs) hbase hfew hline hs hplain
theorem d_popAt (ho : DE X hx o fo) (he : DE X hx e fe) (hbase : attributeBase o "pop" X.env (eval o X.env) = eval o X.env := by rfl)
    (hfew : ((backTo cpos (starEach [e] X.env)).all (fun x => !x.1) && (backToKw cpos (keywordEach [] X.env)).all (fun x => x.1.isSome)
      && decide ([e].length + ([] : List Keyword).length + (if ([] : List Keyword).isEmpty then 0 else 1) < 30)) = true := by rfl)
    (hline : (apos.endLine == cpos.line) = true := by rfl) (hs : starEach [e] X.env = (false, eval e X.env) :: starEach [] X.env := by rfl) (hplain : (backTo cpos (starEach [] X.env)).any (·.1) = false := by rfl) :
    DE X hx (.Call (.Attribute o "pop" apos) [e] [] cpos) (eM isLst mPopAt fo (aCons fe aNil)) :=
  d_m ty_lst F.plainAttrs_list F.slot_list_pop F.type_list_pop met_popAt ho (da_cons he da_nil hs) hbase hfew hline hs hplain
theorem d_pop (ho : DE X hx o fo) (hbase : attributeBase o "pop" X.env (eval o X.env) = eval o X.env := by rfl) (hline : (apos.endLine == cpos.line) = true := by rfl) :
    DE X hx (.Call (.Attribute o "pop" apos) [] [] cpos) (eM isLst mPop fo aNil) :=
  d_m0 ty_lst F.plainAttrs_list F.slot_list_pop F.type_list_pop met_pop ho hbase hline
end
theorem fn_bad {P : Program} {w : World} {K : PySem.W.Frag} {mg : Str → Option Value} {base : Heap} {x qual : Str} {params : Arguments} {body : List Stmt} {scope : Scope} {f : Addr} {fd : FuncData} {N ps : List Str} {k : Nat}
    (F : FunD K x qual params body scope [] [] f fd) (Sc : FnScope N ps scope) : FnOk P w K mg base (L2.CX P w) k f fd ps (spOf K fun _ _ => .bad) := by
  have bad : ∀ vs H Q E, spOf K (fun _ _ => .bad) vs H Q E → False := fun vs H Q E ⟨hx, A, S, ds, R, r, p⟩ => p
  have h1 : FnOk P w K mg base (L2.CX P w) (k + 1) f fd ps (spOf K fun _ _ => .bad) := F.ok Sc (fun vs H Q E h => (bad vs H Q E h).elim) fun cdv A outer s H vs Q E hr h => (bad vs H Q E h).elim
  exact ⟨fun vs H Q E h => (bad vs H Q E h).elim, fun A outer s H args us vs Q E hr e0 hb r h => (bad vs H Q E h).elim⟩

/-! ### constants told by the heap -/
mutual
def matchV (K : PySem.W.Frag) : D → Value → Bool
  | .non, .none => true
  | .bl b, .bool c => decide (b = c)
  | .int i, .int j _ => decide (i = j)
  | .str x, .str y _ => decide (x = y)
  | .ty n, .type m => decide (n = m)
  | .tup ds, .ref a => match K.lookup a with
    | some o => (match o.cls with | .type n => decide (n = "tuple") | _ => false) && (match o.data with | .seq its _ => decide (its.size ≤ 1000000) && matchVs K ds its.toList | _ => false)
    | none => false
  | .fls ds, .ref a => match K.lookup a with
    | some o => (match o.cls with | .type n => decide (n = "list") | _ => false) && (match o.dict with | none => true | _ => false) && (match o.data with | .seq its _ => decide (its.size ≤ 1000000) && matchVs K ds its.toList | _ => false)
    | none => false
  | _, _ => false
def matchVs (K : PySem.W.Frag) : List D → List Value → Bool
  | [], [] => true
  | d :: ds, v :: vs => matchV K d v && matchVs K ds vs
  | _, _ => false
end
section
variable {K : PySem.W.Frag}
mutual
theorem matchV_ok : ∀ (d : D) (u : Value), matchV K d u = true → ∃ v, RelV v u ∧ ∀ lv H, RP K lv H d v
  | .non, u, h => by cases u <;> first | (exact ⟨.non, rfl, fun _ _ => .non⟩) | (simp [matchV] at h)
  | .bl b, u, h => by cases u <;> first | (simp [matchV] at h; done) | (simp [matchV] at h; subst h; exact ⟨.bl _, rfl, fun _ _ => .bl _⟩)
  | .int b, u, h => by cases u <;> first | (simp [matchV] at h; done) | (simp [matchV] at h; subst h; exact ⟨.int _, ⟨_, rfl⟩, fun _ _ => .int _⟩)
  | .str b, u, h => by cases u <;> first | (simp [matchV] at h; done) | (simp [matchV] at h; subst h; exact ⟨.str _, ⟨_, rfl⟩, fun _ _ => .str _⟩)
  | .ty b, u, h => by cases u <;> first | (simp [matchV] at h; done) | (simp [matchV] at h; subst h; exact ⟨.ty _, rfl, fun _ _ => .ty _⟩)
  | .tup ds, u, h => by
    cases u with
    | ref a =>
      unfold matchV at h
      cases e : K.lookup a with
      | none => rw [e] at h; cases h
      | some o =>
        rw [e] at h
        obtain ⟨oc, od, dt, sl⟩ := o
        dsimp only at h
        rw [Bool.and_eq_true] at h
        obtain ⟨h1, h2⟩ := h
        cases oc with
        | type n =>
          obtain rfl := of_decide_eq_true h1
          cases dt with
          | seq its n =>
            dsimp only at h2
            rw [Bool.and_eq_true] at h2
            obtain ⟨h3, h4⟩ := h2
            obtain ⟨vs, r, hv⟩ := matchVs_ok ds its.toList h4
            have h3 := of_decide_eq_true h3
            exact ⟨.ref a, rfl, fun lv H => .tup (.inr ⟨_, its, n, e, rfl, rfl, by rw [sizeLine_eq]; omega, r⟩) (hv lv H)⟩
          | _ => cases h2
        | _ => cases h1
    | _ => cases h
  | .fls ds, u, h => by
    cases u with
    | ref a =>
      unfold matchV at h
      cases e : K.lookup a with
      | none => rw [e] at h; cases h
      | some o =>
        rw [e] at h
        obtain ⟨oc, od, dt, sl⟩ := o
        dsimp only at h
        rw [Bool.and_eq_true, Bool.and_eq_true] at h
        obtain ⟨⟨h1, h0⟩, h2⟩ := h
        cases oc with
        | type n =>
          obtain rfl := of_decide_eq_true h1
          cases od with
          | none =>
            cases dt with
            | seq its n =>
              dsimp only at h2
              rw [Bool.and_eq_true] at h2
              obtain ⟨h3, h4⟩ := h2
              obtain ⟨vs, r, hv⟩ := matchVs_ok ds its.toList h4
              have h3 := of_decide_eq_true h3
              exact ⟨.ref a, rfl, fun lv H => .fls (.inr ⟨_, its, n, e, rfl, rfl, rfl, by rw [sizeLine_eq]; omega, r⟩) (hv lv H)⟩
            | _ => cases h2
          | some _ => cases h0
        | _ => cases h1
    | _ => cases h
  | .lst _, u, h => by cases u <;> cases h
  | .dct _ _, u, h => by cases u <;> cases h
  | .gl _, u, h => by cases u <;> cases h
  | .exo _ _ _, u, h => by cases u <;> cases h
theorem matchVs_ok : ∀ (ds : List D) (us : List Value), matchVs K ds us = true → ∃ vs, Vals vs us ∧ ∀ lv H, RPs K lv H ds vs
  | [], us, h => by
    cases us with
    | nil => exact ⟨[], .nil, fun _ _ => .nil⟩
    | cons _ _ => simp [matchVs] at h
  | d :: ds, us, h => by
    cases us with
    | nil => simp [matchVs] at h
    | cons u us =>
      unfold matchVs at h
      rw [Bool.and_eq_true] at h
      obtain ⟨v, r, hv⟩ := matchV_ok d u h.1
      obtain ⟨vs, rs, hvs⟩ := matchVs_ok ds us h.2
      exact ⟨v :: vs, .cons r rs, fun lv H => .cons (hv lv H) (hvs lv H)⟩
end
def konB (K : PySem.W.Frag) (p : Str × D) : Bool := match PySem.W.nsIn K mainGlobals p.1 with
  | some (some u) => matchV K p.2 u
  | _ => false
def gcdB (K : PySem.W.Frag) (x : Str) : Bool := match PySem.W.nsIn K mainGlobals x with
  | some (some (.builtin n)) => decide (n = "math.gcd")
  | _ => false
theorem konB_ok {h : Heap} {mg : Str → Option Value} (X : K.In h) (G : h.Ns mainGlobals mg) {p : Str × D} (c : konB K p = true) : ∃ u v, mg p.1 = some u ∧ RelV v u ∧ ∀ lv H, RP K lv H p.2 v := by
  unfold konB at c
  split at c
  · rename_i u e
    obtain ⟨v, r, hv⟩ := matchV_ok _ _ c
    exact ⟨u, v, PySem.W.mg_of X G e, r, hv⟩
  · cases c
theorem gcdB_ok {h : Heap} {mg : Str → Option Value} (X : K.In h) (G : h.Ns mainGlobals mg) {x : Str} (c : gcdB K x = true) : mg x = some (.builtin "math.gcd") := by
  unfold gcdB at c
  split at c
  · rename_i n e
    obtain rfl := of_decide_eq_true c
    exact PySem.W.mg_of X G e
  · cases c
end
end Y
end
section
/-! Y16: reckoning with the D functions. -/
namespace Y
open PySem PySem.Spec PyProof.Rows L2

@[simp] theorem lim_eq : lim = 10000000 := rfl
/-- a text's signs -/
def cl (x : Str) : List Nat := x.cps.toList
section
variable {α β : Type} {a : α} {S : Store} {σ : Ev}
@[simp] theorem ok_bind {f : α → Store → Res β} : (Res.ok a S).bind f = f a S := id rfl
@[simp] theorem exc_bind {f : α → Store → Res β} {C ns l} : (Res.exc C ns l S).bind f = .exc C ns l S := id rfl
@[simp] theorem bad_bind {f : α → Store → Res β} : (Res.bad : Res α).bind f = .bad := id rfl
@[simp] theorem ok_toS {k : α → Store → SR} : (Res.ok a S).toS σ k = k a S := id rfl
@[simp] theorem exc_toS {k : α → Store → SR} {C ns l} : (Res.exc C ns l S).toS σ k = .exc C ns l σ S := id rfl
@[simp] theorem bad_toS {k : α → Store → SR} : (Res.bad : Res α).toS σ k = .bad := id rfl
end
section
variable {σ : Ev} {S : Store} {b n i j : Nat} {f g h : SM} {e fa fb fc : EM} {t u : TM} {op op' : Wt → Wt → Store → Res Wt} {ga gb : AM} {d : D} {w : Wt} {F : List Wt → Store → Res Wt} {x y : Str} {k m : Int} {l l' : List D}
@[simp] theorem eVar_ap : eVar i σ S = (match σ[i]? with | some (some d) => .ok d S | _ => .bad) := id rfl
@[simp] theorem eC_ap : eC d σ S = .ok (.d d) S := id rfl
@[simp] theorem eOp_ap : eOp op fa fb σ S = (fa σ S).bind fun x S1 => (fb σ S1).bind fun y S2 => op x y S2 := id rfl
@[simp] theorem eUn_ap {o : Wt → Store → Res Wt} : eUn o fa σ S = (fa σ S).bind fun x S1 => o x S1 := id rfl
@[simp] theorem eB_ap : eB F ga σ S = (ga σ S).bind fun ds S1 => F ds S1 := id rfl
@[simp] theorem aNil_ap : aNil σ S = .ok [] S := id rfl
@[simp] theorem aCons_ap : aCons fa ga σ S = (fa σ S).bind fun d S1 => (ga σ S1).bind fun ds S2 => .ok (d :: ds) S2 := id rfl
@[simp] theorem eCK_ap {p q : Nat} {perm : List Nat} : eCK F p q perm ga gb σ S = (ga σ S).bind fun ds S1 => (gb σ S1).bind fun es S2 => if ds.length = p ∧ es.length = q then F (pick perm (ds ++ es)) S2 else .bad := id rfl
@[simp] theorem tBl_ap : tBl e σ S = (e σ S).bind asB := id rfl
@[simp] theorem asB_ap {c : Bool} : asB (.d (.bl c)) S = .ok c S := id rfl
@[simp] theorem tNot_ap : tNot t σ S = (t σ S).bind fun b S1 => .ok (!b) S1 := id rfl
@[simp] theorem tAnd_ap : tAnd t u σ S = (t σ S).bind fun b S1 => if b = true then u σ S1 else .ok false S1 := id rfl
@[simp] theorem tOr_ap : tOr t u σ S = (t σ S).bind fun b S1 => if b = true then .ok true S1 else u σ S1 := id rfl
@[simp] theorem tTru_ap : tTru e σ S = (e σ S).bind fun d S1 => (truth d S1).bind fun b S2 => .ok b S2 := id rfl
@[simp] theorem tYs_ap : tYs σ S = .ok true S := id rfl
@[simp] theorem eAnd_ap : eAnd fa fb σ S = (fa σ S).bind fun d S1 => (truth d S1).bind fun b S2 => if b = true then fb σ S2 else .ok d S2 := id rfl
@[simp] theorem eOr_ap : eOr fa fb σ S = (fa σ S).bind fun d S1 => (truth d S1).bind fun b S2 => if b = true then .ok d S2 else fb σ S2 := id rfl
@[simp] theorem eNot_ap : eNot fa σ S = (fa σ S).bind fun d S1 => (truth d S1).bind fun b S2 => .ok (.d (.bl (!b))) S2 := id rfl
@[simp] theorem eIf_ap : eIf t fa fb σ S = (t σ S).bind fun b S1 => if b = true then fa σ S1 else fb σ S1 := id rfl
@[simp] theorem eChain_ap : eChain op op' fa fb fc σ S = (fa σ S).bind fun x S1 => (fb σ S1).bind fun y S2 => (op x y S2).bind fun z S3 => (asB z S3).bind fun k S4 => if k = true then (fc σ S4).bind fun w S5 => op' y w S5 else .ok (.d (.bl false)) S4 := id rfl
@[simp] theorem eTup_ap : eTup ga σ S = (ga σ S).bind fun ds S1 => (fzs S1 ds).bind fun l S2 => mkSeq true l S2 := id rfl
@[simp] theorem eLst_ap : eLst ga σ S = (ga σ S).bind fun ds S1 => (fzs S1 ds).bind fun l S2 => mkSeq false l S2 := id rfl
@[simp] theorem eLstL_ap : eLstL ga σ S = (ga σ S).bind fun ds S1 => (fzs S1 ds).bind fun l S2 => if l.length ≤ lim then .ok (.loc S2.length) (S2 ++ [.lst l]) else .bad := id rfl
@[simp] theorem eM_ap {ok : Wt → Store → Bool} {o : Wt → List Wt → Store → Res Wt} : eM ok o fa ga σ S = (fa σ S).bind fun x S1 => if ok x S1 = true then (ga σ S1).bind fun ds S2 => o x ds S2 else .bad := id rfl
@[simp] theorem eSl_ap {o : Wt → Option Int → Option Int → Store → Res Wt} {fl fh : OM} : eSl o fa fl fh σ S = (fa σ S).bind fun d S1 => (fl σ S1).bind fun lo S2 => (fh σ S2).bind fun hi S3 => o d lo hi S3 := id rfl
@[simp] theorem oNone_ap : oNone σ S = .ok none S := id rfl
@[simp] theorem oSome_ap : oSome e σ S = (e σ S).bind asI := id rfl
@[simp] theorem asI_ap : asI (.d (.int k)) S = .ok (some k) S := id rfl
@[simp] theorem sSeq_ap : sSeq f g b σ S = (match f b σ S with | .nx σ' S' => g b σ' S' | r => r) := id rfl
@[simp] theorem sNext_ap : sNext b σ S = .nx σ S := id rfl
@[simp] theorem sBad_ap : sBad b σ S = .bad := id rfl
@[simp] theorem sExpr_ap : sExpr e b σ S = (e σ S).toS σ fun _ S' => .nx σ S' := id rfl
@[simp] theorem sRet_ap : sRet e b σ S = (e σ S).toS σ fun d S' => .rt d S' := id rfl
@[simp] theorem sRetN_ap : sRetN b σ S = .rt (.d .non) S := id rfl
@[simp] theorem sSet_ap : sSet i e b σ S = (e σ S).toS σ fun d S' => .nx (σ.set i (some d)) S' := id rfl
@[simp] theorem sIf_ap : sIf t f g b σ S = (t σ S).toS σ fun k S' => if k = true then f b σ S' else g b σ S' := id rfl
@[simp] theorem sBreak_ap : sBreak b σ S = .bk σ S := id rfl
@[simp] theorem sCont_ap : sCont b σ S = .ct σ S := id rfl
@[simp] theorem sPar_ap : sPar i j ga b σ S = (ga σ S).toS σ fun ds S1 => match ds with
  | [d, e] => .nx ((σ.set i (some d)).set j (some e)) S1
  | _ => .bad := id rfl
@[simp] theorem sPar3_ap : sPar3 i j n ga b σ S = (ga σ S).toS σ fun ds S1 => match ds with
  | [d, e, h] => .nx (((σ.set i (some d)).set j (some e)).set n (some h)) S1
  | _ => .bad := id rfl
@[simp] theorem sAsg_ap {q : GM} : sAsg q e b σ S = (e σ S).toS σ fun d S1 => (q d σ S1).toS σ fun σ2 S2 => .nx σ2 S2 := id rfl
@[simp] theorem gN_ap : gN i w σ S = .ok (σ.set i (some w)) S := id rfl
@[simp] theorem gT_ap {h : GMs} : gT n h (.d (.tup l)) σ S = if l.length = n then h (l.map Wt.d) σ S else .bad := id rfl
@[simp] theorem gN0_ap : gN0 [] σ S = .ok σ S := id rfl
@[simp] theorem gN1_ap {q : GM} {h : GMs} {ws : List Wt} : gN1 q h (w :: ws) σ S = (q w σ S).bind fun σ1 S1 => h ws σ1 S1 := id rfl
@[simp] theorem sFor_ap {p : IM} {q : GM} : sFor p q f b σ S = (p σ S).toS σ fun ds S1 => forN q f ds b σ S1 := id rfl
@[simp] theorem iVal_ap : iVal e σ S = (e σ S).bind fun d S1 => (fz1 S1 d).bind fun x S2 => optI S2 (itemsOf x) := id rfl
@[simp] theorem optI_ap : optI S (some l) = .ok l S := id rfl
@[simp] theorem fz1_d : fz1 S (.d d) = .ok d S := id rfl
@[simp] theorem fzs_nil : fzs S [] = .ok [] S := id rfl
@[simp] theorem fzs_cons {ws : List Wt} : fzs S (w :: ws) = (fz1 S w).bind fun d' S1 => (fzs S1 ws).bind fun ds' S2 => .ok (d' :: ds') S2 := id rfl
@[simp] theorem mkT : mkSeq true l S = if l.length ≤ lim then .ok (.d (.tup l)) S else .bad := id rfl
@[simp] theorem mkL : mkSeq false l S = if l.length ≤ lim then .ok (.d (.lst l)) S else .bad := id rfl
@[simp] theorem deref_d : deref S (.d d) = some d := id rfl
@[simp] theorem truth_bl {c : Bool} : truth (.d (.bl c)) S = .ok c S := id rfl
@[simp] theorem truth_int : truth (.d (.int k)) S = .ok (k != 0) S := id rfl
@[simp] theorem add_int : opAdd (.d (.int k)) (.d (.int m)) S = .ok (.d (.int (k + m))) S := id rfl
@[simp] theorem add_str : opAdd (.d (.str x)) (.d (.str y)) S = if x.length + y.length ≤ lim then .ok (.d (.str (x ++ y))) S else .bad := id rfl
@[simp] theorem add_tup : opAdd (.d (.tup l)) (.d (.tup l')) S = if l.length + l'.length ≤ lim then .ok (.d (.tup (l ++ l'))) S else .bad := id rfl
@[simp] theorem add_lst : opAdd (.d (.lst l)) (.d (.lst l')) S = if l.length + l'.length ≤ lim then .ok (.d (.lst (l ++ l'))) S else .bad := id rfl
@[simp] theorem sub_int : opSub (.d (.int k)) (.d (.int m)) S = .ok (.d (.int (k - m))) S := id rfl
@[simp] theorem mul_int : opMul (.d (.int k)) (.d (.int m)) S = if mulOk k m then .ok (.d (.int (k * m))) S else .bad := id rfl
@[simp] theorem mul_str : opMul (.d (.str x)) (.d (.int m)) S = if 0 ≤ m ∧ m ≤ 1000 ∧ x.length ≤ 1000 then .ok (.d (.str (Txt.mul x m))) S else .bad := id rfl
@[simp] theorem fdiv_int : opFdiv (.d (.int k)) (.d (.int m)) S = if m ≠ 0 ∧ m.natAbs.log2 < 9000 then .ok (.d (.int (k.fdiv m))) S else .bad := id rfl
@[simp] theorem mod_int : opMod (.d (.int k)) (.d (.int m)) S = if m ≠ 0 then .ok (.d (.int (k.fmod m))) S else .bad := id rfl
@[simp] theorem neg_int : opNeg (.d (.int k)) S = .ok (.d (.int (-k))) S := id rfl
@[simp] theorem lt_int : opLt (.d (.int k)) (.d (.int m)) S = .ok (.d (.bl (decide (k < m)))) S := id rfl
@[simp] theorem le_int : opLe (.d (.int k)) (.d (.int m)) S = .ok (.d (.bl (decide (k ≤ m)))) S := id rfl
@[simp] theorem gt_int : opGt (.d (.int k)) (.d (.int m)) S = .ok (.d (.bl (decide (k > m)))) S := id rfl
@[simp] theorem ge_int : opGe (.d (.int k)) (.d (.int m)) S = .ok (.d (.bl (decide (k ≥ m)))) S := id rfl
theorem beqd {α : Type} [BEq α] [LawfulBEq α] [DecidableEq α] {a b : α} : (a == b) = decide (a = b) := by
  by_cases h : a = b
  · subst h; simp
  · rw [decide_eq_false h]; simpa using h
theorem deq_int : deq (.int k) (.int m) = decide (k = m) := by simp [deq, toPy, PyData.eqv, beqd]
theorem deq_str : deq (.str x) (.str y) = decide (x = y) := by simp [deq, toPy, PyData.eqv, beqd]
theorem deq_bl {c c' : Bool} : deq (.bl c) (.bl c') = decide (c = c') := by simp [deq, toPy, PyData.eqv, beqd]
@[simp] theorem eq_int : opEq false (.d (.int k)) (.d (.int m)) S = .ok (.d (.bl (decide (k = m)))) S := by simp [opEq, eqOk, D.scal, deq_int]
@[simp] theorem ne_int : opEq true (.d (.int k)) (.d (.int m)) S = .ok (.d (.bl (!decide (k = m)))) S := by simp [opEq, eqOk, D.scal, deq_int]
@[simp] theorem eq_str : opEq false (.d (.str x)) (.d (.str y)) S = .ok (.d (.bl (decide (x = y)))) S := by simp [opEq, eqOk, D.scal, deq_str]
@[simp] theorem ne_str : opEq true (.d (.str x)) (.d (.str y)) S = .ok (.d (.bl (!decide (x = y)))) S := by simp [opEq, eqOk, D.scal, deq_str]
@[simp] theorem eq_bl {c c' : Bool} : opEq false (.d (.bl c)) (.d (.bl c')) S = .ok (.d (.bl (decide (c = c')))) S := by simp [opEq, eqOk, D.scal, deq_bl]
@[simp] theorem ne_bl {c c' : Bool} : opEq true (.d (.bl c)) (.d (.bl c')) S = .ok (.d (.bl (!decide (c = c')))) S := by simp [opEq, eqOk, D.scal, deq_bl]
@[simp] theorem ix_tup : opIx (.d (.tup l)) (.d (.int k)) S = optR S (atI l k) := id rfl
@[simp] theorem ix_lst : opIx (.d (.lst l)) (.d (.int k)) S = optR S (atI l k) := id rfl
@[simp] theorem ix_fls : opIx (.d (.fls l)) (.d (.int k)) S = optR S (atI l k) := id rfl
@[simp] theorem ix_str : opIx (.d (.str x)) (.d (.int k)) S = if x.length ≤ lim then optR S ((atI (cl x) k).map fun c => .str ⟨#[c]⟩) else .bad := id rfl
@[simp] theorem optR_some : optR S (some d) = .ok (.d d) S := id rfl
@[simp] theorem sl_str {lo hi : Option Int} : opSl (.d (.str x)) lo hi S = if x.length ≤ lim then .ok (.d (.str (cutS x lo hi))) S else .bad := id rfl
@[simp] theorem sl_tup {lo hi : Option Int} : opSl (.d (.tup l)) lo hi S = .ok (.d (.tup (cutD l lo hi))) S := id rfl
@[simp] theorem sl_lst {lo hi : Option Int} : opSl (.d (.lst l)) lo hi S = .ok (.d (.lst (cutD l lo hi))) S := id rfl
@[simp] theorem len_str : bLen [.d (.str x)] S = if x.length ≤ lim then .ok (.d (.int x.length)) S else .bad := id rfl
@[simp] theorem len_tup : bLen [.d (.tup l)] S = .ok (.d (.int l.length)) S := id rfl
@[simp] theorem len_lst : bLen [.d (.lst l)] S = .ok (.d (.int l.length)) S := id rfl
@[simp] theorem len_fls : bLen [.d (.fls l)] S = .ok (.d (.int l.length)) S := id rfl
@[simp] theorem abs_int : bAbs [.d (.int k)] S = .ok (.d (.int (if k < 0 then -k else k))) S := id rfl
@[simp] theorem int_int : bInt [.d (.int k)] S = .ok (.d (.int k)) S := id rfl
@[simp] theorem int_bl {c : Bool} : bInt [.d (.bl c)] S = .ok (.d (.int (if c then 1 else 0))) S := id rfl
@[simp] theorem max_int : bMax [.d (.int k), .d (.int m)] S = .ok (.d (.int (if m > k then m else k))) S := id rfl
@[simp] theorem min_int : bMin [.d (.int k), .d (.int m)] S = .ok (.d (.int (if m < k then m else k))) S := id rfl
@[simp] theorem tuple_lst : bTuple [.d (.lst l)] S = .ok (.d (.tup l)) S := id rfl
@[simp] theorem tuple_tup : bTuple [.d (.tup l)] S = .ok (.d (.tup l)) S := id rfl
@[simp] theorem list_lst : bList [.d (.lst l)] S = .ok (.d (.lst l)) S := id rfl
@[simp] theorem list_tup : bList [.d (.tup l)] S = .ok (.d (.lst l)) S := id rfl
@[simp] theorem str_int : bStr [.d (.int k)] S = if k.natAbs.log2 < 1920 then .ok (.d (.str (toString k))) S else .bad := id rfl
/-- what range says of its arguments -/
def rg1 (ds : List Wt) (S : Store) : Res (List D) := match ds with
  | [.d (.int j)] => if -(2 ^ 62) ≤ j ∧ j < 2 ^ 62 then .ok (rng 0 j.toNat) S else .bad
  | _ => .bad
def rg2 (ds : List Wt) (S : Store) : Res (List D) := match ds with
  | [.d (.int i), .d (.int j)] => if -(2 ^ 62) ≤ i ∧ i < 2 ^ 62 ∧ -(2 ^ 62) ≤ j ∧ j < 2 ^ 62 then .ok (rng i (j - i).toNat) S else .bad
  | _ => .bad
@[simp] theorem rng1_ap : iRng1 ga σ S = (ga σ S).bind rg1 := id rfl
@[simp] theorem rng2_ap : iRng2 ga σ S = (ga σ S).bind rg2 := id rfl
theorem rg1_int {j : Int} (h0 : -100000000 ≤ j) (h : j ≤ 100000000) : rg1 [.d (.int j)] S = .ok (rng 0 j.toNat) S := if_pos ⟨by omega, by omega⟩
theorem rg1_nat {j : Nat} (h : j ≤ 100000000) : rg1 [.d (.int (j : Int))] S = .ok (rng 0 j) S := rg1_int (by omega) (by omega)
theorem rg2_int {i j : Int} (h0 : -100000000 ≤ j) (h : j ≤ 100000000) (g0 : -100000000 ≤ i) (g : i ≤ 100000000) : rg2 [.d (.int i), .d (.int j)] S = .ok (rng i (j - i).toNat) S := if_pos ⟨by omega, by omega, by omega, by omega⟩
theorem ix_loc {N : Nat} (e : S[N]? = some (.lst l)) : opIx (.loc N) (.d (.int k)) S = optR S (atI l k) := by simp [opIx, deref, e, cellD]
theorem len_loc {N : Nat} (e : S[N]? = some (.lst l)) : bLen [.loc N] S = .ok (.d (.int l.length)) S := by simp [bLen, f1, deref, e, cellD]
theorem set_loc {N j : Nat} (e : S[N]? = some (.lst l)) (hj : ixN l.length k = some j) : setC (.loc N) (.d (.int k)) (.d d) S = .ok () (S.set N (.lst (l.set j d))) := by simp [setC, e, putC, hj]
theorem app_loc {N : Nat} (e : S[N]? = some (.lst l)) (hl : l.length < lim) : mApp (.loc N) [.d d] S = .ok (.d .non) (S.set N (.lst (l ++ [d]))) := by
  simp only [lim_eq] at hl
  simp [mApp, e, appC, hl]
theorem isLst_loc {N : Nat} (e : S[N]? = some (.lst l)) : isLst (.loc N) S = true := by simp [isLst, deref, e, cellD]
theorem tuple_loc {N : Nat} (e : S[N]? = some (.lst l)) : bTuple [.loc N] S = .ok (.d (.tup l)) S := by simp [bTuple, f1, deref, e, cellD]
@[simp] theorem isStr_d : isStr (.d (.str x)) S = true := id rfl
@[simp] theorem noEx_ok {α : Type} {a : α} : noEx (.ok a S) = .ok a S := id rfl
@[simp] theorem gSb_ap : gSb fa fb w σ S = noEx ((fa σ S).bind fun o S1 => (fb σ S1).bind fun i S2 => (setC o i w S2).bind fun _ S3 => .ok σ S3) := id rfl
@[simp] theorem take_self : S.take S.length = S := List.take_length
@[simp] theorem take_set {N : Nat} {c : Cell} : (S.set N c).take S.length = S.set N c := by
  have : (S.set N c).length = S.length := by simp
  rw [← this, List.take_length]
theorem take_new {T : Store} : (S ++ T).take S.length = S := by simp
@[simp] theorem sWhile_ap {N : Nat} : sWhile N t f b σ S = whileN t f N b σ S := id rfl
theorem while_turn {N : Nat} (hN : 0 < N) : whileN t f N b σ S = (t σ S).toS σ fun k S1 => if k = true then (match f b σ S1 with
    | .nx σd' S' => whileN t f (N - 1) b σd' S'
    | .ct σd' S' => whileN t f (N - 1) b σd' S'
    | .bk σd' S' => .nx σd' S'
    | r => r) else .nx σ S1 := by
  cases N with
  | zero => omega
  | succ N => rfl
/-- a def's call -/
theorem mkFn_eq {N M : Nat} {ds : List Wt} : mkFn N M f ds S = if ds.length = N then finish S.length (f S.length (ds.map some ++ List.replicate (M - N) none) S) else .bad := id rfl
@[simp] theorem fin_d : finish b (.rt (.d d) S) = .ok (.d d) (S.take b) := id rfl
@[simp] theorem fin_nx : finish b (.nx σ S) = .ok (.d .non) (S.take b) := id rfl
end
@[simp] theorem in_int : tyK.contains "int" = true := by decide
@[simp] theorem in_bool : tyK.contains "bool" = true := by decide
@[simp] theorem in_str : tyK.contains "str" = true := by decide
@[simp] theorem in_tuple : tyK.contains "tuple" = true := by decide
@[simp] theorem in_list : tyK.contains "list" = true := by decide
@[simp] theorem in_dict : tyK.contains "dict" = true := by decide
@[simp] theorem mem_int : "int" ∈ tyK := by decide
@[simp] theorem mem_bool : "bool" ∈ tyK := by decide
@[simp] theorem mem_str : "str" ∈ tyK := by decide
@[simp] theorem mem_tuple : "tuple" ∈ tyK := by decide
@[simp] theorem mem_list : "list" ∈ tyK := by decide
@[simp] theorem mem_dict : "dict" ∈ tyK := by decide
@[simp] theorem isT_NoneType_int : isT "NoneType" "int" = false := by decide
@[simp] theorem isT_NoneType_bool : isT "NoneType" "bool" = false := by decide
@[simp] theorem isT_NoneType_str : isT "NoneType" "str" = false := by decide
@[simp] theorem isT_NoneType_tuple : isT "NoneType" "tuple" = false := by decide
@[simp] theorem isT_NoneType_list : isT "NoneType" "list" = false := by decide
@[simp] theorem isT_NoneType_dict : isT "NoneType" "dict" = false := by decide
@[simp] theorem isT_bool_int : isT "bool" "int" = true := by decide
@[simp] theorem isT_bool_bool : isT "bool" "bool" = true := by decide
@[simp] theorem isT_bool_str : isT "bool" "str" = false := by decide
@[simp] theorem isT_bool_tuple : isT "bool" "tuple" = false := by decide
@[simp] theorem isT_bool_list : isT "bool" "list" = false := by decide
@[simp] theorem isT_bool_dict : isT "bool" "dict" = false := by decide
@[simp] theorem isT_int_int : isT "int" "int" = true := by decide
@[simp] theorem isT_int_bool : isT "int" "bool" = false := by decide
@[simp] theorem isT_int_str : isT "int" "str" = false := by decide
@[simp] theorem isT_int_tuple : isT "int" "tuple" = false := by decide
@[simp] theorem isT_int_list : isT "int" "list" = false := by decide
@[simp] theorem isT_int_dict : isT "int" "dict" = false := by decide
@[simp] theorem isT_str_int : isT "str" "int" = false := by decide
@[simp] theorem isT_str_bool : isT "str" "bool" = false := by decide
@[simp] theorem isT_str_str : isT "str" "str" = true := by decide
@[simp] theorem isT_str_tuple : isT "str" "tuple" = false := by decide
@[simp] theorem isT_str_list : isT "str" "list" = false := by decide
@[simp] theorem isT_str_dict : isT "str" "dict" = false := by decide
@[simp] theorem isT_tuple_int : isT "tuple" "int" = false := by decide
@[simp] theorem isT_tuple_bool : isT "tuple" "bool" = false := by decide
@[simp] theorem isT_tuple_str : isT "tuple" "str" = false := by decide
@[simp] theorem isT_tuple_tuple : isT "tuple" "tuple" = true := by decide
@[simp] theorem isT_tuple_list : isT "tuple" "list" = false := by decide
@[simp] theorem isT_tuple_dict : isT "tuple" "dict" = false := by decide
@[simp] theorem isT_list_int : isT "list" "int" = false := by decide
@[simp] theorem isT_list_bool : isT "list" "bool" = false := by decide
@[simp] theorem isT_list_str : isT "list" "str" = false := by decide
@[simp] theorem isT_list_tuple : isT "list" "tuple" = false := by decide
@[simp] theorem isT_list_list : isT "list" "list" = true := by decide
@[simp] theorem isT_list_dict : isT "list" "dict" = false := by decide
@[simp] theorem isT_dict_int : isT "dict" "int" = false := by decide
@[simp] theorem isT_dict_bool : isT "dict" "bool" = false := by decide
@[simp] theorem isT_dict_str : isT "dict" "str" = false := by decide
@[simp] theorem isT_dict_tuple : isT "dict" "tuple" = false := by decide
@[simp] theorem isT_dict_list : isT "dict" "list" = false := by decide
@[simp] theorem isT_dict_dict : isT "dict" "dict" = true := by decide
theorem asTys2 {n m : String} (hn : tyK.contains n = true) (hm : tyK.contains m = true) : asTys [.ty n, .ty m] = some [n, m] := by
  simp only [asTys, if_pos hn, if_pos hm, Option.map_some]
@[simp] theorem isi_non {n : String} {S : Store} : bIsi [.d (.non), .d (.ty n)] S = if tyK.contains n = true then .ok (.d (.bl (isT "NoneType" n))) S else .bad := id rfl
@[simp] theorem isi2_non {n m : String} {S : Store} (hn : tyK.contains n = true) (hm : tyK.contains m = true) : bIsi [.d (.non), .d (.tup [.ty n, .ty m])] S = .ok (.d (.bl (isT "NoneType" n || isT "NoneType" m))) S := by simp [bIsi, f2, tyN, asTys2 hn hm]
@[simp] theorem isi_bl {n : String} {c : Bool} {S : Store} : bIsi [.d (.bl c), .d (.ty n)] S = if tyK.contains n = true then .ok (.d (.bl (isT "bool" n))) S else .bad := id rfl
@[simp] theorem isi2_bl {n m : String} {c : Bool} {S : Store} (hn : tyK.contains n = true) (hm : tyK.contains m = true) : bIsi [.d (.bl c), .d (.tup [.ty n, .ty m])] S = .ok (.d (.bl (isT "bool" n || isT "bool" m))) S := by simp [bIsi, f2, tyN, asTys2 hn hm]
@[simp] theorem isi_int {n : String} {k : Int} {S : Store} : bIsi [.d (.int k), .d (.ty n)] S = if tyK.contains n = true then .ok (.d (.bl (isT "int" n))) S else .bad := id rfl
@[simp] theorem isi2_int {n m : String} {k : Int} {S : Store} (hn : tyK.contains n = true) (hm : tyK.contains m = true) : bIsi [.d (.int k), .d (.tup [.ty n, .ty m])] S = .ok (.d (.bl (isT "int" n || isT "int" m))) S := by simp [bIsi, f2, tyN, asTys2 hn hm]
@[simp] theorem isi_str {n : String} {x : Str} {S : Store} : bIsi [.d (.str x), .d (.ty n)] S = if tyK.contains n = true then .ok (.d (.bl (isT "str" n))) S else .bad := id rfl
@[simp] theorem isi2_str {n m : String} {x : Str} {S : Store} (hn : tyK.contains n = true) (hm : tyK.contains m = true) : bIsi [.d (.str x), .d (.tup [.ty n, .ty m])] S = .ok (.d (.bl (isT "str" n || isT "str" m))) S := by simp [bIsi, f2, tyN, asTys2 hn hm]
@[simp] theorem isi_tup {n : String} {l : List D} {S : Store} : bIsi [.d (.tup l), .d (.ty n)] S = if tyK.contains n = true then .ok (.d (.bl (isT "tuple" n))) S else .bad := id rfl
@[simp] theorem isi2_tup {n m : String} {l : List D} {S : Store} (hn : tyK.contains n = true) (hm : tyK.contains m = true) : bIsi [.d (.tup l), .d (.tup [.ty n, .ty m])] S = .ok (.d (.bl (isT "tuple" n || isT "tuple" m))) S := by simp [bIsi, f2, tyN, asTys2 hn hm]
@[simp] theorem isi_lst {n : String} {l : List D} {S : Store} : bIsi [.d (.lst l), .d (.ty n)] S = if tyK.contains n = true then .ok (.d (.bl (isT "list" n))) S else .bad := id rfl
@[simp] theorem isi2_lst {n m : String} {l : List D} {S : Store} (hn : tyK.contains n = true) (hm : tyK.contains m = true) : bIsi [.d (.lst l), .d (.tup [.ty n, .ty m])] S = .ok (.d (.bl (isT "list" n || isT "list" m))) S := by simp [bIsi, f2, tyN, asTys2 hn hm]
@[simp] theorem isi_fls {n : String} {l : List D} {S : Store} : bIsi [.d (.fls l), .d (.ty n)] S = if tyK.contains n = true then .ok (.d (.bl (isT "list" n))) S else .bad := id rfl
@[simp] theorem isi2_fls {n m : String} {l : List D} {S : Store} (hn : tyK.contains n = true) (hm : tyK.contains m = true) : bIsi [.d (.fls l), .d (.tup [.ty n, .ty m])] S = .ok (.d (.bl (isT "list" n || isT "list" m))) S := by simp [bIsi, f2, tyN, asTys2 hn hm]
@[simp] theorem isi_dct {n : String} {l : List D} {ks : List Key} {S : Store} : bIsi [.d (.dct ks l), .d (.ty n)] S = if tyK.contains n = true then .ok (.d (.bl (isT "dict" n))) S else .bad := id rfl
@[simp] theorem isi2_dct {n m : String} {l : List D} {ks : List Key} {S : Store} (hn : tyK.contains n = true) (hm : tyK.contains m = true) : bIsi [.d (.dct ks l), .d (.tup [.ty n, .ty m])] S = .ok (.d (.bl (isT "dict" n || isT "dict" m))) S := by simp [bIsi, f2, tyN, asTys2 hn hm]
section
variable {S : Store} {b c : Bool} {neg : Bool} {k : Int} {x : Str} {l : List D} {ks : List Key}
@[simp] theorem is_non : opIs neg (.d .non) (.d .non) S = .ok (.d (.bl (!neg))) S := id rfl
@[simp] theorem is_bl_non : opIs neg (.d (.bl b)) (.d .non) S = .ok (.d (.bl neg)) S := id rfl
@[simp] theorem is_int_non : opIs neg (.d (.int k)) (.d .non) S = .ok (.d (.bl neg)) S := id rfl
@[simp] theorem is_str_non : opIs neg (.d (.str x)) (.d .non) S = .ok (.d (.bl neg)) S := id rfl
@[simp] theorem is_tup_non : opIs neg (.d (.tup l)) (.d .non) S = .ok (.d (.bl neg)) S := id rfl
@[simp] theorem is_lst_non : opIs neg (.d (.lst l)) (.d .non) S = .ok (.d (.bl neg)) S := id rfl
@[simp] theorem is_dct_non : opIs neg (.d (.dct ks l)) (.d .non) S = .ok (.d (.bl neg)) S := id rfl
@[simp] theorem is_bl : opIs neg (.d (.bl b)) (.d (.bl c)) S = .ok (.d (.bl (if neg then !(b == c) else b == c))) S := id rfl
end
end Y
end
section
/-! Y17: loops and comprehensions reckoned. -/
namespace Y
open PySem PySem.Spec PyProof.Rows L2
section
variable {g : GM} {t : TM} {e : EM} {σw : Ev} {n b : Nat} {f : SM}
theorem lcN_keep {d y : D} {ds : List D} {acc : List D} {σ2 : Ev} {S S' S2 S3 : Store} {J : Store} (hn : S'.length = n) (h1 : g (.d d) σw S = .ok σ2 S2) (h2 : t σ2 S2 = .ok true S3) (h3 : e σ2 S3 = .ok (.d y) (S' ++ .lst acc :: J)) (hl : acc.length < lim) :
    lcN g t e σw n (d :: ds) S = lcN g t e σw n ds (S' ++ [.lst (acc ++ [y])]) := by
  have h4 : (S' ++ .lst acc :: J)[n]? = some (.lst acc) := by rw [List.getElem?_append_right (by omega), hn, Nat.sub_self]; rfl
  have h5 : ((S' ++ .lst acc :: J).set n (.lst (acc ++ [y]))).take (n + 1) = S' ++ [.lst (acc ++ [y])] := by
    rw [List.set_append_right _ _ (by omega), hn, Nat.sub_self, List.set_cons_zero, List.take_append, hn]
    simp [List.take_of_length_le (Nat.le_of_lt (show S'.length < n + 1 by omega))]
  simp only [lcN, h1, h2, h3, fz1_d, h4, addC, if_pos hl, h5]
theorem lcN_skip {d : D} {ds : List D} {acc : List D} {σ2 : Ev} {S S' S2 : Store} {J : Store} (hn : S'.length = n) (h1 : g (.d d) σw S = .ok σ2 S2) (h2 : t σ2 S2 = .ok false (S' ++ .lst acc :: J)) :
    lcN g t e σw n (d :: ds) S = lcN g t e σw n ds (S' ++ [.lst acc]) := by
  have h5 : (S' ++ .lst acc :: J).take (n + 1) = S' ++ [.lst acc] := by
    rw [List.take_append, hn]
    simp [List.take_of_length_le (Nat.le_of_lt (show S'.length < n + 1 by omega))]
  simp only [lcN, h1, h2, h5]
theorem lc_map (h : D → D) : ∀ (ds acc : List D) (S : Store), S.length = n → (∀ d ∈ ds, ∀ acc', ∃ σ2, g (.d d) σw (S ++ [.lst acc']) = .ok σ2 (S ++ [.lst acc']) ∧ t σ2 (S ++ [.lst acc']) = .ok true (S ++ [.lst acc']) ∧ e σ2 (S ++ [.lst acc']) = .ok (.d (h d)) (S ++ [.lst acc'])) →
    acc.length + ds.length ≤ lim → lcN g t e σw n ds (S ++ [.lst acc]) = some (S ++ [.lst (acc ++ ds.map h)])
  | [], acc, S, hn, _, _ => by simp [lcN]
  | d :: ds, acc, S, hn, hd, hl => by
    obtain ⟨σ2, h1, h2, h3⟩ := hd d (List.mem_cons_self ..) acc
    rw [List.length_cons] at hl
    rw [lcN_keep hn h1 h2 h3 (by omega), lc_map h ds _ S hn (fun x hx => hd x (List.mem_cons_of_mem _ hx)) (by rw [List.length_append, List.length_singleton]; omega)]
    simp
/-- with tests -/
theorem lc_filter (h : D → D) (q : D → Bool) : ∀ (ds acc : List D) (S : Store), S.length = n → (∀ d ∈ ds, ∀ acc', ∃ σ2, g (.d d) σw (S ++ [.lst acc']) = .ok σ2 (S ++ [.lst acc']) ∧ t σ2 (S ++ [.lst acc']) = .ok (q d) (S ++ [.lst acc']) ∧ (q d = true → e σ2 (S ++ [.lst acc']) = .ok (.d (h d)) (S ++ [.lst acc']))) →
    acc.length + ds.length ≤ lim → lcN g t e σw n ds (S ++ [.lst acc]) = some (S ++ [.lst (acc ++ (ds.filter q).map h)])
  | [], acc, S, hn, _, _ => by simp [lcN]
  | d :: ds, acc, S, hn, hd, hl => by
    obtain ⟨σ2, h1, h2, h3⟩ := hd d (List.mem_cons_self ..) acc
    rw [List.length_cons] at hl
    cases hq : q d with
    | true =>
      rw [hq] at h2
      rw [lcN_keep hn h1 h2 (h3 hq) (by omega), lc_filter h q ds _ S hn (fun x hx => hd x (List.mem_cons_of_mem _ hx)) (by rw [List.length_append, List.length_singleton]; omega)]
      simp [hq]
    | false =>
      rw [hq] at h2
      rw [lcN_skip hn h1 h2, lc_filter h q ds _ S hn (fun x hx => hd x (List.mem_cons_of_mem _ hx)) (by omega)]
      simp [hq]
theorem lc_run (I : Store → Prop) (P : D → Prop) : ∀ (ds acc : List D) (S : Store), S.length = n → I S → (∀ d ∈ ds, ∀ acc' S, S.length = n → I S → ∃ σ2 y S' J, g (.d d) σw (S ++ [.lst acc']) = .ok σ2 (S ++ [.lst acc']) ∧ t σ2 (S ++ [.lst acc']) = .ok true (S ++ [.lst acc']) ∧ e σ2 (S ++ [.lst acc']) = .ok (.d y) (S' ++ .lst acc' :: J) ∧ S'.length = n ∧ I S' ∧ P y) →
    acc.length + ds.length ≤ lim → ∃ ys S', lcN g t e σw n ds (S ++ [.lst acc]) = some (S' ++ [.lst (acc ++ ys)]) ∧ S'.length = n ∧ I S' ∧ ys.length = ds.length ∧ ∀ y ∈ ys, P y
  | [], acc, S, hn, hI, _, _ => ⟨[], S, by simp [lcN], hn, hI, rfl, fun _ h => nomatch h⟩
  | d :: ds, acc, S, hn, hI, hd, hl => by
    obtain ⟨σ2, y, S', J, h1, h2, h3, h4, h5, h6⟩ := hd d (List.mem_cons_self ..) acc S hn hI
    rw [List.length_cons] at hl
    obtain ⟨ys, S2, e2, q1, q2, q3, q4⟩ := lc_run I P ds (acc ++ [y]) S' h4 h5 (fun x hx => hd x (List.mem_cons_of_mem _ hx)) (by rw [List.length_append, List.length_singleton]; omega)
    refine ⟨y :: ys, S2, ?_, q1, q2, by simp [q3], fun z hz => ?_⟩
    · rw [lcN_keep h4 h1 h2 h3 (by omega), e2]
      simp
    · rcases List.mem_cons.mp hz with rfl | hz
      · exact h6
      · exact q4 z hz
theorem eLc_map {w : IM} {vs : List Nat} {σ : Ev} {S : Store} {ds : List D} (h : D → D) (hw : w σ S = .ok ds S) (hl : ds.length ≤ lim)
    (hd : ∀ d ∈ ds, ∀ acc', ∃ σ2, g (.d d) (wipeD σ vs) (S ++ [.lst acc']) = .ok σ2 (S ++ [.lst acc']) ∧ t σ2 (S ++ [.lst acc']) = .ok true (S ++ [.lst acc']) ∧ e σ2 (S ++ [.lst acc']) = .ok (.d (h d)) (S ++ [.lst acc'])) :
    eLc w g t e vs σ S = .ok (.d (.lst (ds.map h))) S := by
  show (w σ S).bind _ = _
  rw [hw, ok_bind, lc_map h ds [] S rfl hd (by simpa using hl)]
  simp [optS, finV]
theorem eLc_filter {w : IM} {vs : List Nat} {σ : Ev} {S : Store} {ds : List D} (h : D → D) (q : D → Bool) (hw : w σ S = .ok ds S) (hl : ds.length ≤ lim)
    (hd : ∀ d ∈ ds, ∀ acc', ∃ σ2, g (.d d) (wipeD σ vs) (S ++ [.lst acc']) = .ok σ2 (S ++ [.lst acc']) ∧ t σ2 (S ++ [.lst acc']) = .ok (q d) (S ++ [.lst acc']) ∧ (q d = true → e σ2 (S ++ [.lst acc']) = .ok (.d (h d)) (S ++ [.lst acc']))) :
    eLc w g t e vs σ S = .ok (.d (.lst ((ds.filter q).map h))) S := by
  show (w σ S).bind _ = _
  rw [hw, ok_bind, lc_filter h q ds [] S rfl hd (by simpa using hl)]
  simp [optS, finV]
theorem eLc_run {w : IM} {vs : List Nat} {σ : Ev} {S0 S : Store} {ds : List D} (I : Store → Prop) (P : D → Prop) (hw : w σ S0 = .ok ds S) (hI : I S) (hl : ds.length ≤ lim)
    (hd : ∀ d ∈ ds, ∀ acc' S', S'.length = S.length → I S' → ∃ σ2 y S'' J, g (.d d) (wipeD σ vs) (S' ++ [.lst acc']) = .ok σ2 (S' ++ [.lst acc']) ∧ t σ2 (S' ++ [.lst acc']) = .ok true (S' ++ [.lst acc']) ∧ e σ2 (S' ++ [.lst acc']) = .ok (.d y) (S'' ++ .lst acc' :: J) ∧ S''.length = S.length ∧ I S'' ∧ P y) :
    ∃ ys S', eLc w g t e vs σ S0 = .ok (.d (.lst ys)) S' ∧ S'.length = S.length ∧ I S' ∧ ys.length = ds.length ∧ ∀ y ∈ ys, P y := by
  obtain ⟨ys, S', e2, q1, q2, q3, q4⟩ := lc_run I P ds [] S rfl hI hd (by simpa using hl)
  refine ⟨ys, S', ?_, q1, q2, q3, q4⟩
  show (w σ S0).bind _ = _
  rw [hw, ok_bind, e2]
  simp [optS, finV, ← q1]
theorem for_run (I : List D → Ev → Store → Prop) : ∀ (ds : List D) (σ : Ev) (S : Store), I ds σ S → (∀ d ds σ S, I (d :: ds) σ S → ∃ σ1 S1 σ2 S2, g (.d d) σ S = .ok σ1 S1 ∧ f b σ1 S1 = .nx σ2 S2 ∧ I ds σ2 S2) →
    ∃ σ' S', forN g f ds b σ S = .nx σ' S' ∧ I [] σ' S'
  | [], σ, S, h, _ => ⟨σ, S, rfl, h⟩
  | d :: ds, σ, S, h, step => by
    obtain ⟨σ1, S1, σ2, S2, h1, h2, h3⟩ := step d ds σ S h
    obtain ⟨σ', S', h4, h5⟩ := for_run I ds σ2 S2 h3 step
    refine ⟨σ', S', ?_, h5⟩
    simp only [forN, h1, ok_toS, h2, h4]
/-- .. that may hand back -/
theorem for_ret (I : List D → Ev → Store → Prop) (P : Wt → Store → Prop) : ∀ (ds : List D) (σ : Ev) (S : Store), I ds σ S → (∀ d ds σ S, I (d :: ds) σ S → ∃ σ1 S1, g (.d d) σ S = .ok σ1 S1 ∧ ((∃ σ2 S2, f b σ1 S1 = .nx σ2 S2 ∧ I ds σ2 S2) ∨ ∃ w S2, f b σ1 S1 = .rt w S2 ∧ P w S2)) →
    (∃ σ' S', forN g f ds b σ S = .nx σ' S' ∧ I [] σ' S') ∨ ∃ w S', forN g f ds b σ S = .rt w S' ∧ P w S'
  | [], σ, S, h, _ => .inl ⟨σ, S, rfl, h⟩
  | d :: ds, σ, S, h, step => by
    obtain ⟨σ1, S1, h1, h2⟩ := step d ds σ S h
    rcases h2 with ⟨σ2, S2, h2, h3⟩ | ⟨w, S2, h2, h3⟩
    · rcases for_ret I P ds σ2 S2 h3 step with ⟨σ', S', h4, h5⟩ | ⟨w, S', h4, h5⟩
      · exact .inl ⟨σ', S', by simp only [forN, h1, ok_toS, h2, h4], h5⟩
      · exact .inr ⟨w, S', by simp only [forN, h1, ok_toS, h2, h4], h5⟩
    · exact .inr ⟨w, S2, by simp only [forN, h1, ok_toS, h2], h3⟩
end
theorem rng_mem {lo : Int} {n : Nat} {d : D} (h : d ∈ rng lo n) : ∃ i : Nat, i < n ∧ d = .int (lo + i) := by
  unfold rng at h
  obtain ⟨i, hi, rfl⟩ := List.mem_map.mp h
  exact ⟨i, List.mem_range.mp hi, rfl⟩
@[simp] theorem rng_length {lo : Int} {n : Nat} : (rng lo n).length = n := by simp [rng]
theorem all_true {l : List D} (h : ∀ d ∈ l, d = .bl true) : asBools l = some (l.map fun _ => true) := by
  induction l with
  | nil => rfl
  | cons d l ih =>
    obtain rfl := h d (List.mem_cons_self ..)
    simp [asBools, ih fun x hx => h x (List.mem_cons_of_mem _ hx)]
theorem asBools_map {α : Type} (l : List α) (q : α → Bool) : asBools (l.map fun a => .bl (q a)) = some (l.map q) := by
  induction l with
  | nil => rfl
  | cons d l ih => simp [asBools, ih]
theorem bLst_ok {α : Type} {as : List D → Option (List α)} {k : List α → Store → Res Wt} {l : List D} {bs : List α} {S : Store} (h : as l = some bs) : bLst as k [.d (.lst l)] S = k bs S := by
  unfold bLst f1
  simp only [deref_d, h]
theorem all_ok {l : List D} {S : Store} (h : ∀ d ∈ l, d = .bl true) : bAll [.d (.lst l)] S = .ok (.d (.bl true)) S := by
  refine (bLst_ok (all_true h)).trans ?_
  simp
theorem all_map {α : Type} {l : List α} {q : α → Bool} {S : Store} : bAll [.d (.lst (l.map fun a => .bl (q a)))] S = .ok (.d (.bl (l.all q))) S := by
  refine (bLst_ok (asBools_map l q)).trans ?_
  simp [List.all_map, Function.comp_def]
theorem any_map_ok {α : Type} {l : List α} {q : α → Bool} {S : Store} : bAny [.d (.lst (l.map fun a => .bl (q a)))] S = .ok (.d (.bl (l.any q))) S := by
  refine (bLst_ok (asBools_map l q)).trans ?_
  simp [List.any_map, Function.comp_def]
end Y
end
section
/-! Y18: list comprehensions of two clauses. -/
namespace Y
open PySem PySem.Spec PyProof.Rows L2

def addM (n m : Nat) (y : D) (S : Store) : Option Cell → Option Store
  | some (.lst acc) => if acc.length < lim then some ((S.set n (.lst (acc ++ [y]))).take m) else none
  | _ => none
/-- as lcN, the cells below m kept -/
def lcM (g : GM) (t : TM) (e : EM) (σw : Ev) (n m : Nat) : List D → Store → Option Store
  | [], S => some S
  | d :: ds, S => match g (.d d) σw S with
    | .ok σ2 S2 => match t σ2 S2 with
      | .ok true S3 => match e σ2 S3 with
        | .ok w S4 => match fz1 S4 w with
          | .ok y S5 => match addM n m y S5 S5[n]? with
            | some S6 => lcM g t e σw n m ds S6
            | none => none
          | _ => none
        | _ => none
      | .ok false S3 => lcM g t e σw n m ds (S3.take m)
      | _ => none
    | _ => none
theorem lcM_eq {g : GM} {t : TM} {e : EM} {σw : Ev} {n : Nat} : ∀ (ds : List D) (S : Store), lcM g t e σw n (n + 1) ds S = lcN g t e σw n ds S
  | [], S => rfl
  | d :: ds, S => by
    unfold lcM lcN
    cases g (.d d) σw S with
    | bad => rfl
    | exc _ _ _ _ => rfl
    | ok σ2 S2 =>
      dsimp only
      cases t σ2 S2 with
      | bad => rfl
      | exc _ _ _ _ => rfl
      | ok b S3 =>
        cases b with
        | false => exact lcM_eq ds _
        | true =>
          dsimp only
          cases e σ2 S3 with
          | bad => rfl
          | exc _ _ _ _ => rfl
          | ok w S4 =>
            dsimp only
            cases fz1 S4 w with
            | bad => rfl
            | exc _ _ _ _ => rfl
            | ok y S5 =>
              dsimp only
              have : addM n (n + 1) y S5 S5[n]? = addC n y S5 S5[n]? := by
                cases S5[n]? with
                | none => rfl
                | some c => cases c <;> rfl
              rw [this]
              cases addC n y S5 S5[n]? with
              | none => rfl
              | some S6 => exact lcM_eq ds S6
def lc2N (g : GM) (t : TM) (w1 : IM) (g1 : GM) (t1 : TM) (e : EM) (σw : Ev) (vs1 : List Nat) (n : Nat) : List D → Store → Option Store
  | [], S => some S
  | d :: ds, S => match g (.d d) σw S with
    | .ok σ2 S2 => match t σ2 S2 with
      | .ok true S3 => match w1 σ2 S3 with
        | .ok ds1 S4 => match lcM g1 t1 e (wipeD σ2 vs1) n S4.length ds1 S4 with
          | some S5 => lc2N g t w1 g1 t1 e σw vs1 n ds (S5.take (n + 1))
          | none => none
        | _ => none
      | .ok false S3 => lc2N g t w1 g1 t1 e σw vs1 n ds (S3.take (n + 1))
      | _ => none
    | _ => none
def eLc2G (fin : Nat → Store → Res Wt) (w : IM) (g : GM) (t : TM) (w1 : IM) (g1 : GM) (t1 : TM) (e : EM) (vs vs1 : List Nat) : EM := fun σd S => (w σd S).bind fun ds S1 => optS (lc2N g t w1 g1 t1 e (wipeD σd vs) vs1 S1.length ds (S1 ++ [.lst []])) (fin S1.length)
abbrev eLc2 := eLc2G finV
abbrev eLc2L := eLc2G finL
section
variable {K : PySem.W.Frag} {hx : Hx} {W : WX} {w w1 : IM} {g g1 : GM} {t t1 : TM} {e : EM} {vs vs1 is is1 : List Nat} {fin : Nat → Store → Res Wt}
theorem stp_cell {A : Ads} {S : Store} {H : Hp} {Ab : Ads} {Sb : Store} {Hb : Hp} (Rb : Rel K Ab Sb Hb) (T : Stp Ab Sb Hb A S H) {m : Nat} (hm : Sb.length = m) : Stp Ab Sb Hb (A.take m) (S.take m) H := by
  have := T.take Rb
  rw [hm] at this
  exact this
theorem lc2_of (fo : FinOk fin) (hs : ∀ i ∈ is, i ∈ vs) (hs1 : ∀ i ∈ is1, i ∈ vs1) {σ : L2.St} {H : Hp} {Q : VK} (h : tE ⟨K, hx, W⟩ (eLc2G fin w g t w1 g1 t1 e vs vs1) σ H Q) :
    tLc2 (tI ⟨K, hx, W⟩ w) (tG (cno K hx) is g) (tT (cno K hx) t) (tI (cno K hx) w1) (tG (cno K hx) is1 g1) (tT (cno K hx) t1) (tE (cno K hx) e) vs vs1 σ H Q := by
  obtain ⟨A, S, σd, R, E, p⟩ := h
  refine ⟨A, S, σd, R, E, (Post.bind (R1 := rIt ⟨K, hx, W⟩) p).mono fun J H1 ⟨A1, S1, ds, R1, T1, j1, p1⟩ => ?_⟩
  intro D hD
  cases hq : lc2N g t w1 g1 t1 e (wipeD σd vs) vs1 S1.length ds (S1 ++ [.lst []]) with
  | none => rw [hq] at p1; exact p1.elim
  | some Sf =>
    rw [hq] at p1
    have p1 : Post ⟨K, hx, W⟩ (rV ⟨K, hx, W⟩) σ A1 S1 H1 Q (fin S1.length Sf) := p1
    obtain ⟨Rb, Tb⟩ := Rel.alloc (c := .lst []) (o := .lst []) R1 hD ⟨[], upd_same, .nil⟩
    have hAb : (A1 ++ [some D])[S1.length]? = some (some D) := by rw [← R1.len]; simp
    have hlb : (S1 ++ [Cell.lst []]).length = S1.length + 1 := by simp
    have E1 := E.step R T1
    have Ew := (E1.step R1 Tb).wipe vs
    generalize hAe : A1 ++ [some D] = Ab at Rb Tb hAb Ew
    generalize hSe : S1 ++ [Cell.lst []] = Sb at Rb Tb hlb hq Ew
    generalize hHe : upd H1 D (.lst []) = Hb at Rb Tb Ew
    refine ⟨fun i m H => i + m = ds.length ∧ ∃ A S, Rel K A S H ∧ Stp Ab Sb Hb A S H ∧ lc2N g t w1 g1 t1 e (wipeD σd vs) vs1 S1.length (ds.drop i) S = some Sf, ⟨ds.length, Nat.zero_add _, Ab, Sb, Rb, .refl, hq⟩, ?_⟩
    rintro i m H ⟨hm, A, S, R, T, q⟩
    obtain ⟨go, stop, yld⟩ := j1 A S H R (Tb.trans T).fr
    by_cases hlt : i < ds.length
    · refine .inr ⟨go i hlt, fun H => i + 1 + (m - 1) = ds.length ∧ ∃ A S, Rel K A S H ∧ Stp Ab Sb Hb A S H ∧ lc2N g t w1 g1 t1 e (wipeD σd vs) vs1 S1.length (ds.drop (i + 1)) S = some Sf, fun H' h => ⟨m - 1, by omega, h⟩, fun x H' y => ?_⟩
      obtain ⟨d, hd, R2, T2, r2⟩ := yld i x H' hlt y
      rw [drop_cons hd] at q
      unfold lc2N at q
      cases qg : g (.d d) (wipeD σd vs) S with
      | bad => rw [qg] at q; cases q
      | exc C ns l S' => rw [qg] at q; cases q
      | ok σ2d S2 =>
        rw [qg] at q
        dsimp only at q
        refine ⟨A, S, wipeD σd vs, .d d, R2, Ew.step Rb (T.trans T2), RV.of r2, ?_⟩
        rw [qg]
        intro A2 H2 σ2 R3 T3 ⟨E3, sm⟩
        refine ⟨by rw [sm.wipe hs, wipe_wipe], ?_⟩
        cases qt : t σ2d S2 with
        | bad => rw [qt] at q; cases q
        | exc C ns l S' => rw [qt] at q; cases q
        | ok b S3 =>
          rw [qt] at q
          refine ⟨A2, S2, σ2d, R3, E3, ?_⟩
          rw [qt]
          intro A3 H3 b' R4 T4 hb
          have hb : b = b' := hb
          subst hb
          have T' := ((T.trans T2).trans T3).trans T4
          cases b with
          | false =>
            rw [if_neg Bool.false_ne_true]
            dsimp only at q
            exact ⟨by omega, A3.take (S1.length + 1), S3.take (S1.length + 1), R4.take _, stp_cell Rb T' hlb, q⟩
          | true =>
            rw [if_pos rfl]
            dsimp only at q
            cases qw : w1 σ2d S3 with
            | bad => rw [qw] at q; cases q
            | exc C ns l S' => rw [qw] at q; cases q
            | ok ds1 S4 =>
              rw [qw] at q
              dsimp only at q
              refine ⟨A3, S3, σ2d, R4, E3.step R3 T4, ?_⟩
              rw [qw]
              intro A4 H4 J1 R5 T5 k1
              have E4 := ((E3.step R3 T4).step R4 T5).wipe vs1
              have T4' := T'.trans T5
              cases qi : lcM g1 t1 e (wipeD σ2d vs1) S1.length S4.length ds1 S4 with
              | none => rw [qi] at q; cases q
              | some S5 =>
                rw [qi] at q
                dsimp only at q
                have hln : S1.length < S4.length := by
                  have a1 := T4'.le
                  rw [Rb.len, R5.len, hlb] at a1
                  omega
                refine ⟨fun j k H => j + k = ds1.length ∧ ∃ A S, Rel K A S H ∧ Stp A4 S4 H4 A S H ∧ lcM g1 t1 e (wipeD σ2d vs1) S1.length S4.length (ds1.drop j) S = some S5, ⟨ds1.length, Nat.zero_add _, A4, S4, R5, .refl, qi⟩, ?_⟩
                rintro j k H ⟨hk, A, S, R, T, q1⟩
                obtain ⟨go1, stop1, yld1⟩ := k1 A S H R T.fr
                by_cases hlt1 : j < ds1.length
                · refine .inr ⟨go1 j hlt1, fun H => j + 1 + (k - 1) = ds1.length ∧ ∃ A S, Rel K A S H ∧ Stp A4 S4 H4 A S H ∧ lcM g1 t1 e (wipeD σ2d vs1) S1.length S4.length (ds1.drop (j + 1)) S = some S5, fun H' h => ⟨k - 1, by omega, h⟩, fun x H' y => ?_⟩
                  obtain ⟨d1, hd1, R6, T6, r6⟩ := yld1 j x H' hlt1 y
                  rw [drop_cons hd1] at q1
                  unfold lcM at q1
                  cases qg1 : g1 (.d d1) (wipeD σ2d vs1) S with
                  | bad => rw [qg1] at q1; cases q1
                  | exc C ns l S' => rw [qg1] at q1; cases q1
                  | ok σ3d S6 =>
                    rw [qg1] at q1
                    dsimp only at q1
                    refine ⟨A, S, wipeD σ2d vs1, .d d1, R6, E4.step R5 (T.trans T6), RV.of r6, ?_⟩
                    rw [qg1]
                    intro A7 H7 σ3 R7 T7 ⟨E7, sm7⟩
                    refine ⟨by rw [sm7.wipe hs1, wipe_wipe], ?_⟩
                    cases qt1 : t1 σ3d S6 with
                    | bad => rw [qt1] at q1; cases q1
                    | exc C ns l S' => rw [qt1] at q1; cases q1
                    | ok b1 S8 =>
                      rw [qt1] at q1
                      refine ⟨A7, S6, σ3d, R7, E7, ?_⟩
                      rw [qt1]
                      intro A8 H8 b1' R8 T8 hb1
                      have hb1 : b1 = b1' := hb1
                      subst hb1
                      have U := ((T.trans T6).trans T7).trans T8
                      cases b1 with
                      | false =>
                        rw [if_neg Bool.false_ne_true]
                        dsimp only at q1
                        exact ⟨by omega, A8.take S4.length, S8.take S4.length, R8.take _, stp_cell R5 U rfl, q1⟩
                      | true =>
                        rw [if_pos rfl]
                        dsimp only at q1
                        cases qe : e σ3d S8 with
                        | bad => rw [qe] at q1; cases q1
                        | exc C ns l S' => rw [qe] at q1; cases q1
                        | ok w9 S9 =>
                          rw [qe] at q1
                          dsimp only at q1
                          refine ⟨A8, S8, σ3d, R8, E7.step R7 T8, ?_⟩
                          rw [qe]
                          intro A9 H9 y9 R9 T9 r9
                          cases qf : fz1 S9 w9 with
                          | bad => rw [qf] at q1; cases q1
                          | exc C ns l S' => rw [qf] at q1; cases q1
                          | ok yd S10 =>
                            rw [qf] at q1
                            dsimp only at q1
                            obtain ⟨R10, T10, r10⟩ := fz1_ok R9 r9 qf
                            have U' := (U.trans T9).trans T10
                            have hA9 := U'.ext _ _ (T4'.ext _ _ hAb)
                            obtain ⟨cl, u, hcl, hu, ok⟩ := R10.known hA9
                            rw [hcl] at q1
                            cases cl with
                            | lst acc =>
                              obtain ⟨us, h1, h2⟩ := ok
                              unfold addM at q1
                              dsimp only at q1
                              by_cases hz : acc.length < lim
                              · rw [if_pos hz] at q1
                                dsimp only at q1
                                obtain ⟨R11, T11⟩ := R10.putL hA9 hcl (h2.append (.one r10))
                                exact ⟨us, h1, by rw [← h2.len]; exact lim_lt hz, by omega, A9.take S4.length, _, R11.take _, stp_cell R5 (U'.trans T11) rfl, q1⟩
                              · rw [if_neg hz] at q1; cases q1
                            | _ => cases q1
                · have ej : j = ds1.length := by omega
                  subst ej
                  rw [List.drop_length] at q1
                  cases q1
                  exact .inl ⟨stop1, by omega, A.take (S1.length + 1), _, R.take _, stp_cell Rb (T4'.trans T) hlb, q⟩
    · have e : i = ds.length := by omega
      subst e
      rw [List.drop_length] at q
      cases q
      exact .inl ⟨stop, fo ⟨K, hx, W⟩ σ A1 A S1 _ H1 H D Q R1 R (Tb.trans T) (T.ext _ _ hAb) p1⟩
end
section
variable {X : Cx} {hx : Hx} {elt tg iter tg1 iter1 : Expr} {ifs ifs1 : List Expr} {scope : Scope} {own : List (Str × Nat)} {pos : Pos} {w w1 : IM} {g g1 : GM} {t t1 : TM} {e : EM} {is is1 vs1 : List Nat} {fin : Nat → Store → Res Wt}
theorem d_lc2G (fo : FinOk fin) (hc : X.calm = true) (hN : X.N.Nodup) (own : List (Str × Nat)) (vs1 : List Nat) (hi : DI X hx tg iter w) (ok : BlkOk X.N X.env.scope scope own) (hv : ∀ i ∈ vs1, i ∈ own.map (·.2)) (hs' : ∀ i ∈ is, i ∈ own.map (·.2)) (hs1' : ∀ i ∈ is1, i ∈ vs1)
    (hg : ∀ (s : Shared) (H : Hp) (C : Addr) (cl : List (Str × Addr)) (fp : List Addr), DG (X.blk s H scope (compEnvC scope cl C X.env) fp) hx tg is g)
    (ht : ∀ (s : Shared) (H : Hp) (C : Addr) (cl : List (Str × Addr)) (fp : List Addr), DTs (X.blk s H scope (compEnvC scope cl C X.env) fp) hx ifs t)
    (hi1 : ∀ (s : Shared) (H : Hp) (C : Addr) (cl : List (Str × Addr)) (fp : List Addr), DI (X.blk s H scope (compEnvC scope cl C X.env) fp) hx tg1 iter1 w1)
    (hg1 : ∀ (s : Shared) (H : Hp) (C : Addr) (cl : List (Str × Addr)) (fp : List Addr), DG (X.blk s H scope (compEnvC scope cl C X.env) fp) hx tg1 is1 g1)
    (ht1 : ∀ (s : Shared) (H : Hp) (C : Addr) (cl : List (Str × Addr)) (fp : List Addr), DTs (X.blk s H scope (compEnvC scope cl C X.env) fp) hx ifs1 t1)
    (he : ∀ (s : Shared) (H : Hp) (C : Addr) (cl : List (Str × Addr)) (fp : List Addr), DE (X.blk s H scope (compEnvC scope cl C X.env) fp) hx elt e) (hs : ∀ x, foldedSetIterable iter X.env x = pure x := by intro _; rfl) (hs1 : ∀ env x, foldedSetIterable iter1 env x = pure x := by intro _ _; rfl) :
    DE X hx (.ListComp elt [⟨tg, iter, ifs, 0⟩, ⟨tg1, iter1, ifs1, 0⟩] scope pos) (eLc2G fin w g t w1 g1 t1 e (own.map (·.2)) vs1) :=
  ⟨fun W tk => PEimp (pe_lc2 hc hN (hi.run W tk) ok hv (fun s H C cl fp => (hg s H C cl fp).run _ takes_no) (fun s H C cl fp => (ht s H C cl fp).run _ takes_no) (fun s H C cl fp => (hi1 s H C cl fp).run _ takes_no) (fun s H C cl fp => (hg1 s H C cl fp).run _ takes_no) (fun s H C cl fp => (ht1 s H C cl fp).run _ takes_no) (fun s H C cl fp => (he s H C cl fp).run _ takes_no) hs hs1) fun σ H Q h => lc2_of fo hs' hs1' h⟩
theorem ds_setLc2G {i : Nat} {y : Str} {py spos : Pos} (fo : FinOk fin) (hc : X.calm = true) (hN : X.N.Nodup) (own : List (Str × Nat)) (vs1 : List Nat) (hi : DI X hx tg iter w) (ok : BlkOk X.N X.env.scope scope own) (hv : ∀ i ∈ vs1, i ∈ own.map (·.2)) (hs' : ∀ i ∈ is, i ∈ own.map (·.2)) (hs1' : ∀ i ∈ is1, i ∈ vs1)
    (hg : ∀ (s : Shared) (H : Hp) (C : Addr) (cl : List (Str × Addr)) (fp : List Addr), DG (X.blk s H scope (compEnvC scope cl C X.env) fp) hx tg is g)
    (ht : ∀ (s : Shared) (H : Hp) (C : Addr) (cl : List (Str × Addr)) (fp : List Addr), DTs (X.blk s H scope (compEnvC scope cl C X.env) fp) hx ifs t)
    (hi1 : ∀ (s : Shared) (H : Hp) (C : Addr) (cl : List (Str × Addr)) (fp : List Addr), DI (X.blk s H scope (compEnvC scope cl C X.env) fp) hx tg1 iter1 w1)
    (hg1 : ∀ (s : Shared) (H : Hp) (C : Addr) (cl : List (Str × Addr)) (fp : List Addr), DG (X.blk s H scope (compEnvC scope cl C X.env) fp) hx tg1 is1 g1)
    (ht1 : ∀ (s : Shared) (H : Hp) (C : Addr) (cl : List (Str × Addr)) (fp : List Addr), DTs (X.blk s H scope (compEnvC scope cl C X.env) fp) hx ifs1 t1)
    (he : ∀ (s : Shared) (H : Hp) (C : Addr) (cl : List (Str × Addr)) (fp : List Addr), DE (X.blk s H scope (compEnvC scope cl C X.env) fp) hx elt e)
    (hy : X.N[i]? = some y := by rfl) (hyl : X.env.scope.names.lookup y = some .local := by rfl)
    (hsw : swapsWith (.ListComp elt [⟨tg, iter, ifs, 0⟩, ⟨tg1, iter1, ifs1, 0⟩] scope pos) (some (.Name y py)) spos.line X.env = pure true := by first | exact sw_true rfl rfl rfl rfl) (hs : ∀ x, foldedSetIterable iter X.env x = pure x := by intro _; rfl) (hs1 : ∀ env x, foldedSetIterable iter1 env x = pure x := by intro _ _; rfl) :
    DS X hx (.Assign [.Name y py] (.ListComp elt [⟨tg, iter, ifs, 0⟩, ⟨tg1, iter1, ifs1, 0⟩] scope pos) spos) (sSet i (eLc2G fin w g t w1 g1 t1 e (own.map (·.2)) vs1)) :=
  ⟨fun W tk => PSimp (ps_setLc2 hc hN hy hyl hsw (hi.run W tk) ok hv (fun s H C cl fp => (hg s H C cl fp).run _ takes_no) (fun s H C cl fp => (ht s H C cl fp).run _ takes_no) (fun s H C cl fp => (hi1 s H C cl fp).run _ takes_no) (fun s H C cl fp => (hg1 s H C cl fp).run _ takes_no) (fun s H C cl fp => (ht1 s H C cl fp).run _ takes_no) (fun s H C cl fp => (he s H C cl fp).run _ takes_no) hs hs1) fun σ H D ⟨b0, A0, S0, H0, A, S, σd, R0, T, R, E, p⟩ =>
    lc2_of (W := W) fo hs' hs1' ⟨A, S, σd, R, E, (Post.ofS (R1 := rV _) R T E p).mono fun v H1 ⟨A1, S1, d, R1, T1, E1, r1, p1⟩ => p1 A1 H1 _ R1 T1 (E1.set r1)⟩⟩
end
end Y
end
section
/-! Y19: own exceptions with an __init__ that keeps what it is given: raise. -/
namespace Y
open PySem PySem.Spec PyProof.Rows L2

/-- what the top says of such a class -/
def oexB (K : PySem.W.Frag) (C : Addr) : Bool := (match K.lookup C with
  | some ⟨.type "type", _, .cls cd, sl⟩ => (match cd.mro, sl.toList with
    | .ref C' :: bm, [_, _, _, _, some (.builtin n), _] => decide (C' = C) && (decide (n = "ValueError.__new__") && (!cd.hasDel && (cd.hasDict && PySem.HandSPX.refsVE bm)))
    | _, _ => false)
  | _ => false) && (decide (PySem.W.findIn K (.ref C) "__setattr__" = some (some (.builtin "object.__setattr__"))) && (decide (PySem.W.subIn K (.ref C) (.type "BaseException") = some true) &&
    (decide (PySem.W.typeIn K (.ref C) = some (.type "type")) && PySem.W.keepIn K (.ref C))))
theorem oexB_ok {K : PySem.W.Frag} {C : Addr} (h : oexB K C = true) : OexC K C := by
  unfold oexB at h
  simp only [Bool.and_eq_true, decide_eq_true_eq] at h
  obtain ⟨h0, h1, h2, h3, h4⟩ := h
  refine ⟨?_, h1, h2, h3, h4⟩
  split at h0
  · rename_i dd cd sl ho
    split at h0
    · rename_i C' bm k0 k1 k2 k3 n k5 hm hs
      simp only [Bool.and_eq_true, decide_eq_true_eq, Bool.not_eq_true'] at h0
      obtain ⟨rfl, rfl, hdel, hdict, ht⟩ := h0
      obtain ⟨nm, bs, mro, ns, qn, hd, sn, sub, ab, col, del⟩ := cd
      dsimp only at hm hdel hdict
      subst hm hdel hdict
      have hsl : sl = #[k0, k1, k2, k3, some (.builtin "ValueError.__new__"), k5] := by
        obtain ⟨l⟩ := sl
        simp only at hs
        rw [hs]
      subst hsl
      exact ⟨nm, qn, ns, bs, bm, sn, sub, ab, col, dd, k0, k1, k2, k3, k5, ho, ht⟩
    · cases h0
  · cases h0
end Y
end
section
/-! Y20: list(range(..)), tuple(range(..)), methods of texts and lists. -/
namespace Y
open PySem PySem.Spec PyProof.Rows L2
section
variable {X : Cx} {hx : Hx}
/-! ### ranges as arguments -/
def rgOk (i j : Int) : Bool := decide (-(2 ^ 62) ≤ i ∧ i < 2 ^ 62 ∧ -(2 ^ 62) ≤ j ∧ j < 2 ^ 62 ∧ (j - i).toNat ≤ 16777216)
theorem rgOk_ok {i j : Int} (h : rgOk i j = true) : RgOk i j := by
  unfold rgOk at h
  have := of_decide_eq_true h
  exact ⟨this.1, this.2.1, this.2.2.1, this.2.2.2.1, by have := this.2.2.2.2; omega⟩
def rgS (i j : Int) (k : List D → Store → Res Wt) (S : Store) : Res Wt := if rgOk i j = true then k (rng i (j - i).toNat) S else .bad
def rgB (i : Int) (k : List D → Store → Res Wt) (w : Wt) (S : Store) : Res Wt := match w with
  | .d (.int j) => rgS i j k S
  | _ => .bad
def rgA (fb : EM) (σd : Ev) (k : List D → Store → Res Wt) (v : Wt) (S : Store) : Res Wt := match v with
  | .d (.int i) => (fb σd S).bind fun w S2 => rgB i k w S2
  | _ => .bad
def eRgK (k : List D → Store → Res Wt) (fa fb : EM) : EM := fun σd S => (fa σd S).bind fun v S1 => rgA fb σd k v S1
def eRgK1 (k : List D → Store → Res Wt) (fa : EM) : EM := fun σd S => (fa σd S).bind fun v S1 => rgB 0 k v S1
def kLst : List D → Store → Res Wt := fun l S => .ok (.d (.lst l)) S
def kLstL : List D → Store → Res Wt := fun l S => .ok (.loc S.length) (S ++ [.lst l])
def kTup : List D → Store → Res Wt := fun l S => .ok (.d (.tup l)) S
theorem rps_rng {K : PySem.W.Frag} {lv : Addr → Prop} {H : Hp} {i : Int} {j : Int} : RPs K lv H (rng i (j - i).toNat) (rgV i j) := by
  unfold rng rgV
  generalize (List.range (j - i).toNat) = l
  induction l with
  | nil => exact .nil
  | cons a l ih => exact .cons (.int _) ih
def RgK (o : List V → HO) (k : List D → Store → Res Wt) : Prop := ∀ {c : Cn} {σ : L2.St} {A : Ads} {S : Store} {H : Hp} {Q : VK} {l : List D} {vs : List V} {p : Addr}, Post c (rV c) σ A S H Q (k l S) → Rel c.K A S H → RPs c.K (Live A S) H l vs → H p = none → Q (.ref p) (upd H p (o vs))
theorem k_lst : RgK .lst kLst := fun q R r h => Post.lst q R r h
theorem k_lstL : RgK .lst kLstL := fun q R r h => Post.alloc q R r h
theorem k_tup : RgK .tup kTup := fun q R r h => Post.tup q R r h
theorem rgB_ok {o : List V → HO} {k : List D → Store → Res Wt} (ok : RgK o k) {c : Cn} {σ : L2.St} {A : Ads} {S : Store} {H : Hp} {Q : VK} {i : Int} {w : Wt} {y : V} (R : Rel c.K A S H) (r : rV c A S H w y) (p : Post c (rV c) σ A S H Q (rgB i k w S)) :
    ∃ j, y = .int j ∧ RgOk i j ∧ ∀ q, H q = none → Q (.ref q) (upd H q (o (rgV i j))) := by
  unfold rgB at p
  split at p
  · rename_i j
    obtain rfl := rv_int r
    obtain ⟨hz, p⟩ := Post.iteP p
    exact ⟨j, rfl, rgOk_ok hz, fun q hq => ok p R rps_rng hq⟩
  · exact p.elim
theorem rg1_of {o : List V → HO} {k : List D → Store → Res Wt} (ok : RgK o k) {c : Cn} {fa : EM} {σ : L2.St} {H : Hp} {Q : VK} (h : tE c (eRgK1 k fa) σ H Q) :
    tRg1 (tE c fa) σ H fun a b H1 => RgOk a b ∧ ∀ q, H1 q = none → Q (.ref q) (upd H1 q (o (rgV a b))) := by
  obtain ⟨A, S, σd, R, E, p⟩ := h
  refine ⟨A, S, σd, R, E, (Post.bind (R1 := rV _) p).mono fun v H1 ⟨A1, S1, d, R1, T1, r1, p1⟩ => ?_⟩
  obtain ⟨j, rfl, h1, h2⟩ := rgB_ok ok R1 r1 p1
  exact ⟨j, rfl, h1, h2⟩
theorem rg2_of {o : List V → HO} {k : List D → Store → Res Wt} (ok : RgK o k) {c : Cn} {fa fb : EM} {σ : L2.St} {H : Hp} {Q : VK} (h : tE c (eRgK k fa fb) σ H Q) :
    tRg2 (tE c fa) (tE c fb) σ H fun a b H1 => RgOk a b ∧ ∀ q, H1 q = none → Q (.ref q) (upd H1 q (o (rgV a b))) := by
  obtain ⟨A, S, σd, R, E, p⟩ := h
  refine ⟨A, S, σd, R, E, (Post.bind (R1 := rV _) p).mono fun v H1 ⟨A1, S1, d, R1, T1, r1, p1⟩ => ?_⟩
  unfold rgA at p1
  split at p1
  · rename_i i
    obtain rfl := rv_int r1
    refine ⟨A1, S1, σd, R1, E.step R T1, (Post.bind (R1 := rV _) p1).mono fun w H2 ⟨A2, S2, d2, R2, T2, r2, p2⟩ => ?_⟩
    obtain ⟨j, rfl, h1, h2⟩ := rgB_ok ok R2 r2 p2
    exact ⟨i, j, rfl, rfl, h1, h2⟩
  · exact p1.elim
variable {a b : Expr} {fa fb : EM} {k : List D → Store → Res Wt} {p p2 pos pos2 : Pos}
theorem d_listRg2 (ok : RgK .lst k) (hc : X.calm = true) (hl : X.mg "list" = none) (hm : X.mg "range" = none) (ha : DE X hx a fa) (hb : DE X hx b fb) (hgl : Gl X "list" := by rfl) (hg : Gl X "range" := by rfl)
    (na : starEach [a, b] X.env = (false, eval a X.env) :: starEach [b] X.env := by rfl) (nb : starEach [b] X.env = (false, eval b X.env) :: starEach [] X.env := by rfl) (hp : (backTo pos2 (starEach [b] X.env)).any (·.1) = false := by rfl)
    (ne : starEach [.Call (.Name "range" p2) [a, b] [] pos2] X.env = (false, eval (.Call (.Name "range" p2) [a, b] [] pos2) X.env) :: starEach [] X.env := by rfl) :
    DE X hx (.Call (.Name "list" p) [.Call (.Name "range" p2) [a, b] [] pos2] [] pos) (eRgK k fa fb) :=
  ⟨fun W tk => PEimp (pe_listRg hc hgl hl (prg_2 hg hm (ha.run W tk) (hb.run W tk) na nb hp) ne) fun σ H Q h => rg2_of (c := ⟨X.K, hx, W⟩) ok h⟩
theorem d_listRg1 (ok : RgK .lst k) (hc : X.calm = true) (hl : X.mg "list" = none) (hm : X.mg "range" = none) (ha : DE X hx a fa) (hgl : Gl X "list" := by rfl) (hg : Gl X "range" := by rfl)
    (na : starEach [a] X.env = (false, eval a X.env) :: starEach [] X.env := by rfl)
    (ne : starEach [.Call (.Name "range" p2) [a] [] pos2] X.env = (false, eval (.Call (.Name "range" p2) [a] [] pos2) X.env) :: starEach [] X.env := by rfl) :
    DE X hx (.Call (.Name "list" p) [.Call (.Name "range" p2) [a] [] pos2] [] pos) (eRgK1 k fa) :=
  ⟨fun W tk => PEimp (pe_listRg hc hgl hl (prg_1 hg hm (ha.run W tk) na) ne) fun σ H Q h => rg1_of (c := ⟨X.K, hx, W⟩) ok h⟩
theorem d_tupRg2 (hc : X.calm = true) (hl : X.mg "tuple" = none) (hm : X.mg "range" = none) (ha : DE X hx a fa) (hb : DE X hx b fb) (hgl : Gl X "tuple" := by rfl) (hg : Gl X "range" := by rfl)
    (na : starEach [a, b] X.env = (false, eval a X.env) :: starEach [b] X.env := by rfl) (nb : starEach [b] X.env = (false, eval b X.env) :: starEach [] X.env := by rfl) (hp : (backTo pos2 (starEach [b] X.env)).any (·.1) = false := by rfl)
    (ne : starEach [.Call (.Name "range" p2) [a, b] [] pos2] X.env = (false, eval (.Call (.Name "range" p2) [a, b] [] pos2) X.env) :: starEach [] X.env := by rfl) :
    DE X hx (.Call (.Name "tuple" p) [.Call (.Name "range" p2) [a, b] [] pos2] [] pos) (eRgK kTup fa fb) :=
  ⟨fun W tk => PEimp (pe_tupRg hc hgl hl (prg_2 hg hm (ha.run W tk) (hb.run W tk) na nb hp) ne) fun σ H Q h => rg2_of (c := ⟨X.K, hx, W⟩) k_tup h⟩
theorem d_tupRg1 (hc : X.calm = true) (hl : X.mg "tuple" = none) (hm : X.mg "range" = none) (ha : DE X hx a fa) (hgl : Gl X "tuple" := by rfl) (hg : Gl X "range" := by rfl)
    (na : starEach [a] X.env = (false, eval a X.env) :: starEach [] X.env := by rfl)
    (ne : starEach [.Call (.Name "range" p2) [a] [] pos2] X.env = (false, eval (.Call (.Name "range" p2) [a] [] pos2) X.env) :: starEach [] X.env := by rfl) :
    DE X hx (.Call (.Name "tuple" p) [.Call (.Name "range" p2) [a] [] pos2] [] pos) (eRgK1 kTup fa) :=
  ⟨fun W tk => PEimp (pe_tupRg hc hgl hl (prg_1 hg hm (ha.run W tk) na) ne) fun σ H Q h => rg1_of (c := ⟨X.K, hx, W⟩) k_tup h⟩
/-! ### list.index (whole numbers, texts, truths, None) -/
def isIx (o : Option Nat) (S : Store) : Res Wt := match o with
  | some j => .ok (.d (.int j)) S
  | none => .bad
def idxOf (x : D) : List D → Option Nat
  | [] => none
  | y :: l => if deq y x then some 0 else (idxOf x l).map (· + 1)
def mIndex (o : Wt) (ds : List Wt) (S : Store) : Res Wt := match ds with
  | [d] => match deref S o, deref S d with
    | some (.lst l), some x => if (x.flat && l.all D.flat) = true then isIx (idxOf x l) S else .bad
    | _, _ => .bad
  | _ => .bad
theorem idxOf_some {x : D} : ∀ {l : List D} {j : Nat}, idxOf x l = some j → ∃ z, l[j]? = some z ∧ deq z x = true ∧ ∀ (m : Nat) (z' : D), m < j → l[m]? = some z' → deq z' x = false
  | [], _, h => by cases h
  | y :: l, j, h => by
    unfold idxOf at h
    by_cases e : deq y x = true
    · rw [if_pos e] at h
      cases h
      exact ⟨y, rfl, e, fun m z' hm => absurd hm (Nat.not_lt_zero _)⟩
    · rw [if_neg e] at h
      cases q : idxOf x l with
      | none => rw [q] at h; cases h
      | some i =>
        rw [q] at h
        cases h
        obtain ⟨z, h1, h2, h3⟩ := idxOf_some q
        refine ⟨z, h1, h2, fun m z' hm hz => ?_⟩
        cases m with
        | zero => cases hz; exact Bool.eq_false_iff.mpr e
        | succ m => exact h3 m z' (by have hm : m + 1 < i + 1 := hm; omega) hz
theorem met_index : MetD X hx "list.index" mIndex := by
  intro W pins s σ H x xs v us Q I r rs h
  obtain ⟨A, S, σ', d, ds, R, rd, rds, p⟩ := h
  match ds, rds, p with
  | [], _, p => exact p.elim
  | _ :: _ :: _, _, p => exact p.elim
  | [y], rds, p =>
    obtain ⟨w, rfl, ry⟩ := rvs1 rds
    unfold mIndex at p
    dsimp only at p
    split at p
    · rename_i l x' e1 e2
      obtain ⟨hz, p2⟩ := Post.iteP p
      rw [Bool.and_eq_true] at hz
      obtain ⟨b, vs, rfl, hq, g⟩ := (readAs R rd e1).lst
      have q1 := readAs R ry e2
      cases e : idxOf x' l with
      | none => rw [e] at p2; exact p2.elim
      | some j =>
        rw [e] at p2
        obtain ⟨z, h1, h2, h3⟩ := idxOf_some e
        obtain ⟨fx, fy⟩ := flat_ok q1 hz.1
        have fl := fun {z : D} {m : Nat} (h : l[m]? = some z) => List.all_eq_true.mp hz.2 z (List.mem_of_getElem? h)
        obtain ⟨u, hu, ru⟩ := g.get h1
        refine mt_index pins s σ H _ _ v us Q I r rs ⟨b, vs, w, j, u, rfl, rfl, SqL.of hq, fx, (flats_ok q1 hz.1 g hz.2).1, hu, ?_, ?_, p2.hereV R (.int _)⟩
        · rw [fy _ _ (.inl ru) (fl h1)]; exact h2
        · intro m z' hm hz'
          obtain ⟨d', hd', rd'⟩ := g.get' hz'
          rw [fy _ _ (.inl rd') (fl hd')]
          exact h3 m d' hm hd'
    · exact p.elim
variable {o e : Expr} {fo fe : EM} {apos cpos : Pos}
theorem d_index (ho : DE X hx o fo) (he : DE X hx e fe) (hbase : attributeBase o "index" X.env (eval o X.env) = eval o X.env := by rfl)
    (hfew : ((backTo cpos (starEach [e] X.env)).all (fun x => !x.1) && (backToKw cpos (keywordEach [] X.env)).all (fun x => x.1.isSome)
      && decide ([e].length + ([] : List Keyword).length + (if ([] : List Keyword).isEmpty then 0 else 1) < 30)) = true := by rfl)
    (hline : (apos.endLine == cpos.line) = true := by rfl) (hs : starEach [e] X.env = (false, eval e X.env) :: starEach [] X.env := by rfl) (hplain : (backTo cpos (starEach [] X.env)).any (·.1) = false := by rfl) :
    DE X hx (.Call (.Attribute o "index" apos) [e] [] cpos) (eM isLst mIndex fo (aCons fe aNil)) :=
  d_m ty_lst F.plainAttrs_list F.slot_list_index F.type_list_index met_index ho (da_cons he da_nil hs) hbase hfew hline hs hplain
end
end Y
end
section
/-! Y21: exceptions held as values. -/
namespace Y
open PySem PySem.Spec PyProof.Rows L2
theorem exv_ok {P : Program} {w : World} {H : Hp} {h : Heap} {a C : Addr} {d : Option Addr} {oe : Obj} {vs : Array Value} (h1 : h.get? a = some oe) (h2 : Zc (.ref C) d oe) (h3 : oe.data = .fields vs) : ObjOk P w H h a (exv a C d) :=
  ⟨⟨oe, vs, h1, h2, h3⟩, ⟨oe, h1⟩, fun h1 h2 ⟨o, v, q1, q2, q3⟩ k => ⟨o, v, k _ q1, q2, q3⟩⟩
theorem exv_at {P : Program} {w : World} {H : Hp} {h : Heap} {a C : Addr} {d : Option Addr} (hok : HOk P w H h) (he : H a = some (exv a C d)) : ∃ (oe : Obj) (vs : Array Value), h.get? a = some oe ∧ Zc (.ref C) d oe ∧ oe.data = .fields vs := by
  have x : ObjOk P w H h a (.ext fun h => ∃ (oe : Obj) (vs : Array Value), h.get? a = some oe ∧ Zc (.ref C) d oe ∧ oe.data = .fields vs) := hok a _ he
  exact x.1
def tMkV (t : L2.St → Hp → XK → Prop) : TE := fun σ H Q => t σ H fun cls d H' => ∃ C, cls = .ref C ∧ ∀ a, H' a = none → Q (.ref a) (upd H' a (exv a C d))
theorem pe_mkv {X : Cx} {e : Expr} {t : L2.St → Hp → XK → Prop} (h : L2.PMk X e t) : PE X e (tMkV t) := by
  refine ⟨fun pins s σ H Q I hh => thn (h pins s σ H _ I hh) fun u s' ⟨a, oe, vs, sI, H', cls, d, eu, J, k, hne, ha, hz, hd, h1, na, os, ag, r, C, ec, q⟩ => ?_⟩
  subst eu ec
  obtain ⟨hp, g, dr, tk, o1⟩ := sI
  obtain ⟨h2, g2, d2, t2, o2⟩ := s'
  have ne : ∀ {b : Addr} {o : Obj}, hp.get? b = some o → b ≠ a := fun {b o} z e => by
    subst e
    rw [hne] at z
    cases z
  have un : Un (frs X.stack) [] H' (upd H' a (exv a C d)) hp h2 := {
    keep := fun b o z _ _ _ => k b o z
    slot := fun b o z _ _ _ => ⟨o.slots, k b o z⟩
    free := fun b o z n _ => by rw [upd_ne (ne z)]; exact n
    there := fun b o z _ => ⟨o, k b o z⟩
    tups := fun b xs z => by rw [upd_ne (ne_of_none z na)]; exact z
    frzs := fun b o u z => by rw [upd_ne (ne_of_none z na)]; exact z
    tbls := fun b ps z => ⟨#[], by rw [upd_ne (ne_of_none z na), z]; simp⟩ }
  have hok : HOk X.prog X.w (upd H' a (exv a C d)) h2 := fun b o z => by
    by_cases hb : b = a
    · subst hb
      rw [upd_same] at z
      cases z
      exact exv_ok ha hz hd
    · rw [upd_ne hb] at z
      exact (J.hok b o z).stay (fun c v _ y => k c v y) (fun c hc => by rw [upd_ne (ne_of_none hc na)]; exact hc) (fun c xs hc => by rw [upd_ne (ne_of_none hc na)]; exact hc)
  exact ⟨.ref a, _, J.call' (ch := []) os un hok ag (fun b z => absurd z (by simp)), rfl, q a na⟩
end Y
end
section
/-! Y22: e.f of an exception held as a value. -/
namespace Y
open PySem PySem.Spec PyProof.Rows L2
/-- the reading: the value's field f -/
def tXv (K : PySem.W.Frag) (f : Str) (te : TE) : TE := fun σ H Q => te σ H fun x H1 => ∃ (a C dd : Addr) (fs : List (Str × V)) (v : V), x = .ref a ∧ H1 a = some (exv a C (some dd)) ∧ XfC K C ∧ PySem.W.findIn K (.ref C) f = some none ∧ H1 dd = some (.xd fs) ∧ fs.lookup f = some v ∧ Q v H1
theorem pe_xv {X : Cx} {e : Expr} {te : TE} {pos : Pos} {n : Str} (he : PE X e te) (hb : attributeBase e n X.env (eval e X.env) = eval e X.env := by rfl) : PE X (.Attribute e n pos) (tXv X.K n te) := by
  refine ⟨fun pins s σ H Q I h => ?_⟩
  refine attr_of hb (thn (he.run pins s σ H _ I h) fun u s1 hh => ?_)
  obtain ⟨x, H1, I1, rx, a, C, dd, fs, v, ex, ea, T, hno, ed, l, q⟩ := hh
  subst ex
  obtain rfl : u = Value.ref a := rx
  obtain ⟨oe, vs, ha, hz, hd⟩ := exv_at I1.hok ea
  have hx : ObjOk X.prog X.w H1 s1.heap dd (.xd fs) := I1.hok dd _ ed
  obtain ⟨mA, hns, hr⟩ := hx
  obtain ⟨od, ho, hl⟩ := lookIn_ns hns
  obtain ⟨u, hu, ru⟩ := RelO.some_of (v := v) (o := mA n) (by rw [← l]; exact hr n)
  have J : PySem.W.InstAt s1.heap a oe C (some od) := by
    refine ⟨ha, hz.1, ?_, ?_⟩
    · unfold PySem.W.notCls
      rw [hd] <;> rfl
    · rw [hz.2]
      exact ho
  have fo := PySem.W.findObj_own T.hdC hno rfl (by rw [hl, hu])
  exact HandSPX.exc_get I1.kIn J T.ga T.gg T.exC fo (handed_of ru) ⟨v, H1, I1.tok _, ru, q⟩
def zipL (n : Str) : List Str → List D → Option D
  | x :: xs, y :: ys => if x = n then some y else zipL n xs ys
  | _, _ => none
theorem zipL_ok {K : PySem.W.Frag} {lv : Addr → Prop} {H : Hp} {n : Str} {y : D} : ∀ {ns : List Str} {l : List D} {vs : List V}, RPs K lv H l vs → zipL n ns l = some y → ∃ v, (ns.zip vs).lookup n = some v ∧ RP K lv H y v
  | [], _, _, _, e => by cases e
  | x :: xs, [], _, _, e => by cases e
  | x :: xs, d :: l, _, .cons r t, e => by
    unfold zipL at e
    rw [List.zip_cons_cons, lookup_put]
    by_cases h : x = n
    · rw [if_pos h] at e
      cases e
      exact ⟨_, by rw [if_pos h.symm], r⟩
    · rw [if_neg h] at e
      obtain ⟨v, h1, h2⟩ := zipL_ok t e
      exact ⟨v, by rw [if_neg (Ne.symm h)]; exact h1, h2⟩
def optD (S : Store) : Option D → Res Wt
  | some y => .ok (.d y) S
  | none => .bad
def xfD (Cs : List Str) (n : Str) (w : Wt) (S : Store) : Res Wt := match w with
  | .d (.exo C ns l) => if C ∈ Cs then optD S (zipL n ns l) else .bad
  | _ => .bad
def eXf (Cs : List Str) (n : Str) (f : EM) : EM := fun σd S => (f σd S).bind fun w S1 => xfD Cs n w S1
theorem d_xv {X : Cx} {hx : Hx} {e : Expr} {f : EM} {pos : Pos} {n : Str} (Cs : List Str) (hC : ∀ C ∈ Cs, XfC X.K (He.ga X.K C) ∧ PySem.W.findIn X.K (.ref (He.ga X.K C)) n = some none) (he : DE X hx e f) (hb : attributeBase e n X.env (eval e X.env) = eval e X.env := by rfl) :
    DE X hx (.Attribute e n pos) (eXf Cs n f) :=
  ⟨fun W tk => PEimp (pe_xv (he.run W tk) hb) fun σ H Q ⟨A, S, σd, R, E, p⟩ => ⟨A, S, σd, R, E, (Post.bind (R1 := rV _) p).mono fun v H1 ⟨A1, S1, d, R1, T1, r1, p1⟩ => by
    unfold xfD at p1
    split at p1
    · rename_i C ns l
      obtain ⟨hm, p1⟩ := Post.iteP p1
      obtain ⟨c1, c2⟩ := hC C hm
      cases q : zipL n ns l with
      | none => rw [q] at p1; exact p1.elim
      | some y =>
        rw [q] at p1
        have r1 : RP X.K (Live A1 S1) H1 (.exo C ns l) v := r1
        cases r1 with
        | exo h0 h1 h2 h3 h4 h5 =>
          obtain ⟨v, l1, l2⟩ := zipL_ok h5 q
          exact ⟨_, _, _, _, v, rfl, h1, c1, c2, h3, l1, p1.hereV R1 l2⟩
        | exo0 h0 h1 => cases q
    · exact p1.elim⟩⟩
end Y
end
section
/-! Y23: isinstance of an exception held as a value. -/
namespace Y
open PySem PySem.Spec PySem.Calls PyProof.Rows L2 PySem.W
section
variable {prog : Program} {w : World} {A : Around} {E : Value → Shared → Prop} {s : Shared} {K : Frag} {x D : Addr} {ox : Obj} {od : Option Obj}
theorem xv_find {a g : Value} {C : Addr} {name : Str} (hc : (clsIn K C).isSome = true) (ha : findIn K (.ref C) name = some (some a)) (hg : specialIn K a "__get__" = some (some g)) (ht : takesIn K a = some true) : findObj K C od name = some (.bind g a) := by
  obtain ⟨cd, hc⟩ := Option.isSome_iff_exists.mp hc
  unfold findObj
  rw [hc, Option.bind_some, ha, Option.bind_some]
  simp [hg, ht]
theorem xv_class {Q : Option Value → Shared → Prop} (c : ExcC K D) (X : K.In s.heap) (I : InstAt s.heap x ox D od) (h : Q (some (.ref D)) { s with toks := s.toks + 1 }) : wpAny (model prog w) A (getAttr? (.ref x) "__class__") Q E s := by
  obtain ⟨cd, hcd, _⟩ := any_some c.hd
  have hf : findObj K D od "__class__" = some (.bind (.builtin "getset_descriptor.__get__") (.builtin "object.__class__")) := xv_find (by rw [hcd]; rfl) c.ha c.hn c.ht
  obtain ⟨hp, g, d, t, os⟩ := s
  have T0 := I.type (M := model prog w)
  have T1 := looks_findIn (M := model prog w) X c.hg
  have T2 := looks_findIn (M := model prog w) X c.hk
  have T3 := looks_find (M := model prog w) X I hf
  have sb : Looks (model prog w) hp (isInstance (.ref x) (.type "BaseException")) true := T0.andThen (looks_subIn X c.hs)
  have n0 : (false && onTheHeap (Value.builtin "BaseException.__getattribute__")) = false := rfl
  have n2 : (Value.builtin "BaseException.__getattribute__" == Value.builtin "object.__getattribute__") = false := by decide +kernel
  have n1 : (onTheHeap (Value.ref D) && Value.builtin "BaseException.__getattribute__" == Value.builtin "object.__getattribute__") = false := by rw [n2]; rfl
  unfold getAttr? getAttrBy? getAttrBy
  refine wpAny_bind (wpAny_mkText (wpAny_bind (wpAny_attempt (wpAny_holding (wpAny_bind (T0.at (wpAny_bind (T1.at ?_))))))))
  show wpAny _ _ (if (onTheHeap (Value.ref D) && Value.builtin "BaseException.__getattribute__" == Value.builtin "object.__getattribute__") = true then _ else _) _ _ _
  rw [n1, if_neg Bool.false_ne_true]
  unfold getAttrByItsOwn hookBefore
  refine wpAny_bind ?_
  rw [if_pos (show onTheHeap (Value.ref D) = true from rfl)]
  refine T2.at (wpAny_bind (wpAny_attempt (wpAny_holding ?_)))
  unfold callGetattribute
  rw [n0, if_neg Bool.false_ne_true]
  unfold boundAndCalled
  rw [PySem.F.excAttr_ValueError.ga.bind (.ref x)]
  refine wpAny_bind (wpAny_pure (wpAny_call (codeAny_call_builtin PySem.F.excAttr_ValueError.ga.plain PySem.F.entry_bexc_ga (@check_slot (model prog w) _ _ ⟨hp, g, d, t + 1, os⟩ "BaseException.__getattribute__" "BaseException" "__getattribute__" (.ref x) [.str "__class__" t] [] _ (by decide +kernel) (by decide +kernel) sb (PySem.F.args_bexc_ga (.ref x) (.str "__class__" t)) ?_))))
  unfold Builtin.«object.__getattribute__»
  refine wpAny_bind (wpAny_of_eq (a := ((Value.ref x : Value), [Value.str "__class__" t])) (by first | rfl | (simp only [slotArgs]; rfl)) (wpAny_bind (wpAny_pure (wpAny_bind (T0.at (wpAny_bind (T3.at ?_)))))))
  show wpAny _ _ (holding [Value.builtin "object.__class__"] (call (.builtin "getset_descriptor.__get__") [.builtin "object.__class__", .ref x, .ref D]) >>= ret) _ _ _
  refine wpAny_bind (wpAny_holding (wpAny_call (class_get (s := ⟨hp, g, d, t + 1, os⟩) (ox := ox) (od := od) X I c.hm (wpAny_pure ?_))))
  show wpAny _ _ (handedOut (.ref D)) _ _ _
  rw [handedOut_of (v := .ref D) rfl]
  first
    | exact wpAny_pure (wpAny_pure h)
    | exact wpAny_pure h
    | exact wpAny_pure (wpAny_bind (wpAny_pure (wpAny_pure h)))
theorem xv_cls (c : ExcC K D) : ∃ o cd, K.lookup D = some o ∧ o.data = .cls cd := by
  obtain ⟨cd, hcd, _⟩ := any_some c.hd
  unfold clsIn at hcd
  split at hcd
  · rename_i c' d' cd' sl' ho
    exact ⟨_, cd', ho, rfl⟩
  · cases hcd
theorem kitx_xv (c : ExcC K D) : KitX K (.ref x) (.ref D) (fun h => ∃ ox od, InstAt h x ox D od) where
  ty := fun _ _ _ ⟨_, _, I⟩ => I.type
  it := fun _ _ X _ => by
    obtain ⟨cd, hcd, _⟩ := any_some c.hd
    unfold clsIn at hcd
    split at hcd
    · rename_i o1 o2 o3 o4 ho
      intro A1 Q1 E1 s1 k q
      unfold isType loadHead
      refine wpAny_bind (wpAny_loadPart (k _ _ (X _ _ ho)) ?_)
      exact wpAny_pure q
    · cases hcd
  ne := fun h tp dd its n sl X htp => by
    refine Bool.eq_false_iff.mpr fun q => ?_
    obtain rfl : D = tp := Value.ref.inj (beq_iff_eq.mp q)
    obtain ⟨o, cd, ho, hd⟩ := xv_cls c
    have z := (X _ _ ho).symm.trans htp
    cases z
    cases hd
  ca := fun X ⟨_, _, I⟩ k => xv_class c X I k
end
end Y
namespace Y
open PySem PySem.Spec PyProof.Rows L2
/-- isinstance(e, c), e an exception held as a value -/
def rIsV (K : PySem.W.Frag) : List V → Hp → VK → Prop := fun xs H Q => ∃ (a D : Addr) (d : Option Addr) (c : V) (cv : Value) (b : Bool), xs = [.ref a, c] ∧ H a = some (exv a D d) ∧ (∀ dd, d = some dd → ∃ fs, H dd = some (.xd fs)) ∧ ExcC K D ∧ (∀ u, RelV c u → u = cv) ∧ PySem.W.kitOne K (.ref D) cv = some b ∧ Q (.bl b) H
theorem call_isV {X : Cx} : CallR X (.builtin "isinstance") (rIsV X.K) := by
  intro pins s σ H xs us Q I r h
  obtain ⟨a, D, d, c, cv, b, rfl, ea, hd, C, hcv, e, q⟩ := h
  cases r with
  | cons rx rr =>
    cases rr with
    | cons rt rr =>
      cases rr
      cases rx
      obtain rfl := hcv _ rt
      obtain ⟨oe, vs, ha, hz, hv⟩ := exv_at I.hok ea
      have nc : PySem.W.notCls oe := by
        unfold PySem.W.notCls
        rw [hv] <;> rfl
      have J : ∃ ox od, PySem.W.InstAt s.heap a ox D od := by
        cases d with
        | none => exact ⟨oe, none, ha, hz.1, nc, by rw [hz.2]; trivial⟩
        | some dd =>
          obtain ⟨fs, hf⟩ := hd dd rfl
          have hx : ObjOk X.prog X.w H s.heap dd (.xd fs) := I.hok dd _ hf
          obtain ⟨mA, hns, _⟩ := hx
          obtain ⟨od, ho, _⟩ := lookIn_ns hns
          exact ⟨oe, some od, ha, hz.1, nc, by rw [hz.2]; exact ho⟩
      exact PySem.W.kia_one (kitx_xv C) I.kIn J e (fun z => nomatch z) fun tk => ⟨.bl b, H, I.kept (t' := tk) fun _ _ z => z, rfl, q⟩
end Y
end
section
/-! Y24: isinstance with exceptions held as values, over D. -/
namespace Y
open PySem PySem.Spec PyProof.Rows L2
def ansB (S : Store) : Option Bool → Res Wt
  | some b => .ok (.d (.bl b)) S
  | none => .bad
/-- tb: the answers, by the class's name and the name (or the built-in type) that is asked -/
def bIsX (tb : Str → D → Option Bool) : List Wt → Store → Res Wt := fun ds S => match ds with
  | [.d (.exo C ns l), .d c] => ansB S (tb C c)
  | _ => .bad
def IsTb (K : PySem.W.Frag) (tb : Str → D → Option Bool) : Prop := ∀ C c b, tb C c = some b → ExcC K (He.ga K C) ∧ ∃ v cv, (∀ lv H v', RP K lv H c v' → v' = v) ∧ (∀ u, RelV v u → u = cv) ∧ PySem.W.kitOne K (.ref (He.ga K C)) cv = some b
theorem cal_isX {X : Cx} {hx : Hx} {tb : Str → D → Option Bool} (ht : IsTb X.K tb) : CalD X hx (.builtin "isinstance") (bIsX tb) := by
  intro W pins s σ H xs us Q I r h
  obtain ⟨A, S, σ', ds, R, rd, p⟩ := h
  unfold bIsX at p
  split at p
  · rename_i C ns l c
    obtain ⟨v, u, rfl, r1, r2⟩ := rvs2 rd
    cases q : tb C c with
    | none => rw [q] at p; exact p.elim
    | some b =>
      rw [q] at p
      obtain ⟨hE, v0, cv, h1, h2, h3⟩ := ht C c b q
      have r1 : RP X.K (Live A S) H (.exo C ns l) v := r1
      have r2 : RP X.K (Live A S) H c u := r2
      obtain rfl := h1 _ _ _ r2
      cases r1 with
      | exo e0 e1 e2 e3 e4 e5 => exact call_isV pins s σ H _ us Q I r ⟨_, _, _, _, cv, b, rfl, e1, fun dd hd => by cases hd; exact ⟨_, e3⟩, hE, h2, h3, p.hereV R (.bl _)⟩
      | exo0 e0 e1 => exact call_isV pins s σ H _ us Q I r ⟨_, _, _, _, cv, b, rfl, e1, (fun dd hd => nomatch hd), hE, h2, h3, p.hereV R (.bl _)⟩
  · exact p.elim
end Y
end
section
/-! Y25: an exception class's own __init__ that keeps what it is given. -/
namespace Y
open PySem PySem.Spec PyProof.Rows L2
/-- self.f = what is given -/
def spI1 (K : PySem.W.Frag) (f : Str) : Sp := fun vs H Q E => ∃ (a C : Addr) (y : V), vs = [.ref a, y] ∧ OexC K C ∧ PySem.W.findIn K (.ref C) f = some none ∧ H a = some (L2.exo a C none) ∧
  ∀ dx, H dx = none → dx ≠ a → Q .non (upd (upd H dx (exd dx [(f, y)])) a (L2.exo a C (some dx)))
def spI2 (K : PySem.W.Frag) (f g : Str) : Sp := fun vs H Q E => ∃ (a C : Addr) (y z : V), vs = [.ref a, y, z] ∧ OexC K C ∧ PySem.W.findIn K (.ref C) f = some none ∧ PySem.W.findIn K (.ref C) g = some none ∧ H a = some (L2.exo a C none) ∧
  ∀ dx, H dx = none → dx ≠ a → Q .non (upd (upd (upd H dx (exd dx [(f, y)])) a (L2.exo a C (some dx))) dx (exd dx [(g, z), (f, y)]))
section
variable {P : Program} {w : World} {K : PySem.W.Frag} {mg : Str → Option Value} {base : Heap} {CX : CXT} {x qual f g s0 y0 z0 : Str} {params : Arguments} {scope : Scope} {fI : Addr} {fd : FuncData} {k : Nat} {p1 p2 p3 p4 p5 p6 p7 p8 : Pos}
theorem ini1_ok (F : FunD K x qual params [.Assign [.Attribute (.Name s0 p1) f p2] (.Name y0 p3) p4] scope [] [] fI fd) (Sc : FnScope [s0, y0] [s0, y0] scope)
    (v0 : Vis scope s0) (v1 : Vis scope y0) (d0 : (s0 == ("__debug__" : Str)) = false := by decide) (c0 : (s0 == ("__classdict__" : Str)) = false := by decide) (d1 : (y0 == ("__debug__" : Str)) = false := by decide) (c1 : (y0 == ("__classdict__" : Str)) = false := by decide) :
    FnOk P w K mg base CX (k + 1) fI fd [s0, y0] (spI1 K f) := by
  refine F.ok Sc (fun vs H Q E h => ?_) fun cdv A outer s H vs Q E hr h => ?_
  · obtain ⟨a, C, y, rfl, _⟩ := h
    rfl
  · obtain ⟨a, C, y, rfl, T, hno, ea, q⟩ := h
    refine ⟨_, pss_one (ps_ost (pv 0 rfl v0 d0 c0) (pv 1 rfl v1 d1 c1)), ?_⟩
    exact ⟨y, rfl, .ref a, rfl, a, C, rfl, T, hno, .inl ⟨ea, q⟩⟩
theorem ini2_ok (F : FunD K x qual params [.Assign [.Attribute (.Name s0 p1) f p2] (.Name y0 p3) p4, .Assign [.Attribute (.Name s0 p5) g p6] (.Name z0 p7) p8] scope [] [] fI fd) (Sc : FnScope [s0, y0, z0] [s0, y0, z0] scope)
    (v0 : Vis scope s0) (v1 : Vis scope y0) (v2 : Vis scope z0) (d0 : (s0 == ("__debug__" : Str)) = false := by decide) (c0 : (s0 == ("__classdict__" : Str)) = false := by decide) (d1 : (y0 == ("__debug__" : Str)) = false := by decide) (c1 : (y0 == ("__classdict__" : Str)) = false := by decide)
    (d2 : (z0 == ("__debug__" : Str)) = false := by decide) (c2 : (z0 == ("__classdict__" : Str)) = false := by decide) : FnOk P w K mg base CX (k + 1) fI fd [s0, y0, z0] (spI2 K f g) := by
  refine F.ok Sc (fun vs H Q E h => ?_) fun cdv A outer s H vs Q E hr h => ?_
  · obtain ⟨a, C, y, z, rfl, _⟩ := h
    rfl
  · obtain ⟨a, C, y, z, rfl, T, hno, hno2, ea, q⟩ := h
    refine ⟨_, pss_cons (ps_ost (pv 0 rfl v0 d0 c0) (pv 1 rfl v1 d1 c1)) (pss_one (ps_ost (pv 0 rfl v0 d0 c0) (pv 2 rfl v2 d2 c2))), ?_⟩
    refine ⟨y, rfl, .ref a, rfl, a, C, rfl, T, hno, .inl ⟨ea, fun dx hn hne => ?_⟩⟩
    exact ⟨z, rfl, .ref a, rfl, a, C, rfl, T, hno2, .inr ⟨dx, [(f, y)], upd_same, by rw [upd_ne hne, upd_same], (show 1 ≤ 900 by omega), q dx hn hne⟩⟩
end
end Y
end
section
/-! Y26: C(e), C an own exception class that keeps what it is given, as a value. -/
namespace Y
open PySem PySem.Spec PyProof.Rows L2
theorem Post.exo {c : Cn} {σ : L2.St} {A : Ads} {S : Store} {H : Hp} {Q : V → Hp → Prop} {C : Str} {ns : List Str} {l : List D} {vs : List V} {p a : Addr} (q : Post c (rV c) σ A S H Q (.ok (.d (.exo C ns l)) S)) (R : Rel c.K A S H) (r : RPs c.K (Live A S) H l vs) (hl : ns.length = l.length) (h : H p = none)
    (ha : upd H p (.xd (ns.zip vs)) a = none) : Q (.ref a) (upd (upd H p (.xd (ns.zip vs))) a (exv a (He.ga c.K C) (some p))) := by
  have R1 := R.new (o := .xd (ns.zip vs)) h
  have R2 := R1.new (o := exv a (He.ga c.K C) (some p)) ha
  have ne : p ≠ a := fun e => by
    subst e
    rw [upd_same] at ha
    cases ha
  exact q A _ _ R2 ((Stp.new h).trans (Stp.new ha)) (RV.of (.exo (notLive_new R1 ha) upd_same (notLive_new R h) (by rw [upd_ne ne, upd_same]) hl (fr_new R1 ha (fr_new R h r))))
theorem heap_mk {H : Hp} {a d : Addr} {o1 o2 o3 o4 : HO} (ha : H a = none) (ne : d ≠ a) : upd (del (upd (upd (upd H a o1) d o2) a o3) a) d o4 = upd H d o4 := by
  funext b
  by_cases hd : b = d
  · rw [hd, upd_same, upd_same]
  · rw [upd_ne hd, upd_ne hd]
    by_cases hb : b = a
    · rw [hb, del_same, ha]
    · rw [del_ne hb, upd_ne hb, upd_ne hd, upd_ne hb]
theorem fzC_nexc {S S' : Store} {n : Nat} {C : Str} {ns : List Str} {l : List D} : ∀ {o : Option Cell}, fzC S n o = .exc C ns l S' → False
  | none, h => by cases h
  | some .dead, h => by cases h
  | some (.lst _), h => by cases h
  | some (.dK _), h => by cases h
  | some (.frz _), h => by cases h
  | some (.ins _ _), h => by cases h
theorem fz1_nexc {S S' : Store} {C : Str} {ns : List Str} {l : List D} : ∀ {w : Wt}, fz1 S w = .exc C ns l S' → False
  | .d _, h => by cases h
  | .loc _, h => fzC_nexc h
  | .hex _ _ _, h => by cases h
/-- what is known of the class at the name C whose __init__ keeps one thing -/
structure Ini1 (P : Program) (w : World) (K : PySem.W.Frag) (mg : Str → Option Value) (base : Heap) (C f : Str) (k : Nat) : Prop where
  is : ∃ (fI : Addr) (fd : FuncData) (ps : List Str), OexC K (He.ga K C) ∧ PySem.W.findIn K (.ref (He.ga K C)) "__init__" = some (some (.ref fI)) ∧ PySem.W.typeIn K (.ref fI) = some (.type "function") ∧
    FnOk P w K mg base (L2.CX P w) k fI fd ps (spI1 K f) ∧ Binds K fd ps [] ∧ PySem.W.findIn K (.ref (He.ga K C)) f = some none ∧ mg C = some (.ref (He.ga K C))
def mk1D (C f : Str) (ws : List Wt) (S : Store) : Res Wt := match ws with
  | [w] => (fz1 S w).bind fun x S2 => .ok (.d (.exo C [f] [x])) S2
  | _ => .bad
def eMk1 (C f : Str) (g : AM) : EM := fun σd S => (g σd S).bind fun ws S1 => mk1D C f ws S1
theorem d_mk1 {X : Cx} {hx : Hx} {C f : Str} {k : Nat} {e : Expr} {es : List Expr} {g : AM} {p pos : Pos} (G : Ini1 X.prog X.w X.K X.mg X.base C f k) (hr : Room (k + 1) X.A) (ha : DA X hx (e :: es) g) (hg : Gl X C := by rfl)
    (hdb : (C == ("__debug__" : Str)) = false := by decide) (he : starEach (e :: es) X.env = (false, eval e X.env) :: starEach es X.env := by rfl) (hpl : (backTo pos (starEach es X.env)).any (·.1) = false := by rfl) :
    DE X hx (.Call (.Name C p) (e :: es) [] pos) (eMk1 C f g) := by
  obtain ⟨fI, fd, ps, T, iC, tI, F1, hb, hno, hm⟩ := G.is
  refine ⟨fun W tk => PEimp (pe_mkv (pmk_oex T iC tI F1 hr hb .nil (fun pins σ H s e s' I c => tk e s' (XE.of_call (σ := σ) I (fun _ _ _ h => h.elim) c)) hg hm (ha.run W tk) hdb he hpl)) fun σ H Q h => ?_⟩
  obtain ⟨A, S, σd, R, E, p⟩ := h
  refine ⟨A, S, σd, R, E, (Post.bind (R1 := rVs _) p).mono fun us H1 ⟨A1, S1, ds, R1, T1, r1, p1⟩ => ?_⟩
  unfold mk1D at p1
  split at p1
  · rename_i w0
    obtain ⟨y, rfl, ry⟩ := rvs1 r1
    cases q : fz1 S1 w0 with
    | bad => rw [q] at p1; exact p1.elim
    | exc _ _ _ _ => exact (fz1_nexc q).elim
    | ok x S2 =>
      rw [q] at p1
      obtain ⟨R2, T2, r2⟩ := fz1_ok R1 ry q
      refine ⟨by show 1 ≤ 1000; omega, fun a hn => ?_⟩
      refine ⟨a, He.ga X.K C, y, rfl, T, hno, upd_same, fun d hd ne => ?_⟩
      have hd1 : H1 d = none := by rw [upd_ne ne] at hd; exact hd
      refine ⟨rfl, d, [(f, y)], upd_same, by rw [upd_ne ne, upd_same], hd1, He.ga X.K C, rfl, fun a' ha' => ?_⟩
      rw [heap_mk hn ne] at ha' ⊢
      exact Post.exo (c := ⟨X.K, hx, W⟩) (σ := σ) (ns := [f]) (vs := [y]) (fun A3 H3 v R3 T3 r3 => p1 A3 H3 v R3 (T2.trans T3) r3) R2 (.one r2) rfl hd1 ha'
  · exact p1.elim
end Y
end
section
/-! Y27: C(e, e2), C an own exception class that keeps two things, as a value. -/
namespace Y
open PySem PySem.Spec PyProof.Rows L2
theorem heap_mk2 {H : Hp} {a d : Addr} {o1 o2 o3 o4 o5 : HO} (ha : H a = none) (ne : d ≠ a) : upd (del (upd (upd (upd (upd H a o1) d o2) a o3) d o5) a) d o4 = upd H d o4 := by
  funext b
  by_cases hd : b = d
  · rw [hd, upd_same, upd_same]
  · rw [upd_ne hd, upd_ne hd]
    by_cases hb : b = a
    · rw [hb, del_same, ha]
    · rw [del_ne hb, upd_ne hd, upd_ne hb, upd_ne hd, upd_ne hb]
structure Ini2 (P : Program) (w : World) (K : PySem.W.Frag) (mg : Str → Option Value) (base : Heap) (C f g : Str) (k : Nat) : Prop where
  is : ∃ (fI : Addr) (fd : FuncData) (ps : List Str), OexC K (He.ga K C) ∧ PySem.W.findIn K (.ref (He.ga K C)) "__init__" = some (some (.ref fI)) ∧ PySem.W.typeIn K (.ref fI) = some (.type "function") ∧
    FnOk P w K mg base (L2.CX P w) k fI fd ps (spI2 K f g) ∧ Binds K fd ps [] ∧ PySem.W.findIn K (.ref (He.ga K C)) f = some none ∧ PySem.W.findIn K (.ref (He.ga K C)) g = some none ∧ mg C = some (.ref (He.ga K C))
def mk2D (C f g : Str) (ws : List Wt) (S : Store) : Res Wt := match ws with
  | [.d x, .d y] => .ok (.d (.exo C [g, f] [y, x])) S
  | _ => .bad
def eMk2 (C f g : Str) (h : AM) : EM := fun σd S => (h σd S).bind fun ws S1 => mk2D C f g ws S1
theorem d_mk2 {X : Cx} {hx : Hx} {C f g : Str} {k : Nat} {e : Expr} {es : List Expr} {h : AM} {p pos : Pos} (G : Ini2 X.prog X.w X.K X.mg X.base C f g k) (hr : Room (k + 1) X.A) (ha : DA X hx (e :: es) h) (hg : Gl X C := by rfl)
    (hdb : (C == ("__debug__" : Str)) = false := by decide) (he : starEach (e :: es) X.env = (false, eval e X.env) :: starEach es X.env := by rfl) (hpl : (backTo pos (starEach es X.env)).any (·.1) = false := by rfl) :
    DE X hx (.Call (.Name C p) (e :: es) [] pos) (eMk2 C f g h) := by
  obtain ⟨fI, fd, ps, T, iC, tI, F1, hb, hno, hno2, hm⟩ := G.is
  refine ⟨fun W tk => PEimp (pe_mkv (pmk_oex T iC tI F1 hr hb .nil (fun pins σ H s e s' I c => tk e s' (XE.of_call (σ := σ) I (fun _ _ _ h => h.elim) c)) hg hm (ha.run W tk) hdb he hpl)) fun σ H Q q => ?_⟩
  obtain ⟨A, S, σd, R, E, p⟩ := q
  refine ⟨A, S, σd, R, E, (Post.bind (R1 := rVs _) p).mono fun us H1 ⟨A1, S1, ds, R1, T1, r1, p1⟩ => ?_⟩
  unfold mk2D at p1
  split at p1
  · rename_i x0 y0
    obtain ⟨x, y, rfl, rx, ry⟩ := rvs2 r1
    have rx : RP X.K (Live A1 S1) H1 x0 x := rx
    have ry : RP X.K (Live A1 S1) H1 y0 y := ry
    refine ⟨by show 2 ≤ 1000; omega, fun a hn => ?_⟩
    refine ⟨a, He.ga X.K C, x, y, rfl, T, hno, hno2, upd_same, fun d hd ne => ?_⟩
    have hd1 : H1 d = none := by rw [upd_ne ne] at hd; exact hd
    refine ⟨rfl, d, [(g, y), (f, x)], by rw [upd_ne (Ne.symm ne), upd_same], upd_same, hd1, He.ga X.K C, rfl, fun a' ha' => ?_⟩
    rw [heap_mk2 hn ne] at ha' ⊢
    exact Post.exo (c := ⟨X.K, hx, W⟩) (σ := σ) (ns := [g, f]) (vs := [y, x]) p1 R1 (.cons ry (.one rx)) rfl hd1 ha'
  · exact p1.elim
end Y
end
section
/-! Y28: C(), C an own exception class without an own __init__, as a value. -/
namespace Y
open PySem PySem.Spec PyProof.Rows L2
theorem pmk_own0 {X : Cx} {C : Addr} {bmB : List Value} {B newId initId : String} {x : Str} {p pos : Pos} (F : ExcBaseFacts B newId initId bmB) (q : PySem.W.excIn X.K C bmB newId = true) (gC : X.mg x = some (.ref C)) (kC : PySem.W.keepIn X.K (.ref C) = true)
    (r : Raises X (.ref C)) (hg : Gl X x) (hdb : (x == ("__debug__" : Str)) = false := by decide) : L2.PMk X (.Call (.Name x p) [] [] pos) (fun _ H Q => Q (.ref C) none H) := by
  intro pins s σ H Q I h
  refine wpAny_Call_Name_kw (ld_glob I hg gC ?_ hdb)
  refine PySem.W.callWith_KW0 (kws := []) (env := X.env) (h₀ := X.base) I.ok.mod.kin kC rfl (wpAny_evalAll_nil ⟨I.kIn, ?_⟩) rfl
  show wpAny _ _ (call (.ref C) []) _ _ _
  obtain ⟨bm, N, nm, qn, bs, hdct, sn, sub, ab, col, dd, k0, k1, k2, k3, k5, mN, hC, hN, hni, T⟩ := exc_obj I.kIn q
  refine wpAny_call_exc_subT F T hC hN hni (fun h' e hm => mk_of I hm r h (I.hok.gone hm.new)) ?_
  exact Nat.zero_le _
/-- what is known of such a class -/
structure Ini0 (P : Program) (w : World) (K : PySem.W.Frag) (mg : Str → Option Value) (C : Str) : Prop where
  is : ∃ (bmB : List Value) (B newId initId : String), ExcBaseFacts B newId initId bmB ∧ PySem.W.excIn K (He.ga K C) bmB newId = true ∧ PySem.W.subIn K (.ref (He.ga K C)) (.type "BaseException") = some true ∧
    PySem.W.typeIn K (.ref (He.ga K C)) = some (.type "type") ∧ PySem.W.keepIn K (.ref (He.ga K C)) = true ∧ mg C = some (.ref (He.ga K C))
def eMk0 (C : Str) : EM := fun σd S => .ok (.d (.exo C [] [])) S
theorem d_mk0 {X : Cx} {hx : Hx} {C : Str} {p pos : Pos} (G : Ini0 X.prog X.w X.K X.mg C) (hg : Gl X C := by rfl) (hdb : (C == ("__debug__" : Str)) = false := by decide) : DE X hx (.Call (.Name C p) [] [] pos) (eMk0 C) := by
  obtain ⟨bmB, B, newId, initId, F, q, s1, s2, kC, hm⟩ := G.is
  refine ⟨fun W tk => PEimp (pe_mkv (pmk_own0 F q hm kC (raises_own s1 s2) hg hdb)) fun σ H Q ⟨A, S, σd, R, E, p⟩ => ⟨_, rfl, fun a ha => ?_⟩⟩
  exact p A _ _ (R.new ha) (Stp.new ha) (RV.of (.exo0 (notLive_new R ha) upd_same))
end Y
end
section
set_option maxHeartbeats 2000000
/-! Y29: an own exception class called with keywords. -/
namespace PySem
namespace YK
open PySem.W PySem.Calls PyProof.Rows PySem.HandSPX
section
variable {M : Model} {A : Around} {E : Value → Shared → Prop} {h : Heap} {g : Array GenState} {d : Drawn} {t : Nat} {os : OsState}
variable {nm q : Str} {C N : Addr} {bs bm bmB : List Value} {hdct : Bool} {sn : List Str} {sub : List Value} {ab : Bool} {col : Option Bool} {dd : Option Addr} {k0 k1 k2 k3 k5 : Option Value} {B newId initId : String} {kw : List (Str × Value)}
theorem newK_check (F : ExcBaseFacts B newId initId bmB) (hT : ∀ X : String, bm.contains (.type X) = bmB.contains (.type X)) {rest : List Value} {Q : Unit → Shared → Prop}
    (hC : h.get? C = some (excClassObj nm q C N bs bm hdct sn sub ab col dd k0 k1 k2 k3 k5 newId)) (hq : Q () ⟨h, g, d, t, os⟩) : wpAny M A (checkBuiltinCall newId ⟨.ref C :: rest, kw⟩) Q E ⟨h, g, d, t, os⟩ := by
  have hcont : (Value.ref C :: bm).contains (.type B) = true := by rw [List.contains_cons, hT, F.hasB, Bool.or_true]
  have hstar := F.noStar
  simp only [checkBuiltinCall, F.newKind, F.newSplit, F.newRow]
  repeat (first | refine wpAny_loadPart_at hC ?_ | (refine wpAny_isSubtype_exc hC ?_; rw [hcont]) | refine wpAny_staticBase_exc hC ?_ | refine wpAny_madeBy_exc hC ?_ | simp only [bne_self_eq_false, Bool.false_eq_true, if_false] | wp_step)
  exact hq
theorem tcK_check {M : Model} {rest : List Value} {Q : Unit → Shared → Prop} (hC : h.get? C = some (excClassObj nm q C N bs bm hdct sn sub ab col dd k0 k1 k2 k3 k5 newId))
    (hq : Q () ⟨h, g, d, t, os⟩) : wpAny M A (checkBuiltinCall "type.__call__" ⟨.ref C :: rest, kw⟩) Q E ⟨h, g, d, t, os⟩ := by
  have f3 := tc_sub
  have hT : (⟨h, g, d, t, os⟩ : Shared).TypeIs (.ref C) "type" := ⟨_, hC, rfl⟩
  simp only [checkBuiltinCall, tc_kind, tc_split]
  repeat (any_goals (first | assumption | with_reducible refine wpAny_loadPart_at hC ?_ | with_reducible refine wpAny_onRaise ?_ | with_reducible refine wpAny_map ?_ | wp_step))
end
section
variable {prog : Program} {w : World} {A : Around} {E : Value → Shared → Prop} {R : Result → Shared → Prop} {h : Heap} {g : Array GenState} {d : Drawn} {t : Nat} {os : OsState}
variable {nm q : Str} {C N : Addr} {bs bm bmB : List Value} {hdct : Bool} {sn : List Str} {sub : List Value} {ab : Bool} {col : Option Bool} {dd : Option Addr} {k0 k1 k2 k3 k5 : Option Value} {B newId initId : String} {kw : List (Str × Value)}
theorem newK (F : ExcBaseFacts B newId initId bmB) (hT : ∀ X : String, bm.contains (.type X) = bmB.contains (.type X)) {rest : List Value}
    (hC : h.get? C = some (excClassObj nm q C N bs bm hdct sn sub ab col dd k0 k1 k2 k3 k5 newId))
    (hq : R (.ok (.ret (.ref (h.objs.size + 1)))) ⟨(h.push { cls := .type "tuple", data := .seq rest.toArray }).push
      { cls := .ref C, data := .fields #[.ref h.objs.size, .none, .none, .none, .bool false, .none] }, g, d, t, os⟩) (hrest : rest.length ≤ sizeLine) :
    codeAny (model prog w) A (.builtin newId ⟨.ref C :: rest, kw⟩) R ⟨h, g, d, t, os⟩ := by
  have hends := F.ends
  have hcB : (Value.ref C :: bm).contains (.type B) = true := by rw [List.contains_cons, hT, F.hasB, Bool.or_true]
  have hcA : (Value.ref C :: bm).contains (.type "AttributeError") = false := by rw [List.contains_cons, hT, F.noAttr]; rfl
  have hcN : (Value.ref C :: bm).contains (.type "NameError") = false := by rw [List.contains_cons, hT, F.noName]; rfl
  refine codeAny_builtinAt F.entry ?_
  unfold Builtin.«BaseException.__new__»
  refine wpAt_bind ?_
  show wpAt _ _ _ (stack >>= _) _ _ _
  refine wpAt_bind (wpAt_stack fun p below => wpAt_of_wpAny ?_)
  wp_walk
  refine wpAt_of_wpAny ?_
  rw [F.owner]
  repeat (first | with_reducible refine wpAny_madeHere_exc F.canon hC ?_ | with_reducible refine wpAny_loadPart_at hC ?_ | (with_reducible refine wpAny_isSubtype_exc hC ?_; first | rw [hcB] | rw [hcA] | rw [hcN]) | wp_step)
  show R _ _
  rw [Heap.size_push]
  exact hq
theorem typeK (F : ExcBaseFacts B newId initId bmB) (hT : ∀ X : String, bm.contains (.type X) = bmB.contains (.type X)) {rest : List Value} {fI : Addr} {Q : Fin → Shared → Prop}
    (hC : h.get? C = some (excClassObj nm q C N bs bm hdct sn sub ab col dd k0 k1 k2 k3 k5 newId))
    (hi : PySem.W.Looks (model prog w) h (typeLookup (.ref C) "__init__") (some (.ref fI))) (hb : ∀ self, PySem.W.Looks (model prog w) h (bindSpecial (.ref fI) self) (.ref fI, [self])) (hrest : rest.length ≤ sizeLine)
    (hq : codeAny (model prog w) A (.call (.ref fI) ⟨.ref (h.objs.size + 1) :: rest, kw⟩)
      (fun r s' => match r with | .ok (.ret v) => v = .none ∧ Q (.done (.ret (.ref (h.objs.size + 1)))) s' | .ok _ => False | .error e => E e s')
      ⟨(h.push (PySem.W.kdv_tup rest)).push (excO C h.objs.size), g, d, t, os⟩) :
    wpAny (model prog w) A (Builtin.«type.__call__» ⟨.ref C :: rest, kw⟩) Q E ⟨h, g, d, t, os⟩ := by
  repeat (first | with_reducible refine wpAny_loadPart_at hC ?_ | with_reducible refine wpAny_madeBy_exc hC ?_ | wp_step)
  refine codeAny_call_builtin_code (Code.quiet_builtin _ F.quiet) (newK_check F hT hC ?_)
  refine newK F hT hC ?_ hrest
  show wpAny _ _ _ _ _ _
  have k : ∀ b o, h.get? b = some o → ((h.push (PySem.W.kdv_tup rest)).push (excO C h.objs.size)).get? b = some o := fun b o e => Heap.get?_push_of_some _ (Heap.get?_push_of_some _ e)
  have hC₁ := k _ _ hC
  have hget : ((h.push (PySem.W.kdv_tup rest)).push (excO C h.objs.size)).get? (h.objs.size + 1) = some (excO C h.objs.size) := by heap_get
  have hcC : (Value.ref C :: bm).contains (.ref C) = true := by simp
  have i1 := hi.keeps k
  have b1 := (hb (.ref (h.objs.size + 1))).keeps k
  unfold isInstance
  repeat (first | with_reducible refine wpAny_loadPart_at hget ?_ | (with_reducible refine wpAny_isSubtype_exc hC₁ ?_; rw [hcC]) | wp_step)
  show wpAny _ _ (typeLookup (.ref C) _) _ _ _
  refine i1.at ?_
  refine wpAny_holding (wpAny_bind (b1.at ?_))
  refine wpAny_bind (wpAny_call (codeAny_mono hq fun r s' z => ?_))
  rcases r with e | (v | _ | _ | _) <;> first | exact z | exact z.elim | skip
  obtain ⟨rfl, z⟩ := z
  first
    | exact wpAny_pure (wpAny_pure z)
    | (wp_walk; exact z)
theorem ownK (F : ExcBaseFacts B newId initId bmB) (hT : ∀ X : String, bm.contains (.type X) = bmB.contains (.type X)) {rest : List Value} {fI : Addr}
    (hC : h.get? C = some (excClassObj nm q C N bs bm hdct sn sub ab col dd k0 k1 k2 k3 k5 newId))
    (hi : PySem.W.Looks (model prog w) h (typeLookup (.ref C) "__init__") (some (.ref fI))) (hb : ∀ self, PySem.W.Looks (model prog w) h (bindSpecial (.ref fI) self) (.ref fI, [self])) (hrest : rest.length ≤ sizeLine)
    (hq : codeAny (model prog w) (A.under (.builtin "type.__call__" ⟨.ref C :: rest, kw⟩)) (.call (.ref fI) ⟨.ref (h.objs.size + 1) :: rest, kw⟩) (PySem.W.InitBack (h.objs.size + 1) R)
      ⟨(h.push (PySem.W.kdv_tup rest)).push (excO C h.objs.size), g, d, t, os⟩) :
    codeAny (model prog w) A (.call (.ref C) ⟨rest, kw⟩) R ⟨h, g, d, t, os⟩ := by
  have f1 := tc_lookup
  have f2 := tc_bind (.ref C)
  have hTy : (⟨h, g, d, t, os⟩ : Shared).TypeIs (.ref C) "type" := ⟨_, hC, rfl⟩
  refine codeAny_of_tree ?_
  show wpAny _ _ (callAny (.ref C) _) _ _ _
  repeat (any_goals (first | assumption | with_reducible refine wpAny_loadPart_at hC ?_ | wp_step))
  refine ⟨rfl, ?_⟩
  refine codeAny_call_builtin_at (Code.quiet_builtin _ (by decide +kernel)) entry_typeCall (tcK_check hC (typeK F hT hC hi hb hrest ?_))
  refine codeAny_mono hq fun r s' z => ?_
  rcases r with e | (v | _ | _ | _) <;> exact z
end
end YK
end PySem
namespace Y
open PySem PySem.Spec PyProof.Rows L2
section
variable {X : Cx} {kws : List Keyword} {tk : TA} {p pos : Pos}
theorem pmk_kw {CX : CXT} {x : Str} {C fI : Addr} {k : Nat} {fd : FuncData} {ps ks : List Str} {sp : Sp} {gg : List Value → List Value → List Value} {gV : List V → List V → List V} (T : OexC X.K C) (iC : PySem.W.findIn X.K (.ref C) "__init__" = some (some (.ref fI))) (tI : PySem.W.typeIn X.K (.ref fI) = some (.type "function"))
    (F1 : FnOk X.prog X.w X.K X.mg X.base CX k fI fd ps sp) (hr : Room (k + 1) X.A) (hb : KBn X.K fd ps 1 ks gg gV) (hx : Passes CX X (fun _ _ _ => False)) (hg : Gl X x) (hm : X.mg x = some (.ref C)) (ha : PK X kws tk)
    (hdb : (x == ("__debug__" : Str)) = false := by decide) (hall : (backToKw pos (keywordEach kws X.env)).all (·.1.isSome) = true := by rfl) (hks : (backToKw pos (keywordEach kws X.env)).filterMap (·.1) = ks := by rfl)
    (hpl : ((backTo pos (starEach [] X.env)).any (·.1) || (backToKw pos (keywordEach kws X.env)).any (·.1.isNone)) = false := by rfl) :
    L2.PMk X (.Call (.Name x p) [] kws pos) (fun σ H Q => tk σ H fun vs H1 => vs.length = ks.length ∧ ∀ a, H1 a = none → sp (gV [.ref a] vs) (upd H1 a (L2.exo a C none))
      (fun v H2 => v = .non ∧ ∃ (d : Addr) (fs : List (Str × V)), H2 a = some (L2.exo a C (some d)) ∧ H2 d = some (exd d fs) ∧ H1 d = none ∧ Q (.ref C) (some d) (upd (del H2 a) d (.xd fs))) (fun _ _ _ => False)) := by
  intro pins s σ H Q I h
  obtain ⟨nm, q, N, bs, bm, sn, sub, ab, col, dd, k0, k1, k2, k3, k5, hC, hbm⟩ := T.cls
  refine wpAny_Call_Name_kw (ld_glob I hg hm ?_ hdb)
  refine PySem.W.callWith_KW0 (h₀ := X.base) I.ok.mod.kin T.kC hall ?_ hpl
  refine thn (ha.run pos pins s σ H _ I h) fun us s1 ⟨vs, H1, I1, r1, hz, q1⟩ => ⟨I1.kIn, ?_⟩
  rw [hks]
  show wpAny _ _ (call (.ref C) [] _) _ _ _
  obtain ⟨hp, g, dr, tk, os⟩ := s1
  have hsz : hp.objs.size ≤ hp.objs.size + 1 := Nat.le_succ _
  have hn : H1 (hp.objs.size + 1) = none := I1.hok.fresh hsz
  have hq := q1 (hp.objs.size + 1) hn
  have kk : ∀ b o, hp.get? b = some o → ((hp.push (PySem.W.kdv_tup [])).push (PySem.HandSPX.excO C hp.objs.size)).get? b = some o := fun b o e => Heap.get?_push_of_some _ (Heap.get?_push_of_some _ e)
  have hget : ((hp.push (PySem.W.kdv_tup [])).push (PySem.HandSPX.excO C hp.objs.size)).get? (hp.objs.size + 1) = some (PySem.HandSPX.excO C hp.objs.size) := by heap_get
  have I2 : Inv X pins σ (upd H1 (hp.objs.size + 1) (L2.exo (hp.objs.size + 1) C none)) ⟨(hp.push (PySem.W.kdv_tup [])).push (PySem.HandSPX.excO C hp.objs.size), g, dr, tk, os⟩ :=
    I1.laid (t' := tk) (a := hp.objs.size + 1) (o := L2.exo (hp.objs.size + 1) C none) (h' := (hp.push (PySem.W.kdv_tup [])).push (PySem.HandSPX.excO C hp.objs.size)) kk hsz (exo_ok hget)
  have r0 : Vals [V.ref (hp.objs.size + 1)] [Value.ref (hp.objs.size + 1)] := .cons rfl .nil
  have r2 := hb.rel r0 r1
  have hl : us.length = ks.length := by rw [← hz]; exact (Paired.length r1).symm
  refine wpAny_call (PySem.YK.ownK F.excBase_ValueError (fun Y => PySem.HandSPX.refsVE_contains Y bm hbm) (I1.kIn _ _ hC) (PySem.W.looks_findIn I1.kIn iC) (fun self => PySem.W.bind_fn I1.kIn self tI) (by simp)
    (codeAny_mono (F1.run _ X.stack _ _ ⟨[Value.ref (hp.objs.size + 1)], ks.zip us⟩ (gg [Value.ref (hp.objs.size + 1)] us) _ _ (fun _ _ _ => False) (hr.make C [] _) (I2.env0.make C [] _) (hb.to _ [Value.ref (hp.objs.size + 1)] us I2.kIn rfl hl) r2 hq) fun r s' hq' => ?_))
  cases r with
  | error er => exact hx pins σ _ _ er s' I2 hq'
  | ok fl =>
    cases fl with
    | ret u =>
      obtain ⟨v, H2, os2, bare2, un2, hok2, rv, ev, d, fs, ea, ed, hd1, q2⟩ := hq'
      subst ev
      obtain ⟨h2, g2, d2, t2, os'⟩ := s'
      exact ⟨rv, mk_end (raises_own T.exC T.tyC) I1 hsz kk un2 hok2 os2 bare2 ea ed hd1 q2⟩
    | next => exact False.elim hq'
    | brk => exact False.elim hq'
    | cont => exact False.elim hq'
end
end Y
end
section
/-! Y30: own exceptions made with keywords, as values; {}; what the heap tells of the classes. -/
namespace Y
open PySem PySem.Spec PyProof.Rows L2
structure IniK1 (P : Program) (w : World) (K : PySem.W.Frag) (mg : Str → Option Value) (base : Heap) (C f q : Str) (k : Nat) : Prop where
  is : ∃ (fI : Addr) (fd : FuncData) (ps : List Str), OexC K (He.ga K C) ∧ PySem.W.findIn K (.ref (He.ga K C)) "__init__" = some (some (.ref fI)) ∧ PySem.W.typeIn K (.ref fI) = some (.type "function") ∧
    FnOk P w K mg base (L2.CX P w) k fI fd ps (spI1 K f) ∧ KBn K fd ps 1 [q] (fun us ws => pick [0, 1] (us ++ ws)) (fun us ws => pick [0, 1] (us ++ ws)) ∧ PySem.W.findIn K (.ref (He.ga K C)) f = some none ∧ mg C = some (.ref (He.ga K C))
/-- both given by name, the second one first -/
structure IniK2 (P : Program) (w : World) (K : PySem.W.Frag) (mg : Str → Option Value) (base : Heap) (C f g q r : Str) (k : Nat) : Prop where
  is : ∃ (fI : Addr) (fd : FuncData) (ps : List Str), OexC K (He.ga K C) ∧ PySem.W.findIn K (.ref (He.ga K C)) "__init__" = some (some (.ref fI)) ∧ PySem.W.typeIn K (.ref fI) = some (.type "function") ∧
    FnOk P w K mg base (L2.CX P w) k fI fd ps (spI2 K f g) ∧ KBn K fd ps 1 [r, q] (fun us ws => pick [0, 2, 1] (us ++ ws)) (fun us ws => pick [0, 2, 1] (us ++ ws)) ∧ PySem.W.findIn K (.ref (He.ga K C)) f = some none ∧ PySem.W.findIn K (.ref (He.ga K C)) g = some none ∧ mg C = some (.ref (He.ga K C))
def mk2R (C f g : Str) (ws : List Wt) (S : Store) : Res Wt := match ws with
  | [.d y, .d x] => .ok (.d (.exo C [g, f] [y, x])) S
  | _ => .bad
def eMk2R (C f g : Str) (h : AM) : EM := fun σd S => (h σd S).bind fun ws S1 => mk2R C f g ws S1
section
variable {X : Cx} {hx : Hx} {kws : List Keyword} {p pos : Pos}
theorem d_mk1K {C f q : Str} {k : Nat} {g : AM} (G : IniK1 X.prog X.w X.K X.mg X.base C f q k) (hr : Room (k + 1) X.A) (ha : DK X hx kws g) (hg : Gl X C := by rfl)
    (hdb : (C == ("__debug__" : Str)) = false := by decide) (hall : (backToKw pos (keywordEach kws X.env)).all (·.1.isSome) = true := by rfl) (hks : (backToKw pos (keywordEach kws X.env)).filterMap (·.1) = [q] := by rfl)
    (hpl : ((backTo pos (starEach [] X.env)).any (·.1) || (backToKw pos (keywordEach kws X.env)).any (·.1.isNone)) = false := by rfl) :
    DE X hx (.Call (.Name C p) [] kws pos) (eMk1 C f g) := by
  obtain ⟨fI, fd, ps, T, iC, tI, F1, hb, hno, hm⟩ := G.is
  refine ⟨fun W tk => PEimp (pe_mkv (pmk_kw T iC tI F1 hr hb (fun pins σ H s e s' I c => tk e s' (XE.of_call (σ := σ) I (fun _ _ _ h => h.elim) c)) hg hm (ha.run W tk) hdb hall hks hpl)) fun σ H Q h => ?_⟩
  obtain ⟨A, S, σd, R, E, p⟩ := h
  refine ⟨A, S, σd, R, E, (Post.bind (R1 := rVs _) p).mono fun us H1 ⟨A1, S1, ds, R1, T1, r1, p1⟩ => ?_⟩
  unfold mk1D at p1
  split at p1
  · rename_i w0
    obtain ⟨y, rfl, ry⟩ := rvs1 r1
    cases q : fz1 S1 w0 with
    | bad => rw [q] at p1; exact p1.elim
    | exc _ _ _ _ => exact (fz1_nexc q).elim
    | ok x S2 =>
      rw [q] at p1
      obtain ⟨R2, T2, r2⟩ := fz1_ok R1 ry q
      refine ⟨rfl, fun a hn => ?_⟩
      refine ⟨a, He.ga X.K C, y, rfl, T, hno, upd_same, fun d hd ne => ?_⟩
      have hd1 : H1 d = none := by rw [upd_ne ne] at hd; exact hd
      refine ⟨rfl, d, [(f, y)], upd_same, by rw [upd_ne ne, upd_same], hd1, He.ga X.K C, rfl, fun a' ha' => ?_⟩
      rw [heap_mk hn ne] at ha' ⊢
      exact Post.exo (c := ⟨X.K, hx, W⟩) (σ := σ) (ns := [f]) (vs := [y]) (fun A3 H3 v R3 T3 r3 => p1 A3 H3 v R3 (T2.trans T3) r3) R2 (.one r2) rfl hd1 ha'
  · exact p1.elim
theorem d_mk2K {C f g q r : Str} {k : Nat} {h : AM} (G : IniK2 X.prog X.w X.K X.mg X.base C f g q r k) (hr : Room (k + 1) X.A) (ha : DK X hx kws h) (hg : Gl X C := by rfl)
    (hdb : (C == ("__debug__" : Str)) = false := by decide) (hall : (backToKw pos (keywordEach kws X.env)).all (·.1.isSome) = true := by rfl) (hks : (backToKw pos (keywordEach kws X.env)).filterMap (·.1) = [r, q] := by rfl)
    (hpl : ((backTo pos (starEach [] X.env)).any (·.1) || (backToKw pos (keywordEach kws X.env)).any (·.1.isNone)) = false := by rfl) :
    DE X hx (.Call (.Name C p) [] kws pos) (eMk2R C f g h) := by
  obtain ⟨fI, fd, ps, T, iC, tI, F1, hb, hno, hno2, hm⟩ := G.is
  refine ⟨fun W tk => PEimp (pe_mkv (pmk_kw T iC tI F1 hr hb (fun pins σ H s e s' I c => tk e s' (XE.of_call (σ := σ) I (fun _ _ _ h => h.elim) c)) hg hm (ha.run W tk) hdb hall hks hpl)) fun σ H Q q => ?_⟩
  obtain ⟨A, S, σd, R, E, p⟩ := q
  refine ⟨A, S, σd, R, E, (Post.bind (R1 := rVs _) p).mono fun us H1 ⟨A1, S1, ds, R1, T1, r1, p1⟩ => ?_⟩
  unfold mk2R at p1
  split at p1
  · rename_i y0 x0
    obtain ⟨y, x, rfl, ry, rx⟩ := rvs2 r1
    have rx : RP X.K (Live A1 S1) H1 x0 x := rx
    have ry : RP X.K (Live A1 S1) H1 y0 y := ry
    refine ⟨rfl, fun a hn => ?_⟩
    refine ⟨a, He.ga X.K C, x, y, rfl, T, hno, hno2, upd_same, fun d hd ne => ?_⟩
    have hd1 : H1 d = none := by rw [upd_ne ne] at hd; exact hd
    refine ⟨rfl, d, [(g, y), (f, x)], by rw [upd_ne (Ne.symm ne), upd_same], upd_same, hd1, He.ga X.K C, rfl, fun a' ha' => ?_⟩
    rw [heap_mk2 hn ne] at ha' ⊢
    exact Post.exo (c := ⟨X.K, hx, W⟩) (σ := σ) (ns := [g, f]) (vs := [y, x]) p1 R1 (.cons ry (.one rx)) rfl hd1 ha'
  · exact p1.elim
/-- {} -/
theorem d_dict0 : DE X hx (.Dict [] [] pos) (eC (.dct [] [])) := ⟨fun W tk => PEimp pe_dnewK fun σ H Q ⟨A, S, σd, R, E, p⟩ => fun a h =>
  p A _ _ (R.new h) (Stp.new h) (RV.of (.dct (kvs := []) (notLive_new R h) (.inl upd_same) .nil))⟩
end

/-! ### told by the heap -/
def eqOV (a b : Option Value) : Bool := decide (a = b)
def ini1B (K : PySem.W.Frag) (p : Str × Str) : Bool := oexB K (He.ga K p.1) && (He.eqO (PySem.W.findIn K (.ref (He.ga K p.1)) "__init__") (some (some (.ref (He.ma K (He.ga K p.1) "__init__")))) && (eqOV (PySem.W.typeIn K (.ref (He.ma K (He.ga K p.1) "__init__"))) (some (.type "function")) &&
  (He.eqO (PySem.W.findIn K (.ref (He.ga K p.1)) p.2) (some none) && He.eqO (PySem.W.nsIn K mainGlobals p.1) (some (some (.ref (He.ga K p.1)))))))
structure IniF (K : PySem.W.Frag) (mg : Str → Option Value) (C f : Str) : Prop where
  o : OexC K (He.ga K C)
  i : PySem.W.findIn K (.ref (He.ga K C)) "__init__" = some (some (.ref (He.ma K (He.ga K C) "__init__")))
  t : PySem.W.typeIn K (.ref (He.ma K (He.ga K C) "__init__")) = some (.type "function")
  n : PySem.W.findIn K (.ref (He.ga K C)) f = some none
  m : mg C = some (.ref (He.ga K C))
theorem ini1B_ok {K : PySem.W.Frag} {h : Heap} {mg : Str → Option Value} (X : K.In h) (G : h.Ns mainGlobals mg) {p : Str × Str} (c : ini1B K p = true) : IniF K mg p.1 p.2 := by
  unfold ini1B at c
  obtain ⟨c1, c⟩ := He.ba c
  obtain ⟨c2, c⟩ := He.ba c
  obtain ⟨c3, c⟩ := He.ba c
  obtain ⟨c4, c5⟩ := He.ba c
  exact ⟨oexB_ok c1, He.eqO_ok c2, of_decide_eq_true c3, He.eqO_ok c4, PySem.W.mg_of X G (He.eqO_ok c5)⟩
section
variable {P : Program} {w : World} {K : PySem.W.Frag} {mg : Str → Option Value} {base : Heap} {C f g q r : Str} {k : Nat} {fd : FuncData} {ps : List Str}
theorem ini1_of (c : IniF K mg C f) (F : FnOk P w K mg base (L2.CX P w) k (He.ma K (He.ga K C) "__init__") fd ps (spI1 K f)) (hb : Binds K fd ps []) : Ini1 P w K mg base C f k := ⟨_, fd, ps, c.o, c.i, c.t, F, hb, c.n, c.m⟩
theorem iniK1_of (c : IniF K mg C f) (F : FnOk P w K mg base (L2.CX P w) k (He.ma K (He.ga K C) "__init__") fd ps (spI1 K f)) (hb : KBn K fd ps 1 [q] (fun us ws => pick [0, 1] (us ++ ws)) (fun us ws => pick [0, 1] (us ++ ws))) : IniK1 P w K mg base C f q k := ⟨_, fd, ps, c.o, c.i, c.t, F, hb, c.n, c.m⟩
theorem ini2_of (c : IniF K mg C f) (c2 : IniF K mg C g) (F : FnOk P w K mg base (L2.CX P w) k (He.ma K (He.ga K C) "__init__") fd ps (spI2 K f g)) (hb : Binds K fd ps []) : Ini2 P w K mg base C f g k := ⟨_, fd, ps, c.o, c.i, c.t, F, hb, c.n, c2.n, c.m⟩
theorem iniK2_of (c : IniF K mg C f) (c2 : IniF K mg C g) (F : FnOk P w K mg base (L2.CX P w) k (He.ma K (He.ga K C) "__init__") fd ps (spI2 K f g)) (hb : KBn K fd ps 1 [r, q] (fun us ws => pick [0, 2, 1] (us ++ ws)) (fun us ws => pick [0, 2, 1] (us ++ ws))) : IniK2 P w K mg base C f g q r k := ⟨_, fd, ps, c.o, c.i, c.t, F, hb, c.n, c2.n, c.m⟩
end
def ini0B (K : PySem.W.Frag) (C : Str) : Bool := (He.Fa.exc C).ok K && (He.Fa.glo C).ok K
theorem ini0B_ok {K : PySem.W.Frag} {h : Heap} {mg : Str → Option Value} (X : K.In h) (G : h.Ns mainGlobals mg) {P : Program} {w : World} {C : Str} (c : ini0B K C = true) : Ini0 P w K mg C := by
  obtain ⟨c1, c2⟩ := He.ba c
  obtain ⟨h1, h2, h3, h4⟩ := He.exc_ok c1
  exact ⟨He.veBase, "ValueError", "ValueError.__new__", "ValueError.__init__", F.excBase_ValueError, h1, h3, h4, h2, He.glo_ok X G c2⟩
def xcB (K : PySem.W.Frag) (D : Addr) : Bool := He.eqO (PySem.W.findIn K (.ref D) "__getattribute__") (some (some (.builtin "BaseException.__getattribute__"))) && (He.eqO (PySem.W.findIn K (.ref D) "__getattr__") (some none) && (decide (PySem.W.subIn K (.ref D) (.type "BaseException") = some true) &&
  (PySem.W.hasDictIn K D && (He.eqO (PySem.W.findIn K (.ref D) "__class__") (some (some (.builtin "object.__class__"))) && (He.eqO (PySem.W.specialIn K (.builtin "object.__class__") "__get__") (some (some (.builtin "getset_descriptor.__get__"))) &&
  (decide (PySem.W.takesIn K (.builtin "object.__class__") = some true) && decide (PySem.W.mroIn K D (.type "object") = some true)))))))
theorem xcB_ok {K : PySem.W.Frag} {D : Addr} (c : xcB K D = true) : ExcC K D ∧ XfC K D := by
  obtain ⟨c1, c⟩ := He.ba c
  obtain ⟨c2, c⟩ := He.ba c
  obtain ⟨c3, c⟩ := He.ba c
  obtain ⟨c4, c⟩ := He.ba c
  obtain ⟨c5, c⟩ := He.ba c
  obtain ⟨c6, c⟩ := He.ba c
  obtain ⟨c7, c8⟩ := He.ba c
  exact ⟨⟨He.eqO_ok c1, He.eqO_ok c2, of_decide_eq_true c3, c4, He.eqO_ok c5, He.eqO_ok c6, of_decide_eq_true c7, of_decide_eq_true c8⟩, ⟨He.eqO_ok c1, He.eqO_ok c2, of_decide_eq_true c3, c4⟩⟩
/-- the answers of isinstance: xt each class with all names, all built-in types that it stands under; xn the names, xy the types that are asked -/
abbrev XT : Type := List (Str × List Str × List String)
def tbOf (xt : XT) (xn : List Str) (xy : List String) : Str → D → Option Bool := fun C c => match c with
  | .gl x => if xn.contains x then (xt.lookup C).map fun p => p.1.contains x else none
  | .ty n => if xy.contains n then (xt.lookup C).map fun p => p.2.contains n else none
  | _ => none
def tbB (K : PySem.W.Frag) (xt : XT) (xn : List Str) (xy : List String) : Bool := xt.all fun p => xcB K (He.ga K p.1) &&
  ((xn.all fun x => decide (PySem.W.kitOne K (.ref (He.ga K p.1)) (.ref (He.ga K x)) = some (p.2.1.contains x))) && xy.all fun n => decide (PySem.W.kitOne K (.ref (He.ga K p.1)) (.type n) = some (p.2.2.contains n)))
theorem mem_of_lookup {α β : Type} [BEq α] [LawfulBEq α] {a : α} {b : β} : ∀ {l : List (α × β)}, l.lookup a = some b → (a, b) ∈ l
  | [], h => by cases h
  | (x, y) :: r, h => by
    rw [List.lookup_cons] at h
    cases q : a == x with
    | true =>
      rw [q] at h
      cases h
      obtain rfl := eq_of_beq q
      exact List.mem_cons_self
    | false =>
      rw [q] at h
      exact List.mem_cons_of_mem _ (mem_of_lookup h)
theorem tbB_ok {K : PySem.W.Frag} {xt : XT} {xn : List Str} {xy : List String} (h : tbB K xt xn xy = true) : IsTb K (tbOf xt xn xy) := by
  intro C c b e
  unfold tbOf at e
  have key : ∀ {p : List Str × List String}, xt.lookup C = some p → ExcC K (He.ga K C) ∧ (∀ x ∈ xn, PySem.W.kitOne K (.ref (He.ga K C)) (.ref (He.ga K x)) = some (p.1.contains x)) ∧ ∀ n ∈ xy, PySem.W.kitOne K (.ref (He.ga K C)) (.type n) = some (p.2.contains n) := fun {p} q => by
    have := List.all_eq_true.mp h _ (mem_of_lookup q)
    obtain ⟨h1, h2⟩ := He.ba this
    obtain ⟨h2, h3⟩ := He.ba h2
    exact ⟨(xcB_ok h1).1, fun x hx => of_decide_eq_true (List.all_eq_true.mp h2 x hx), fun x hx => of_decide_eq_true (List.all_eq_true.mp h3 x hx)⟩
  split at e
  · rename_i x
    split at e
    · rename_i hx
      cases q : xt.lookup C with
      | none => rw [q] at e; cases e
      | some p =>
        rw [q] at e
        cases e
        obtain ⟨k1, k2, _⟩ := key q
        refine ⟨k1, .ref (He.ga K x), .ref (He.ga K x), fun lv H v' r => ?_, fun u r => r, k2 x (by simpa using hx)⟩
        cases r; rfl
    · cases e
  · rename_i x
    split at e
    · rename_i hx
      cases q : xt.lookup C with
      | none => rw [q] at e; cases e
      | some p =>
        rw [q] at e
        cases e
        obtain ⟨k1, _, k2⟩ := key q
        refine ⟨k1, .ty x, .type x, fun lv H v' r => ?_, fun u r => r, k2 x (by simpa using hx)⟩
        cases r; rfl
    · cases e
  · cases e
/-- e.f: the classes, no class field of this name -/
def xfsB (K : PySem.W.Frag) (Cs : List Str) (n : Str) : Bool := Cs.all fun C => xcB K (He.ga K C) && He.eqO (PySem.W.findIn K (.ref (He.ga K C)) n) (some none)
theorem xfsB_ok {K : PySem.W.Frag} {Cs : List Str} {n : Str} (h : xfsB K Cs n = true) : ∀ C ∈ Cs, XfC K (He.ga K C) ∧ PySem.W.findIn K (.ref (He.ga K C)) n = some none := fun C hC => by
  obtain ⟨h1, h2⟩ := He.ba (List.all_eq_true.mp h C hC)
  exact ⟨(xcB_ok h1).2, He.eqO_ok h2⟩
/-- the methods of a class -/
def clsBody : Stmt → List Stmt
  | .ClassDef _ _ _ b _ _ _ _ _ _ _ => b
  | _ => []
theorem kon_gl {K : PySem.W.Frag} {h : Heap} {mg : Str → Option Value} (X : K.In h) (G : h.Ns mainGlobals mg) {x : Str} (c : (He.Fa.glo x).ok K = true) : ∃ u v, mg x = some u ∧ RelV v u ∧ ∀ lv H, RP K lv H (.gl x) v :=
  ⟨_, .ref (He.ga K x), He.glo_ok X G c, rfl, fun _ _ => .gl x⟩
end Y
end
section
/-! Y31: x, y = e, e2 where a name is a cell of comprehensions: the tuple is made, its items stay cells of the store. -/
namespace Y
open PySem PySem.Spec PyProof.Rows L2
def sAsgT (n : Nat) (h : GMs) (f : AM) : SM := fun _ σd S => (f σd S).toS σd fun ds S1 => if ds.length = n ∧ n ≤ lim then (h ds σd S1).toS σd fun σ2 S2 => .nx σ2 S2 else .bad
section
variable {X : Cx} {hx : Hx} {pos : Pos}
theorem ds_asgT {n k k2 : Nat} {x1 x2 : Pos} {tes es : List Expr} {is : List Nat} {h : GMs} {f : AM} (hc : X.calm = true) (ha : DA X hx es f) (hg : DGs X hx tes is h) (hn : (assignEach tes X.env).length = n := by rfl) (hst : (assignEach tes X.env).findIdx? (·.1) = none := by rfl)
    (hs : swapsWithSole [.Tuple tes k x1] (.Tuple es k2 x2) pos.line X.env = pure false := by rfl) (hw : swappedStores [.Tuple tes k x1] (.Tuple es k2 x2) X.env = pure none := by rfl)
    (h1 : (assignEach [.Tuple tes k x1] X.env).map (·.2) = [assign (.Tuple tes k x1) X.env] := by rfl) : DS X hx (.Assign [.Tuple tes k x1] (.Tuple es k2 x2) pos) (sAsgT n h f) :=
  ⟨fun W tk => PSimp (ps_asg (pe_tup (ha.run W tk)) (pg_tup hc (hg.run W tk) hn hst) hs hw h1) fun σ H D ⟨b0, A0, S0, H0, A, S, σd, R0, T, R, E, p⟩ =>
  ⟨A, S, σd, R, E, (Post.ofS (R1 := rVs _) R T E p).mono fun vs H1 ⟨A1, S1, ds, R1, T1, E1, r1, p1⟩ => by
    have hl : ds.length = vs.length := Paired.length r1
    by_cases hz : ds.length = n ∧ n ≤ lim
    · rw [if_pos hz] at p1
      refine ⟨by rw [← hl, hz.1]; exact lim_line hz.2, fun q hq => ?_⟩
      refine ⟨q, vs, rfl, SqT.of upd_same, by rw [← hl]; exact hz.1, A1, S1, σd, ds, R1.new hq, E1.step R1 (Stp.new hq), Paired.mapP r1 fun d v z => RV.step R1 (Stp.new hq) z, ?_⟩
      exact (Post.ofS (R1 := rEv _ is σ) (R1.new hq) (T1.trans (Stp.new hq)) (E1.step R1 (Stp.new hq)) p1).mono fun σ2 H2 ⟨A2, S2, σd2, R2, T2, _, ⟨E2, _⟩, p2⟩ => p2 A2 H2 σ2 R2 T2 E2
    · rw [if_neg hz] at p1
      exact p1.elim⟩⟩
end
section
variable {σ : Ev} {S : Store} {b n : Nat} {h : GMs} {ga : AM}
@[simp] theorem sAsgT_ap : sAsgT n h ga b σ S = (ga σ S).toS σ fun ds S1 => if ds.length = n ∧ n ≤ lim then (h ds σ S1).toS σ fun σ2 S2 => .nx σ2 S2 else .bad := id rfl
end
end Y
end
section
set_option maxHeartbeats 1000000
/-! Y32: try with clauses of both kinds, 'except x as n' and 'except x'. -/
namespace Y
open PySem PySem.Spec PyProof.Rows L2
abbrev Cl : Type := Value × Option Nat × (Addr → Value → Option Addr → TS)
/-- the ends of a clause's suite: the name of slot i is let go -/
def gone (i : Nat) (D : Ends) : Ends := { nx := fun σ' H' => D.nx (σ'.set i none) H', rt := D.rt, bk := fun σ' H' => D.bk (σ'.set i none) H', ct := fun σ' H' => D.ct (σ'.set i none) H' }
def clT (o : Option Nat) (t : TS) (a : Addr) : TS := fun D σ H => match o with
  | none => t D σ H
  | some i => t (gone i D) (σ.set i (some (.ref a))) H
/-- what the clauses wish of an exception of the body -/
def wMix (K : PySem.W.Frag) (Wout : WX) (D : Ends) : List Cl → WX
  | [] => Wout
  | (c, o, ts) :: r => fun cls d σ H => ∃ b, PySem.W.exmOne K cls c = some b ∧ (b = true → ∀ a, H a = none → clT o (ts a cls d) a D σ H) ∧ (b = false → wMix K Wout D r cls d σ H)
/-- the slot of the name that a clause binds -/
def Slot (X : Cx) : Option Str → Option Nat → Prop
  | none, none => True
  | some n, some i => X.N[i]? = some n ∧ X.env.kindOf n = some .local
  | _, _ => False
inductive ClsOk (X : Cx) : List ExceptHandler → List Cl → Prop
  | nil : ClsOk X [] []
  | cons {x : Str} {c : Value} {nm : Option Str} {o : Option Nat} {ts : Addr → Value → Option Addr → TS} {b₀ : Stmt} {suite : List Stmt} {np pos' : Pos} {hds : List ExceptHandler} {l : List Cl} (hc : Names X x c) (hs : Slot X nm o)
      (hsu : ∀ (a : Addr) (oe : Obj) (cls : Value) (d : Option Addr) (pn : List (Addr × Obj)), Zc cls d oe → (∃ vs, oe.data = .fields vs) → PSs (X.suite a ((a, oe) :: pn)) (b₀ :: suite) (ts a cls d)) (r : ClsOk X hds l) :
      ClsOk X (.ExceptHandler (some (.Name x np)) nm (b₀ :: suite) pos' :: hds) ((c, o, ts) :: l)
section
variable {X : Cx} {body : List Stmt} {h₀ : ExceptHandler} {hds : List ExceptHandler} {l : List Cl} {pos : Pos} {tb : WX → TS} {Wout : WX} {pins : List (Addr × Obj)} {s' : Shared} {h3 : Heap} {a B : Addr}
theorem ps_try_mix (hs : X.stack = X.env :: X.outer) (hf : X.env.frame = some X.env.locals) (hN : X.N.Nodup) (tk : Takes X Wout)
    (hb : ∀ (W : WX) (pn : List (Addr × Obj)) (xe : Value → Shared → Prop), Takes (X.tr pn xe) W → PassesOwn (model X.prog X.w) X.A X.env xe → PSs (X.tr pn xe) body (tb W))
    (hh : ClsOk X (h₀ :: hds) l) : PS X (.Try body (h₀ :: hds) [] [] pos) (fun D σ H => tb (wMix X.K Wout D l) D σ H) := by
  refine ⟨fun pins s σ H D I h => ?_⟩
  have ok := I.ok
  have hfr : X.A.frames = some (X.env :: X.outer) := by rw [ok.frames, hs]
  refine wpAny_Try_except ?_
  refine wpAny_mono ((hb (wMix X.K Wout D l) (X.pn ++ pins) (fun e s₁ => wpAny (model X.prog X.w) X.A (noteFrame e X.env) (fun _ s₂ => wpAny (model X.prog X.w) X.A (setFlight e none) (fun _ s₃ =>
    wpAny (model X.prog X.w) X.A (handleBy e X.env (h₀ :: hds)) (SP X pins D) X.xe s₃) X.xe s₂) X.xe s₁) (fun u s' xx => ?_) PassesOwn.looking).run [] s σ H D (I.toTry _) h) (fun f s1 hsp => ?_) (fun e s1 he => he)
  · obtain ⟨a, B, sI, pins', σ', H', cls, d, rfl, J', nb, up, sky, na, os, ag, w⟩ := xx
    have J : Inv X pins σ' H' sI := J'.ofTry ok
    show wpAny (model X.prog X.w) X.A (noteFrame (.ref a) X.env) _ _ _
    refine Sky.land Zc.steady hfr hf (by rw [← hs]; exact sky) fun h3 fl3 up3 => ?_
    have J3 : Inv X pins σ' H' { s' with heap := h3 } := J.landed nb fl3.1 (up.trans up3) os ag
    obtain ⟨oe3, vs3, he3, hz3, hd3⟩ := fl3.there
    have nfr : a ∉ frs (X.env :: X.outer) := fun hm => by
      obtain ⟨_, o', e', hnf⟩ := fl3.2.2.1.mem hm
      rw [he3] at e'
      cases e'
      exact hnf _ hd3
    have nL : a ≠ X.env.locals := fun z => nfr (List.mem_filterMap.mpr ⟨X.env, List.mem_cons_self, by rw [hf, z]⟩)
    have nF : a ∉ X.fs := fun hm => by
      obtain ⟨e, he, q⟩ := List.mem_filterMap.mp hm
      exact nfr (List.mem_filterMap.mpr ⟨e, List.mem_cons_of_mem _ he, q⟩)
    have S3 := J3.suite he3 hd3 na nL nF
    have LT : PySem.W.Looks (model X.prog X.w) h3 (typeOf (.ref a)) cls := fun A Q E s k q => wpAny_typeOf_ref (k _ _ he3) (by rw [hz3.1]; exact q)
    have go : ∀ {hds' : List ExceptHandler} {l' : List Cl}, ClsOk X hds' l' → wMix X.K Wout D l' cls d σ' H' → wpAny (model X.prog X.w) X.A (handleBy (.ref a) X.env hds') (SP X pins D) X.xe { s' with heap := h3 } := by
      intro hds' l' hk
      induction hk with
      | nil =>
        intro w
        refine wpAny_handleBy_nil ?_
        obtain ⟨k1, k2, k3, oe, vs, T, oT, ts', he, hz, hd, h1, hr⟩ := id fl3
        unfold PySem.passOn
        refine wpAny_bind (wpAny_field he hd h1 ?_)
        rw [if_neg (show ¬ ((Value.ref T == Value.none) = true) from by simp)]
        have fin : wpAny (model X.prog X.w) X.A (setFlight (.ref a) X.env.frame) (fun _ s4 => wpAny (model X.prog X.w) X.A (throw (.ref a) : Sem Flow) (SP X pins D) X.xe s4) X.xe { s' with heap := h3 } := by
          rw [hf]
          exact HandSPX.setFlight_upZ fl3 fun h4 hh4 up4 => wpAny_throw (tk _ _ ⟨a, B, sI, pins, σ', H', cls, d, rfl, J, nb, (up.trans up3).trans up4, .inr (.inr (by rw [hs]; exact hh4)), na, os, ag, w⟩)
        first
          | exact wpAny_bind (wpAny_pure (wpAny_bind fin))
          | exact wpAny_bind fin
      | @cons x c nm o ts b₀ suite np pos' hds2 l2 hc hsl hsu r ih =>
        intro w
        obtain ⟨b, hb1, hyes, hno⟩ := w
        refine wpAny_handleBy_cons (codeAny_handlers_test ?_) (by intro q; cases q)
        have LM := PySem.W.exm_one (M := model X.prog X.w) (J3.kIn) LT hb1
        have test : ∀ {Q : Value → Shared → Prop} {E : Value → Shared → Prop}, Q c { s' with heap := h3 } → wpAny (model X.prog X.w) (X.A.mark (some (.ref a))) (eval (.Name x np) X.env) Q E { s' with heap := h3 } := fun {Q E} q => by
          obtain ⟨hg, hdbg, hm | ⟨hm, hv, hnn⟩⟩ := hc
          · exact ld_glob (X := X.suite a ((a, oe3) :: (X.pn ++ pins))) S3 hg hm q hdbg
          · exact ld_blt (X := X.suite a ((a, oe3) :: (X.pn ++ pins))) S3 hg hm hv q hnn hdbg
        refine test (LM.here ?_)
        cases b with
        | false =>
          show wpAny _ X.A (handleBy (.ref a) X.env hds2) _ _ _
          exact ih (hno rfl)
        | true =>
          have q := hyes rfl a na
          cases o with
          | none =>
            cases nm with
            | some _ => exact hsl.elim
            | none =>
              refine codeAny_handlers_suite ?_
              refine HandSPX.lands_againZ fl3 fun h4 fl4 up4 => ?_
              obtain ⟨oe4, vs4, he4, hz4, hd4⟩ := fl4.there
              have J4 : Inv X pins σ' H' { s' with heap := h4 } := J.landed nb fl4.1 ((up.trans up3).trans up4) os ag
              have S4 := J4.suite he4 hd4 na nL nF
              refine wpAny_mono ((hsu a oe4 cls d (X.pn ++ pins) hz4 ⟨_, hd4⟩).run [] _ _ H' _ S4 q) (fun f s6 hsp => ?_) (fun _ _ z => False.elim z)
              cases f with
              | ret u =>
                obtain ⟨v6, σ6, H6, S6, r6, q6⟩ := hsp
                exact ⟨_, _, _, S6.unsuite ok, r6, q6⟩
              | _ =>
                obtain ⟨σ6, H6, S6, q6⟩ := hsp
                exact ⟨_, _, S6.unsuite ok, q6⟩
          | some i =>
            cases nm with
            | none => exact hsl.elim
            | some n =>
              obtain ⟨hi, hln⟩ := hsl
              refine codeAny_handlers_suite_as ?_
              refine HandSPX.lands_againZ fl3 fun h4 fl4 up4 => ?_
              obtain ⟨oe4, vs4, he4, hz4, hd4⟩ := fl4.there
              have J4 : Inv X pins σ' H' { s' with heap := h4 } := J.landed nb fl4.1 ((up.trans up3).trans up4) os ag
              have S4 := J4.suite he4 hd4 na nL nF
              refine store_ok (X := X.suite a ((a, oe4) :: (X.pn ++ pins))) (v := .ref a) S4 hN hi (.inl hln) rfl (fun s5 S5 => ?_) (.inr hln)
              refine wpAny_mono ((hsu a oe4 cls d (X.pn ++ pins) hz4 ⟨_, hd4⟩).run [] s5 _ H' _ S5 q) (fun f s6 hsp => ?_) (fun _ _ z => False.elim z)
              have fin : ∀ {σ6 : L2.St} {H6 : Hp} {Q : Shared → Prop}, Inv (X.suite a ((a, oe4) :: (X.pn ++ pins))) [] σ6 H6 s6 → (∀ s7, Inv X pins (σ6.set i none) H6 s7 → Q s7) →
                  wpAny (model X.prog X.w) X.A (do bindName X.env n .none; unbindBehindTheSuite X.env n pos') (fun _ s7 => Q s7) X.xe s6 := fun {σ6 H6 Q} S6 hq => gone_ok (S6.unsuite ok) hN hi hln hq
              cases f with
              | ret u =>
                obtain ⟨v6, σ6, H6, S6, r6, q6⟩ := hsp
                exact fin S6 fun s7 J7 => ⟨_, _, _, J7, r6, q6⟩
              | _ =>
                obtain ⟨σ6, H6, S6, q6⟩ := hsp
                exact fin S6 fun s7 J7 => ⟨_, _, J7, q6⟩
    exact go hh w
  · cases f with
    | next =>
      obtain ⟨σ', H', J', q⟩ := hsp
      exact wpAny_execs_nil ⟨σ', H', J'.ofTry ok, q⟩
    | ret u =>
      obtain ⟨v, σ', H', J', r, q⟩ := hsp
      exact ⟨v, σ', H', J'.ofTry ok, r, q⟩
    | _ =>
      obtain ⟨σ', H', J', q⟩ := hsp
      exact ⟨σ', H', J'.ofTry ok, q⟩
end
end Y
end
section
/-! Y33: try and raise over D; e.f of the exception that a suite holds. -/
namespace Y
open PySem PySem.Spec PyProof.Rows L2
/-- held exceptions are let go -/
def drH (σd : Ev) : Ev := σd.map fun o => match o with
  | some (.hex _ _ _) => none
  | o => o
theorem drH_re {K : PySem.W.Frag} {hx hx' : Hx} {A : Ads} {lv : Addr → Prop} {H : Hp} {σd : Ev} {σ : L2.St} (h : RE K hx A lv H σd σ) : RE K hx' A lv H (drH σd) σ := by
  refine ⟨by simp [drH, h.len], fun i d e => ?_⟩
  unfold drH at e
  rw [List.getElem?_map] at e
  cases q : σd[i]? with
  | none => rw [q] at e; cases e
  | some o =>
    rw [q] at e
    cases o with
    | none => cases e
    | some d' =>
      cases d' with
      | hex C ns l => cases e
      | d x =>
        cases e
        exact h.at_ i _ q
      | loc n =>
        cases e
        exact h.at_ i _ q
def wipe1 (o : Option Nat) (σd : Ev) : Ev := match o with
  | none => σd
  | some i => σd.set i none
theorem re_none {K : PySem.W.Frag} {hx : Hx} {A : Ads} {lv : Addr → Prop} {H : Hp} {σd : Ev} {σ : L2.St} {i : Nat} (h : RE K hx A lv H σd σ) : RE K hx A lv H (σd.set i none) (σ.set i none) := by
  refine ⟨by simp [h.len], fun j d e => ?_⟩
  by_cases hj : i = j
  · subst hj
    by_cases hl : i < σd.length
    · rw [List.getElem?_set_self hl] at e
      cases e
    · rw [List.getElem?_eq_none (by simpa using hl)] at e; cases e
  · rw [List.getElem?_set_ne hj] at e
    rw [List.getElem?_set_ne hj]
    exact h.at_ j d e
def inH (o : Option Nat) (C : Str) (ns : List Str) (l : List D) (σd : Ev) : Ev := match o with
  | none => drH σd
  | some i => (drH σd).set i (some (.hex C ns l))
def outH (o : Option Nat) : SR → SR
  | .nx σd S => .nx (drH (wipe1 o σd)) S
  | .bk σd S => .bk (drH (wipe1 o σd)) S
  | .ct σd S => .ct (drH (wipe1 o σd)) S
  | .rt (.d x) S => .rt (.d x) S
  | .rt (.loc n) S => .rt (.loc n) S
  | _ => .bad
abbrev HdD : Type := Str × Option Nat × SM
/-- the clauses, one after the other; et tells which class falls under which name -/
def clsR (et : Str → Str → Option Bool) (C : Str) (ns : List Str) (l : List D) (b : Nat) (σd : Ev) (S : Store) : List HdD → SR
  | [] => .exc C ns l σd S
  | (x, o, f) :: r => match et C x with
    | some true => outH o (f b (inH o C ns l σd) S)
    | some false => clsR et C ns l b σd S r
    | none => .bad
def sTry (et : Str → Str → Option Bool) (fb : SM) (hs : List HdD) : SM := fun b σd S => match fb b σd S with
  | .exc C ns l σd' S' => clsR et C ns l b σd' S' hs
  | r => r
def IsEt (K : PySem.W.Frag) (et : Str → Str → Option Bool) : Prop := ∀ C x b, et C x = some b → PySem.W.exmOne K (.ref (He.ga K C)) (.ref (He.ga K x)) = some b
/-- in a suite: the exception that it holds -/
abbrev hxA (a : Addr) (cls : Value) (d : Option Addr) : Hx := fun a' C dd => a' = a ∧ cls = .ref C ∧ d = some dd
inductive DHs (X : Cx) : List ExceptHandler → List HdD → Prop
  | nil : DHs X [] []
  | cons {x : Str} {nm : Option Str} {o : Option Nat} {f : SM} {b₀ : Stmt} {suite : List Stmt} {np pos' : Pos} {hds : List ExceptHandler} {l : List HdD} (hc : Names X x (.ref (He.ga X.K x))) (hs : Slot X nm o)
      (hsu : ∀ (a : Addr) (oe : Obj) (cls : Value) (d : Option Addr) (pn : List (Addr × Obj)), Zc cls d oe → (∃ vs, oe.data = .fields vs) → DB (X.suite a ((a, oe) :: pn)) (hxA a cls d) (b₀ :: suite) f) (r : DHs X hds l) :
      DHs X (.ExceptHandler (some (.Name x np)) nm (b₀ :: suite) pos' :: hds) ((x, o, f) :: l)
abbrev clOf (K : PySem.W.Frag) (h : HdD) : Cl := (.ref (He.ga K h.1), h.2.1, fun a cls d => tS ⟨K, hxA a cls d, fun _ _ _ _ => False⟩ h.2.2)
theorem DHs.ok {X : Cx} {hds : List ExceptHandler} {l : List HdD} (h : DHs X hds l) : ClsOk X hds (l.map (clOf X.K)) := by
  induction h with
  | nil => exact .nil
  | cons hc hs hsu r ih => exact .cons hc hs (fun a oe cls d pn hz hf => (hsu a oe cls d pn hz hf).run _ takes_none5) ih
theorem SPost.outH {K : PySem.W.Frag} {hx hx' : Hx} {W : WX} {A0 : Ads} {S0 : Store} {H0 : Hp} {D : Ends} {o : Option Nat} {r : SR} (p : SPost ⟨K, hx, W⟩ A0 S0 H0 D (Y.outH o r)) :
    SPost ⟨K, hx', fun _ _ _ _ => False⟩ A0 S0 H0 (match o with | none => D | some i => gone i D) r := by
  cases r with
  | nx σd S =>
    intro A H σ R T E
    cases o with
    | none => exact p A H σ R T (drH_re E)
    | some i => exact p A H _ R T (drH_re (re_none E))
  | bk σd S =>
    intro A H σ R T E
    cases o with
    | none => exact p A H σ R T (drH_re E)
    | some i => exact p A H _ R T (drH_re (re_none E))
  | ct σd S =>
    intro A H σ R T E
    cases o with
    | none => exact p A H σ R T (drH_re E)
    | some i => exact p A H _ R T (drH_re (re_none E))
  | rt w S =>
    intro A H v R T r
    cases w with
    | hex C ns l => exact p.elim
    | d x =>
      cases o with
      | none => exact p A H v R T r
      | some i => exact p A H v R T r
    | loc n =>
      cases o with
      | none => exact p A H v R T r
      | some i => exact p A H v R T r
  | exc C ns l σd S => exact p.elim
  | bad => exact p.elim
theorem cls_ok {K : PySem.W.Frag} {et : Str → Str → Option Bool} (he : IsEt K et) {hx : Hx} {W : WX} {A0 A : Ads} {S0 S : Store} {H0 H : Hp} {C : Str} {ns : List Str} {l : List D} {Dn : Ends} {b : Nat} {σd : Ev} {σ : L2.St} {dx : Addr} {vs : List V} (R0 : Rel K A0 S0 H0) (R : Rel K A S H) (T : Stp A0 S0 H0 A S H)
    (E : RE K hx A (Live A S) H σd σ) (hd : H dx = some (.xd (ns.zip vs))) (hl : RPs K (Live A S) H l vs) (hn : ns.length = l.length) : ∀ {hs : List HdD}, SPost ⟨K, hx, W⟩ A0 S0 H0 Dn (clsR et C ns l b σd S hs) → wMix K W Dn (hs.map (clOf K)) (.ref (He.ga K C)) (some dx) σ H
  | [], p => p A H σ dx vs R T E hd hl hn
  | (x, o, f) :: r, p => by
    unfold clsR at p
    cases q : et C x with
    | none => rw [q] at p; exact p.elim
    | some k =>
      rw [q] at p
      refine ⟨k, he C x k q, fun e a ha => ?_, fun e => ?_⟩
      · subst e
        have p2 := SPost.outH (hx' := hxA a (.ref (He.ga K C)) (some dx)) p
        have E1 : RE K (hxA a (.ref (He.ga K C)) (some dx)) A (Live A S) H (drH σd) σ := drH_re E
        cases o with
        | none => exact ⟨b, A0, S0, H0, A, S, _, R0, T, R, E1, p2⟩
        | some i => exact ⟨b, A0, S0, H0, A, S, _, R0, T, R, E1.set (d := .hex C ns l) ⟨a, dx, vs, rfl, ⟨rfl, rfl, rfl⟩, hd, hl, hn⟩, p2⟩
      · subst e
        exact cls_ok he R0 R T E hd hl hn p
section
variable {X : Cx} {hx : Hx} {body : List Stmt} {h₀ : ExceptHandler} {hds : List ExceptHandler} {fb : SM} {hs : List HdD} {pos : Pos} {et : Str → Str → Option Bool}
theorem ds_try (he : IsEt X.K et) (hN : X.N.Nodup) (hb : ∀ (pn : List (Addr × Obj)) (xe : Value → Shared → Prop), DB (X.tr pn xe) hx body fb) (hh : DHs X (h₀ :: hds) hs) (hst : X.stack = X.env :: X.outer := by rfl) (hf : X.env.frame = some X.env.locals := by rfl) :
    DS X hx (.Try body (h₀ :: hds) [] [] pos) (sTry et fb hs) := ⟨fun W tk => PSimp (ps_try_mix (tb := fun W' => tS ⟨X.K, hx, W'⟩ fb) hst hf hN tk (fun W' pn xe tk' _ => (hb pn xe).run W' tk') hh.ok) fun σ H D ⟨b0, A0, S0, H0, A, S, σd, R0, T, R, E, p⟩ => by
    refine ⟨b0, A0, S0, H0, A, S, σd, R0, T, R, E, ?_⟩
    unfold sTry at p
    cases q : fb b0 σd S with
    | exc C ns l σd' S' =>
      rw [q] at p
      exact fun A' H' σ' dx vs R' T' E' hd hl hn => cls_ok he R0 R' T' E' hd hl hn p
    | nx _ _ => rw [q] at p; exact p
    | bk _ _ => rw [q] at p; exact p
    | ct _ _ => rw [q] at p; exact p
    | rt _ _ => rw [q] at p; exact p
    | bad => rw [q] at p; exact p.elim⟩
/-- raise C(e), C keeping one thing -/
def sRs1 (C f : Str) (g : AM) : SM := fun _ σd S => (g σd S).toS σd fun ws S1 => match ws with
  | [w] => (match fz1 S1 w with
    | .ok x S2 => .exc C [f] [x] σd S2
    | _ => .bad)
  | _ => .bad
theorem ds_raise1 {C f : Str} {k : Nat} {e : Expr} {es : List Expr} {g : AM} {p cpos : Pos} (hcalm : X.calm = true) (G : Ini1 X.prog X.w X.K X.mg X.base C f k) (hr : Room (k + 1) X.A) (ha : DA X hx (e :: es) g) (hg : Gl X C := by rfl)
    (hdb : (C == ("__debug__" : Str)) = false := by decide) (he : starEach (e :: es) X.env = (false, eval e X.env) :: starEach es X.env := by rfl) (hpl : (backTo cpos (starEach es X.env)).any (·.1) = false := by rfl) :
    DS X hx (.Raise (some (.Call (.Name C p) (e :: es) [] cpos)) none pos) (sRs1 C f g) := by
  obtain ⟨fI, fd, ps, T, iC, tI, F1, hb, hno, hm⟩ := G.is
  refine ⟨fun W tk => PSimp (ps_raise hcalm tk (pmk_oex T iC tI F1 hr hb .nil (fun pins σ H s e s' I c => tk e s' (XE.of_call (σ := σ) I (fun _ _ _ h => h.elim) c)) hg hm (ha.run W tk) hdb he hpl)) fun σ H D ⟨b0, A0, S0, H0, A, S, σd, R0, T0, R, E, p⟩ => ?_⟩
  refine ⟨A, S, σd, R, E, (Post.ofS (R1 := rVs _) R T0 E p).mono fun us H1 ⟨A1, S1, ds, R1, T1, E1, r1, p1⟩ => ?_⟩
  split at p1
  · rename_i w0
    obtain ⟨y, rfl, ry⟩ := rvs1 r1
    cases q : fz1 S1 w0 with
    | bad => rw [q] at p1; exact p1.elim
    | exc _ _ _ _ => exact (fz1_nexc q).elim
    | ok x S2 =>
      rw [q] at p1
      obtain ⟨R2, T2, r2⟩ := fz1_ok R1 ry q
      refine ⟨by show 1 ≤ 1000; omega, fun a hn => ?_⟩
      refine ⟨a, He.ga X.K C, y, rfl, T, hno, upd_same, fun d hd ne => ?_⟩
      have hd1 : H1 d = none := by rw [upd_ne ne] at hd; exact hd
      refine ⟨rfl, d, [(f, y)], upd_same, by rw [upd_ne ne, upd_same], hd1, ?_⟩
      rw [heap_mk hn ne]
      exact p1 A1 _ σ d [y] (R2.new hd1) ((T1.trans T2).trans (Stp.new hd1)) ((E1.step R1 T2).step R2 (Stp.new hd1)) upd_same (fr_new R2 hd1 (.one r2)) rfl
  · exact p1.elim
end
/-- e.f, e what the suite holds -/
def eHf (Cs : List Str) (n : Str) (f : EM) : EM := fun σd S => (f σd S).bind fun w S1 => match w with
  | .hex C ns l => if C ∈ Cs then optD S1 (zipL n ns l) else .bad
  | _ => .bad
section
variable {X : Cx} {a : Addr} {oe : Obj} {cls : Value} {d : Option Addr} {pn : List (Addr × Obj)} {e : Expr} {fe : EM} {pos : Pos} {n : Str}
theorem d_hexf (Cs : List Str) (hC : ∀ C ∈ Cs, XfC X.K (He.ga X.K C) ∧ PySem.W.findIn X.K (.ref (He.ga X.K C)) n = some none) (hz : Zc cls d oe) (hf : ∃ vs, oe.data = .fields vs) (he : DE (X.suite a ((a, oe) :: pn)) (hxA a cls d) e fe)
    (hb : attributeBase e n X.env (eval e X.env) = eval e X.env := by rfl) : DE (X.suite a ((a, oe) :: pn)) (hxA a cls d) (.Attribute e n pos) (eHf Cs n fe) := by
  refine ⟨fun W tk => ⟨fun pins s σ H Q I h => ?_⟩⟩
  obtain ⟨A, S, σd, R, E, p⟩ := h
  refine attr_of hb (thn ((he.run W tk).run pins s σ H _ I ⟨A, S, σd, R, E, Post.bind (R1 := rV _) p⟩) fun u s1 hh => ?_)
  obtain ⟨x, H1, I1, rx, A1, S1, w, R1, T1, r1, p1⟩ := hh
  split at p1
  · rename_i C ns l
    obtain ⟨hm, p1⟩ := Post.iteP p1
    obtain ⟨T, hno⟩ := hC C hm
    obtain ⟨a', dd, vs, ex, ⟨ea, ec, ed⟩, hdd, hl, hn⟩ := r1
    subst ea ex
    have hz1 : oe.cls = .ref (He.ga X.K C) := hz.1.trans ec
    have hz2 : oe.dict = some dd := hz.2.trans ed
    obtain rfl : u = Value.ref a' := rx
    cases q : zipL n ns l with
    | none => rw [q] at p1; exact p1.elim
    | some y =>
      rw [q] at p1
      obtain ⟨v, l1, l2⟩ := zipL_ok hl q
      obtain ⟨ha, _⟩ := I1.pin (a', oe) (List.mem_append_left _ List.mem_cons_self)
      obtain ⟨fvs, hd⟩ := hf
      have hx : ObjOk X.prog X.w H1 s1.heap dd (.xd (ns.zip vs)) := I1.hok dd _ hdd
      obtain ⟨mA, hns, hr⟩ := hx
      obtain ⟨od, ho, hlk⟩ := lookIn_ns hns
      obtain ⟨u, hu, ru⟩ := RelO.some_of (v := v) (o := mA n) (by rw [← l1]; exact hr n)
      have J : PySem.W.InstAt s1.heap a' oe (He.ga X.K C) (some od) := ⟨ha, hz1, by unfold PySem.W.notCls; rw [hd] <;> rfl, by rw [hz2]; exact ho⟩
      exact HandSPX.exc_get I1.kIn J T.ga T.gg T.exC (PySem.W.findObj_own T.hdC hno rfl (by rw [hlk, hu])) (handed_of ru) ⟨v, H1, I1.tok _, ru, p1.hereV R1 l2⟩
  · exact p1.elim
end
/-- told by the heap -/
def etOf (xt : XT) (xn : List Str) : Str → Str → Option Bool := fun C x => if xn.contains x then (xt.lookup C).map fun p => p.1.contains x else none
def etB (K : PySem.W.Frag) (xt : XT) (xn : List Str) : Bool := xt.all fun p => xn.all fun x => decide (PySem.W.exmOne K (.ref (He.ga K p.1)) (.ref (He.ga K x)) = some (p.2.1.contains x))
theorem etB_ok {K : PySem.W.Frag} {xt : XT} {xn : List Str} (h : etB K xt xn = true) : IsEt K (etOf xt xn) := by
  intro C x b e
  unfold etOf at e
  split at e
  · rename_i hx
    cases q : xt.lookup C with
    | none => rw [q] at e; cases e
    | some p =>
      rw [q] at e
      cases e
      exact of_decide_eq_true (List.all_eq_true.mp (List.all_eq_true.mp h _ (mem_of_lookup q)) x (by simpa using hx))
  · cases e
theorem names_gl {X : Cx} {x : Str} (h : ∃ u v, X.mg x = some u ∧ RelV v u ∧ ∀ lv H, RP X.K lv H (.gl x) v) (hg : Gl X x := by rfl) (hdb : (x == ("__debug__" : Str)) = false := by decide) : Names X x (.ref (He.ga X.K x)) := by
  obtain ⟨u, v, h1, h2, h3⟩ := h
  have h4 := h3 (fun _ => False) (fun _ => none)
  cases h4
  obtain rfl : u = Value.ref _ := h2
  exact ⟨hg, hdb, .inl h1⟩
end Y
end
section
set_option maxHeartbeats 1000000
/-! Y34: tuple * int for every int; methods of texts; list.count; int(text). -/
namespace Y
open PySem PySem.Spec PyProof.Rows L2
/-! ### tuple * k, k below 2 or the tuple empty -/
theorem tmul_same (l : Addr) (items : Array Value) (n : Nat) (sl : Array (Option Value)) (x : Int) (u : Tok) (c0 : (decide (x < -(2 ^ 63)) || decide (x ≥ 2 ^ 63)) = false) (c1 : (items.isEmpty || x == 1) = true) :
    Meets (Builtin.«tuple.__mul__» ⟨[.ref l, .int x u], []⟩) (fun _ R s => (∃ dd, s.heap.get? l = some { cls := .type "tuple", dict := dd, data := .seq items n, slots := sl }) ∧ R (.ok (.ret (Value.ref l))) s) :=
  .of_wp fun prog w A R s h => by
    obtain ⟨hp, g, d, tk, os⟩ := s
    obtain ⟨⟨dd, hl⟩, h⟩ := h
    have f1 := AutoSeq1.idx_int
    wp_walk using wpAny_loadPart' hl
    repeat (first
      | (refine wpAny_ite_false (decide_eq_false (by rw [c0]; exact Bool.false_ne_true)) ?_; wp_walk using wpAny_loadPart' hl)
      | (refine wpAny_ite_true (decide_eq_true c1) ?_; wp_walk using wpAny_loadPart' hl))
    exact ⟨_, rfl, h⟩
theorem tmul_none (l : Addr) (items : Array Value) (n : Nat) (sl : Array (Option Value)) (x : Int) (u : Tok) (c0 : (decide (x < -(2 ^ 63)) || decide (x ≥ 2 ^ 63)) = false) (c1 : (items.isEmpty || x == 1) = false) (c2 : (decide (x ≤ 0) || items.isEmpty) = true) :
    Meets (Builtin.«tuple.__mul__» ⟨[.ref l, .int x u], []⟩) (fun _ R s => (∃ dd, s.heap.get? l = some { cls := .type "tuple", dict := dd, data := .seq items n, slots := sl }) ∧
      R (.ok (.ret (Value.ref s.heap.objs.size))) { s with heap := s.heap.push { cls := Value.type "tuple", data := Data.seq #[] }, toks := s.toks }) :=
  .of_wp fun prog w A R s h => by
    obtain ⟨hp, g, d, tk, os⟩ := s
    obtain ⟨⟨dd, hl⟩, h⟩ := h
    have f1 := AutoSeq1.idx_int
    wp_walk using wpAny_loadPart' hl
    repeat (first
      | (refine wpAny_ite_false (decide_eq_false (by rw [c0]; exact Bool.false_ne_true)) ?_; wp_walk using wpAny_loadPart' hl)
      | (refine wpAny_ite_false (decide_eq_false (by rw [c1]; exact Bool.false_ne_true)) ?_; wp_walk using wpAny_loadPart' hl)
      | (refine wpAny_ite_true (decide_eq_true c2) ?_; wp_walk using wpAny_loadPart' hl))
    exact ⟨_, rfl, h⟩
def rMulT (K : PySem.W.Frag) : R2 := fun x y H Q => ∃ l k xs, x = .ref l ∧ y = .int k ∧ SqT K H l xs ∧ xs ≠ [] ∧ -1000 ≤ k ∧ k ≤ 1 ∧ (k = 1 → Q (.ref l) H) ∧ (k ≤ 0 → ∀ p, H p = none → Q (.ref p) (upd H p (.tup [])))
section
variable {X : Cx}
theorem op_mulT : OpR X (binaryOp .Mult) (rMulT X.K) := by
  intro pins s σ H x y v u Q I rx ry h
  obtain ⟨l, k, xs, rfl, rfl, hT, hne, h1, h2, q1, q0⟩ := h
  cases rx
  obtain ⟨t, rfl⟩ := ry
  obtain ⟨its, r, ⟨⟨cls, dd, data, sl⟩, ho, hc, n, hd⟩, hs⟩ := I.tuple hT
  simp only at hc hd
  subst hc hd
  have hn : its ≠ [] := fun e => hne (by
    have hle : its.length = xs.length := r.length.symm
    rw [e] at hle
    exact List.eq_nil_of_length_eq_zero hle.symm)
  have hi : its.toArray.isEmpty = false := by
    cases its with
    | nil => exact absurd rfl hn
    | cons a b => rfl
  have c0 : (decide (k < -(2 ^ 63)) || decide (k ≥ 2 ^ 63)) = false := by
    rw [decide_eq_false (by omega), decide_eq_false (by omega)] <;> rfl
  by_cases hk : k = 1
  · subst hk
    have c1 : (its.toArray.isEmpty || (1 : Int) == 1) = true := by rw [hi]; rfl
    refine wpAny_binaryOp_repeat_ref (T := "tuple") (U := "int") (by decide) ⟨_, ho, rfl⟩ (fun s' => typeIs_int s' _ t) noFill_tuple_mul F.fills_int_mul F.slot_int_rmul repeat_tuple F.slot_int_index.lookup
      (call_meets F.slot_int_rmul (typeIs_int s _ t) F.entry_int_rmul (F.args_int_rmul_2 _ _) (int_rmul_tuple _ t l its.toArray n dd sl)
        ⟨ho, rfl, ⟨_, ho, rfl⟩, call_meets F.slot_tuple_mul ⟨_, ho, rfl⟩ F.entry_tuple_mul (F.args_tuple_mul_2 _ _) (tmul_same l its.toArray n sl 1 t c0 c1) ⟨⟨dd, ho⟩, ?_⟩⟩)
    exact ⟨.ref l, H, I, rfl, q1 rfl⟩
  · have c1 : (its.toArray.isEmpty || k == 1) = false := by
      rw [hi, Bool.false_or]
      exact beq_eq_false_iff_ne.mpr hk
    have c2 : (decide (k ≤ 0) || its.toArray.isEmpty) = true := by
      rw [decide_eq_true (show k ≤ 0 by omega)]; rfl
    refine wpAny_binaryOp_repeat_ref (T := "tuple") (U := "int") (by decide) ⟨_, ho, rfl⟩ (fun s' => typeIs_int s' k t) noFill_tuple_mul F.fills_int_mul F.slot_int_rmul repeat_tuple F.slot_int_index.lookup
      (call_meets F.slot_int_rmul (typeIs_int s k t) F.entry_int_rmul (F.args_int_rmul_2 _ _) (int_rmul_tuple k t l its.toArray n dd sl)
        ⟨ho, rfl, ⟨_, ho, rfl⟩, call_meets F.slot_tuple_mul ⟨_, ho, rfl⟩ F.entry_tuple_mul (F.args_tuple_mul_2 _ _) (tmul_none l its.toArray n sl k t c0 c1 c2) ⟨⟨dd, ho⟩, ?_⟩⟩)
    refine ⟨.ref s.heap.objs.size, _, I.laid (t' := s.toks) (o := .tup []) (fun b ob q => Heap.get?_push_of_some _ q) (Nat.le_refl _) ?_, rfl, q0 (by omega) _ (I.hok.fresh (Nat.le_refl _))⟩
    exact ⟨Nat.zero_le _, [], .nil, IsTup.new s.heap #[]⟩
end
section
variable {X : Cx} {hx : Hx}
/-- tuple * k, lists, texts and numbers as before -/
def opMulT (a b : Wt) (S : Store) : Res Wt := match deref S a, deref S b with
  | some (.tup l), some (.int k) => if l = [] then .bad else if k = 1 then .ok (.d (.tup l)) S else if k ≤ 0 then (if -1000 ≤ k then .ok (.d (.tup [])) S else .bad) else opMul a b S
  | _, _ => opMul a b S
theorem od_mulT : OpD X hx (binaryOp .Mult) opMulT := by
  intro W pins s σ H x y v u Q I rx ry h
  obtain ⟨A, S, σ', d1, d2, R, r1, r2, p⟩ := h
  unfold opMulT at p
  split at p
  · rename_i l k e1 e2
    by_cases hl : l = []
    · rw [if_pos hl] at p; exact p.elim
    · rw [if_neg hl] at p
      have h2 := (readAs R r2 e2).int
      by_cases hk : k = 1
      · rw [if_pos hk] at p
        obtain ⟨a, vs, rfl, h1, g1⟩ := (readAs R r1 e1).tup
        exact op_mulT pins s σ H _ _ v u Q I rx ry ⟨a, k, vs, rfl, h2, h1, fun e => hl (by subst e; exact rps_nil g1), by omega, by omega, fun _ => p.hereV R (.tup h1 g1), fun z => by omega⟩
      · rw [if_neg hk] at p
        by_cases h0 : k ≤ 0
        · rw [if_pos h0] at p
          obtain ⟨hz, p⟩ := Post.iteP p
          obtain ⟨a, vs, rfl, h1, g1⟩ := (readAs R r1 e1).tup
          exact op_mulT pins s σ H _ _ v u Q I rx ry ⟨a, k, vs, rfl, h2, h1, fun e => hl (by subst e; exact rps_nil g1), by omega, by omega, fun z => absurd z hk, fun _ q hq => p.tup R .nil hq⟩
        · rw [if_neg h0] at p
          exact od_mul W pins s σ H x y v u Q I rx ry ⟨A, S, σ', d1, d2, R, r1, r2, p⟩
  · exact od_mul W pins s σ H x y v u Q I rx ry ⟨A, S, σ', d1, d2, R, r1, r2, p⟩
end

/-! ### methods of texts with one argument -/
section
variable {X : Cx} {hx : Hx}
def mSt (f : Str → Str → D) (o : Wt) (ds : List Wt) (S : Store) : Res Wt := match ds with
  | [d] => match deref S o, deref S d with
    | some (.str a), some (.str b) => .ok (.d (f a b)) S
    | _, _ => .bad
  | _ => .bad
theorem met_st {id : String} {f : Str → Str → D} {g : Str → Str → V} (hm : MtR X id (fun x xs H Q => ∃ a b, x = .str a ∧ xs = [.str b] ∧ Q (g a b) H)) (hr : ∀ a b lv H, RP X.K lv H (f a b) (g a b)) : MetD X hx id (mSt f) := by
  intro W pins s σ H x xs v us Q I r rs h
  obtain ⟨A, S, σ', d, ds, R, rd, rds, p⟩ := h
  match ds, rds, p with
  | [], _, p => exact p.elim
  | _ :: _ :: _, _, p => exact p.elim
  | [y], rds, p =>
    obtain ⟨w, rfl, ry⟩ := rvs1 rds
    unfold mSt at p
    dsimp only at p
    split at p
    · rename_i a b e1 e2
      exact hm pins s σ H _ _ v us Q I r rs ⟨a, b, (readAs R rd e1).str, by rw [(readAs R ry e2).str], p.hereV R (hr a b _ _)⟩
    · exact p.elim
def mSplit (o : Wt) (ds : List Wt) (S : Store) : Res Wt := match ds with
  | [d] => match deref S o, deref S d with
    | some (.str a), some (.str b) => if b.length ≠ 0 ∧ a.length ≤ 10000000 then .ok (.d (.lst ((Txt.split a b).map D.str))) S else .bad
    | _, _ => .bad
  | _ => .bad
theorem met_split : MetD X hx "str.split" mSplit := by
  intro W pins s σ H x xs v us Q I r rs h
  obtain ⟨A, S, σ', d, ds, R, rd, rds, p⟩ := h
  match ds, rds, p with
  | [], _, p => exact p.elim
  | _ :: _ :: _, _, p => exact p.elim
  | [y], rds, p =>
    obtain ⟨w, rfl, ry⟩ := rvs1 rds
    unfold mSplit at p
    dsimp only at p
    split at p
    · rename_i a b e1 e2
      obtain ⟨⟨z1, z2⟩, p⟩ := Post.iteP p
      exact mt_split pins s σ H _ _ v us Q I r rs ⟨a, b, (readAs R rd e1).str, by rw [(readAs R ry e2).str], by simpa using z1, by rw [sizeLine_eq]; omega, fun q hq => p.lst R (of_strs _) hq⟩
    · exact p.elim
variable {o e : Expr} {fo fe : EM} {apos cpos : Pos}
theorem d_starts (ho : DE X hx o fo) (he : DE X hx e fe) (hbase : attributeBase o "startswith" X.env (eval o X.env) = eval o X.env := by rfl)
    (hfew : ((backTo cpos (starEach [e] X.env)).all (fun x => !x.1) && (backToKw cpos (keywordEach [] X.env)).all (fun x => x.1.isSome)
      && decide ([e].length + ([] : List Keyword).length + (if ([] : List Keyword).isEmpty then 0 else 1) < 30)) = true := by rfl)
    (hline : (apos.endLine == cpos.line) = true := by rfl) (hs : starEach [e] X.env = (false, eval e X.env) :: starEach [] X.env := by rfl) (hplain : (backTo cpos (starEach [] X.env)).any (·.1) = false := by rfl) :
    DE X hx (.Call (.Attribute o "startswith" apos) [e] [] cpos) (eM isStr (mSt fun a b => .bl (Txt.startswith a b)) fo (aCons fe aNil)) :=
  d_m ty_str F.plainAttrs_str F.slot_str_startswith F.type_str_startswith (met_st mt_startswith fun a b _ _ => .bl _) ho (da_cons he da_nil hs) hbase hfew hline hs hplain
theorem d_ends (ho : DE X hx o fo) (he : DE X hx e fe) (hbase : attributeBase o "endswith" X.env (eval o X.env) = eval o X.env := by rfl)
    (hfew : ((backTo cpos (starEach [e] X.env)).all (fun x => !x.1) && (backToKw cpos (keywordEach [] X.env)).all (fun x => x.1.isSome)
      && decide ([e].length + ([] : List Keyword).length + (if ([] : List Keyword).isEmpty then 0 else 1) < 30)) = true := by rfl)
    (hline : (apos.endLine == cpos.line) = true := by rfl) (hs : starEach [e] X.env = (false, eval e X.env) :: starEach [] X.env := by rfl) (hplain : (backTo cpos (starEach [] X.env)).any (·.1) = false := by rfl) :
    DE X hx (.Call (.Attribute o "endswith" apos) [e] [] cpos) (eM isStr (mSt fun a b => .bl (Txt.endswith a b)) fo (aCons fe aNil)) :=
  d_m ty_str F.plainAttrs_str F.slot_str_endswith F.type_str_endswith (met_st mt_endswith fun a b _ _ => .bl _) ho (da_cons he da_nil hs) hbase hfew hline hs hplain
theorem d_split (ho : DE X hx o fo) (he : DE X hx e fe) (hbase : attributeBase o "split" X.env (eval o X.env) = eval o X.env := by rfl)
    (hfew : ((backTo cpos (starEach [e] X.env)).all (fun x => !x.1) && (backToKw cpos (keywordEach [] X.env)).all (fun x => x.1.isSome)
      && decide ([e].length + ([] : List Keyword).length + (if ([] : List Keyword).isEmpty then 0 else 1) < 30)) = true := by rfl)
    (hline : (apos.endLine == cpos.line) = true := by rfl) (hs : starEach [e] X.env = (false, eval e X.env) :: starEach [] X.env := by rfl) (hplain : (backTo cpos (starEach [] X.env)).any (·.1) = false := by rfl) :
    DE X hx (.Call (.Attribute o "split" apos) [e] [] cpos) (eM isStr mSplit fo (aCons fe aNil)) :=
  d_m ty_str F.plainAttrs_str F.slot_str_split F.type_str_split met_split ho (da_cons he da_nil hs) hbase hfew hline hs hplain
/-! ### list.count -/
theorem eqU_countP {y : V} : ∀ {ys : List V} {us : List Value}, Vals ys us → ys.all flatV = true → us.countP (eqU y) = ys.countP (fun z => eqV z y)
  | _, _, .nil, _ => rfl
  | z :: ys, u :: us, .cons r t, f => by
    rw [List.all_cons, Bool.and_eq_true] at f
    rw [List.countP_cons, List.countP_cons, eqU_countP t f.2, eqU_of r f.1]
def rCntF (K : PySem.W.Frag) : V → List V → Hp → VK → Prop := fun x xs H Q => ∃ (a : Addr) (ys : List V) (y : V), x = .ref a ∧ xs = [y] ∧ SqL K H a ys ∧ flatV y = true ∧ ys.all flatV = true ∧ Q (.int (ys.countP (fun z => eqV z y) : Nat)) H
theorem mt_countF : MtR X "list.count" (rCntF X.K) := by
  intro pins s σ H x xs v us Q I rx rxs h
  obtain ⟨a, ys, y, rfl, rfl, hs, fy, fys, q⟩ := h
  cases rx
  obtain ⟨uy, rfl, ry⟩ := rxs.one
  obtain ⟨its, rv, ⟨⟨cls, dd, data, sl⟩, n, ho, hc, hdn, hd⟩, hlen⟩ := I.list hs
  simp only at hc hd
  subst hc hd
  refine call_meets PySem.F.slot_list_count ⟨_, ho, rfl⟩ PySem.F.entry_list_count (PySem.F.args_list_count_2 _ _)
    (SeqAt.list_countAt a its.toArray n dd sl uy (eqU y)) ⟨ho, fun u' hu' => mem_eqAt ry fy rv fys u' (by simpa using hu'), ?_⟩
  refine ⟨.int (ys.countP (fun z => eqV z y) : Nat), H, I.tok _, ⟨s.toks, ?_⟩, q⟩
  show Value.int ((its.toArray.toList.countP (eqU y) : Nat) : Int) s.toks = _
  rw [show its.toArray.toList = its from rfl, eqU_countP rv fys]
def mCount (o : Wt) (ds : List Wt) (S : Store) : Res Wt := match ds with
  | [d] => match deref S o, deref S d with
    | some (.lst l), some x => if (x.flat && l.all D.flat) = true then .ok (.d (.int (l.countP (fun y => deq y x) : Nat))) S else .bad
    | _, _ => .bad
  | _ => .bad
theorem flats_count {K : PySem.W.Frag} {lv : Addr → Prop} {H : Hp} {d : D} {v : V} (h : RX K lv H d v) (f : d.flat = true) : ∀ {l : List D} {vs : List V}, RPs K lv H l vs → l.all D.flat = true → vs.countP (fun z => eqV z v) = l.countP (fun y => deq y d)
  | _, _, .nil, _ => rfl
  | _, _, .cons r t, fs => by
    rw [List.all_cons, Bool.and_eq_true] at fs
    rw [List.countP_cons, List.countP_cons, flats_count h f t fs.2, (flat_ok h f).2 _ _ (.inl r) fs.1]
theorem met_count : MetD X hx "list.count" mCount := by
  intro W pins s σ H x xs v us Q I r rs h
  obtain ⟨A, S, σ', d, ds, R, rd, rds, p⟩ := h
  match ds, rds, p with
  | [], _, p => exact p.elim
  | _ :: _ :: _, _, p => exact p.elim
  | [y], rds, p =>
    obtain ⟨w, rfl, ry⟩ := rvs1 rds
    unfold mCount at p
    dsimp only at p
    split at p
    · rename_i l x' e1 e2
      obtain ⟨hz, p2⟩ := Post.iteP p
      rw [Bool.and_eq_true] at hz
      obtain ⟨b, vs, rfl, hq, g⟩ := (readAs R rd e1).lst
      have q1 := readAs R ry e2
      refine mt_countF pins s σ H _ _ v us Q I r rs ⟨b, vs, w, rfl, rfl, SqL.of hq, (flat_ok q1 hz.1).1, (flats_ok q1 hz.1 g hz.2).1, ?_⟩
      rw [flats_count q1 hz.1 g hz.2]
      exact p2.hereV R (.int _)
    · exact p.elim
theorem d_count (ho : DE X hx o fo) (he : DE X hx e fe) (hbase : attributeBase o "count" X.env (eval o X.env) = eval o X.env := by rfl)
    (hfew : ((backTo cpos (starEach [e] X.env)).all (fun x => !x.1) && (backToKw cpos (keywordEach [] X.env)).all (fun x => x.1.isSome)
      && decide ([e].length + ([] : List Keyword).length + (if ([] : List Keyword).isEmpty then 0 else 1) < 30)) = true := by rfl)
    (hline : (apos.endLine == cpos.line) = true := by rfl) (hs : starEach [e] X.env = (false, eval e X.env) :: starEach [] X.env := by rfl) (hplain : (backTo cpos (starEach [] X.env)).any (·.1) = false := by rfl) :
    DE X hx (.Call (.Attribute o "count" apos) [e] [] cpos) (eM isLst mCount fo (aCons fe aNil)) :=
  d_m ty_lst F.plainAttrs_list F.slot_list_count F.type_list_count met_count ho (da_cons he da_nil hs) hbase hfew hline hs hplain
/-! ### int(text) -/
def optI1 (S : Store) : Option Int → Res Wt
  | some n => .ok (.d (.int n)) S
  | none => .bad
def bIntS : List Wt → Store → Res Wt := f1 fun d S => match d with
  | .str x => if x.length ≤ 640 then optI1 S (PySem.intText? x) else .bad
  | _ => .bad
theorem cal_intS : CalD X hx (.type "int") bIntS := by
  intro W pins s σ H xs us Q I r h
  obtain ⟨A, S, σ', d, v, R, rfl, rv, p⟩ := rcd1 h
  split at p
  · rename_i x
    obtain ⟨hz, p⟩ := Post.iteP p
    cases e : PySem.intText? x with
    | none => rw [e] at p; exact p.elim
    | some n =>
      rw [e] at p
      exact call_int_str pins s σ H _ us Q I r ⟨x, n, by rw [rv.str], e, hz, p.hereV R (.int _)⟩
  · exact p.elim
end
end Y
end
section
/-! Y35: e.replace of written texts, behind a written text in a display. -/
namespace Y
open PySem PySem.Spec PyProof.Rows L2
structure DET (X : Cx) (hx : Hx) (e : Expr) (f : EM) : Prop where
  run : ∀ W, Takes X W → PET X e (tE ⟨X.K, hx, W⟩ f)
structure DAT (X : Cx) (hx : Hx) (es : List Expr) (f : AM) : Prop where
  run : ∀ W, Takes X W → PAT X es (tA ⟨X.K, hx, W⟩ f)
def eRep (y z : Str) (f : EM) : EM := fun σd S => (f σd S).bind fun w S1 => match deref S1 w with
  | some (.str x) => if x.length + (x.length + 1) * z.length ≤ 10000000 then .ok (.d (.str (Txt.replace x y z))) S1 else .bad
  | _ => .bad
section
variable {X : Cx} {hx : Hx} {e : Expr} {es : List Expr} {f : EM} {g : AM}
theorem DE.det (h : DE X hx e f) : DET X hx e f := ⟨fun W tk => CwR.PET.of (h.run W tk)⟩
theorem dat_nil : DAT X hx [] aNil := ⟨fun W tk => fun pos pins s σ H Q h0 I ⟨A, S, σd, R, E, p⟩ => pat_nil pos pins s σ H Q h0 I (p.here R .nil)⟩
theorem dat_cons (h1 : DET X hx e f) (h2 : DAT X hx es g) (hs : starEach (e :: es) X.env = (false, eval e X.env) :: starEach es X.env := by rfl) : DAT X hx (e :: es) (aCons f g) :=
  ⟨fun W tk => fun pos pins s σ H Q h0 I ⟨A, S, σd, R, E, p⟩ => pat_cons (h1.run W tk) (h2.run W tk) hs pos pins s σ H Q h0 I
    ⟨A, S, σd, R, E, (Post.bind (R1 := rV _) p).mono fun v H1 ⟨A1, S1, d, R1, T1, r1, p1⟩ => ⟨A1, S1, σd, R1, E.step R T1, (Post.bind (R1 := rVs _) p1).mono fun vs H2 ⟨A2, S2, ds, R2, T2, r2, p2⟩ =>
      p2.here R2 (.cons (r1.step R1 T2) r2)⟩⟩⟩
/-- a written text gives a token out -/
theorem da_strT {x : Str} {j : Nat} {cp : Pos} (h2 : DAT X hx es g) (hs : starEach (.Constant (.str x) j cp :: es) X.env = (false, eval (.Constant (.str x) j cp) X.env) :: starEach es X.env := by rfl) : DA X hx (.Constant (.str x) j cp :: es) (aCons (eC (.str x)) g) :=
  ⟨fun W tk => ⟨fun pos pins s σ H Q I ⟨A, S, σd, R, E, p⟩ => by
    rw [hs]
    show wpAny _ _ (spliced ((false, eval (.Constant (.str x) j cp) X.env) :: backTo pos (starEach es X.env))) _ _ s
    refine Calls.spliced_cons (Calls.Constant_str ?_)
    exact thn (h2.run W tk pos pins _ σ H _ (by show 1 ≤ s.toks + 1; omega) (I.tok _) ⟨A, S, σd, R, E, Post.bind (R1 := rVs _) (show Post ⟨X.K, hx, W⟩ (rVs ⟨X.K, hx, W⟩) σ A S H Q ((g σd S).bind fun ds S2 => .ok (.d (.str x) :: ds) S2) from p)⟩) fun us s2 ⟨vs, H2, I2, r2, A2, S2, ds, R2, T2, r3, p2⟩ =>
      ⟨.str x :: vs, H2, I2, .cons ⟨_, rfl⟩ r2, p2.here R2 (.cons (RV.of (.str x)) r3)⟩⟩⟩
theorem det_rep {o : Expr} {fo : EM} {y z : Str} {j k : Nat} {c0 c1 apos pos : Pos} (ho : DE X hx o fo) (hyz : (y == z) = false := by decide)
    (hst : starEach [.Constant (.str y) j c0, .Constant (.str z) k c1] X.env = [(false, eval (.Constant (.str y) j c0) X.env), (false, eval (.Constant (.str z) k c1) X.env)] := by rfl)
    (hbase : attributeBase o "replace" X.env (eval o X.env) = eval o X.env := by rfl) (hline : (apos.endLine == pos.line) = true := by rfl) :
    DET X hx (.Call (.Attribute o "replace" apos) [.Constant (.str y) j c0, .Constant (.str z) k c1] [] pos) (eRep y z fo) := ⟨fun W tk => fun pins s σ H Q h0 I ⟨A, S, σd, R, E, p⟩ =>
  CwR.pet_replC (ho.run W tk) hyz hst hbase hline pins s σ H Q h0 I ⟨A, S, σd, R, E, (Post.bind (R1 := rV _) p).mono fun v H1 ⟨A1, S1, w, R1, T1, r1, p1⟩ => by
    split at p1
    · rename_i x e1
      obtain ⟨hz, p1⟩ := Post.iteP p1
      exact ⟨x, (readAs R1 r1 e1).str, by omega, p1.hereV R1 (.str _)⟩
    · exact p1.elim⟩⟩
end
end Y
end
section
/-! Y36: reckoning with the later D functions. -/
namespace Y
open PySem PySem.Spec PyProof.Rows L2
section
variable {σ : Ev} {S : Store} {b n i j : Nat} {C f g q : Str} {k m : Int} {l l' : List D} {ns : List Str} {x y : Str} {d e : D} {G : AM} {fo : EM} {Cs : List Str}
@[simp] theorem eMk1_ap : eMk1 C f G σ S = (G σ S).bind fun ws S1 => mk1D C f ws S1 := id rfl
@[simp] theorem mk1_d : mk1D C f [.d d] S = .ok (.d (.exo C [f] [d])) S := id rfl
@[simp] theorem eMk2_ap : eMk2 C f g G σ S = (G σ S).bind fun ws S1 => mk2D C f g ws S1 := id rfl
@[simp] theorem mk2_d : mk2D C f g [.d d, .d e] S = .ok (.d (.exo C [g, f] [e, d])) S := id rfl
@[simp] theorem eMk2R_ap : eMk2R C f g G σ S = (G σ S).bind fun ws S1 => mk2R C f g ws S1 := id rfl
@[simp] theorem mk2R_d : mk2R C f g [.d e, .d d] S = .ok (.d (.exo C [g, f] [e, d])) S := id rfl
@[simp] theorem eMk0_ap : eMk0 C σ S = .ok (.d (.exo C [] [])) S := id rfl
@[simp] theorem eXf_ap : eXf Cs q fo σ S = (fo σ S).bind fun w S1 => xfD Cs q w S1 := id rfl
theorem xf_exo (h : C ∈ Cs) (e1 : zipL q ns l = some d) : xfD Cs q (.d (.exo C ns l)) S = .ok (.d d) S := by
  show (if C ∈ Cs then optD S (zipL q ns l) else .bad) = _
  rw [if_pos h, e1]; rfl
@[simp] theorem bIsX_ap {t : Str → D → Option Bool} : bIsX t [.d (.exo C ns l), .d d] S = ansB S (t C d) := id rfl
@[simp] theorem ansB_some {c : Bool} : ansB S (some c) = .ok (.d (.bl c)) S := id rfl
theorem eHf_ap : eHf Cs q fo σ S = (fo σ S).bind fun w S1 => match w with
  | .hex C ns l => if C ∈ Cs then optD S1 (zipL q ns l) else .bad
  | _ => .bad := rfl
theorem sTry_ap {et : Str → Str → Option Bool} {fb : SM} {hs : List HdD} : sTry et fb hs b σ S = (match fb b σ S with
  | .exc C ns l σd' S' => clsR et C ns l b σd' S' hs
  | r => r) := rfl
@[simp] theorem sRs1_ap : sRs1 C f G b σ S = (G σ S).toS σ fun ws S1 => match ws with
  | [w] => (match fz1 S1 w with
    | .ok x S2 => .exc C [f] [x] σ S2
    | _ => .bad)
  | _ => .bad := id rfl
@[simp] theorem mSt_ap {f : Str → Str → D} : mSt f (.d (.str x)) [.d (.str y)] S = .ok (.d (f x y)) S := id rfl
@[simp] theorem mSplit_ap : mSplit (.d (.str x)) [.d (.str y)] S = if y.length ≠ 0 ∧ x.length ≤ 10000000 then .ok (.d (.lst ((Txt.split x y).map D.str))) S else .bad := id rfl
@[simp] theorem mCount_ap : mCount (.d (.lst l)) [.d d] S = if (d.flat && l.all D.flat) = true then .ok (.d (.int (l.countP (fun y => deq y d) : Nat))) S else .bad := id rfl
@[simp] theorem mIndex_ap : mIndex (.d (.lst l)) [.d d] S = if (d.flat && l.all D.flat) = true then isIx (idxOf d l) S else .bad := id rfl
@[simp] theorem isIx_some : isIx (some n) S = .ok (.d (.int n)) S := id rfl
@[simp] theorem isLst_d : isLst (.d (.lst l)) S = true := id rfl
@[simp] theorem bIntS_str : bIntS [.d (.str x)] S = if x.length ≤ 640 then optI1 S (PySem.intText? x) else .bad := id rfl
@[simp] theorem optI1_some : optI1 S (some k) = .ok (.d (.int k)) S := id rfl
@[simp] theorem eRep_ap : eRep x y fo σ S = (fo σ S).bind fun w S1 => match deref S1 w with
  | some (.str z) => if z.length + (z.length + 1) * y.length ≤ 10000000 then .ok (.d (.str (Txt.replace z x y))) S1 else .bad
  | _ => .bad := id rfl
@[simp] theorem mulT_int : opMulT (.d (.int k)) (.d (.int m)) S = if mulOk k m then .ok (.d (.int (k * m))) S else .bad := id rfl
@[simp] theorem mulT_lst : opMulT (.d (.lst l)) (.d (.int k)) S = if 0 ≤ k ∧ k < 10000000 ∧ l.length * k.toNat ≤ lim then .ok (.d (.lst (List.replicate k.toNat l).flatten)) S else .bad := id rfl
theorem mulT_tup (hl : l ≠ []) (hl2 : l.length ≤ 1000) (h0 : -1000 ≤ k) (h1 : k ≤ 1000) : opMulT (.d (.tup l)) (.d (.int k)) S = .ok (.d (.tup (List.replicate k.toNat l).flatten)) S := by
  show (if l = [] then .bad else if k = 1 then .ok (.d (.tup l)) S else if k ≤ 0 then (if -1000 ≤ k then .ok (.d (.tup [])) S else .bad) else opMul (.d (.tup l)) (.d (.int k)) S) = _
  rw [if_neg hl]
  by_cases e1 : k = 1
  · subst e1
    rw [if_pos rfl]
    simp
  · rw [if_neg e1]
    by_cases e0 : k ≤ 0
    · rw [if_pos e0, if_pos h0, show k.toNat = 0 by omega]
      rfl
    · rw [if_neg e0]
      show (if l ≠ [] ∧ 2 ≤ k ∧ k ≤ 1000 ∧ l.length ≤ 1000 then _ else _) = _
      rw [if_pos ⟨hl, by omega, h1, hl2⟩]
@[simp] theorem len_dct {ks : List Key} : bLen [.d (.dct ks l)] S = .ok (.d (.int ks.length)) S := id rfl
@[simp] theorem gcd_int : bGcd [.d (.int k), .d (.int m)] S = .ok (.d (.int ((Nat.gcd k.natAbs m.natAbs : Nat) : Int))) S := id rfl
@[simp] theorem popAt_d : mPopAt (.d d) [.d e] S = .bad := by unfold mPopAt; rfl
end
end Y
end
section
/-! Y37: comprehensions of two clauses reckoned. -/
namespace Y
open PySem PySem.Spec PyProof.Rows L2
section
variable {g g1 : GM} {t t1 : TM} {e : EM} {w1 : IM} {σw : Ev} {n : Nat} {vs1 : List Nat}
theorem lc2_flat (h : D → List D) : ∀ (ds acc : List D) (S : Store), S.length = n → (∀ d ∈ ds, ∀ acc', ∃ σ2, g (.d d) σw (S ++ [.lst acc']) = .ok σ2 (S ++ [.lst acc']) ∧
    ((t σ2 (S ++ [.lst acc']) = .ok false (S ++ [.lst acc']) ∧ h d = []) ∨
      (t σ2 (S ++ [.lst acc']) = .ok true (S ++ [.lst acc']) ∧ ∃ (ds1 : List D) (h1 : D → D), w1 σ2 (S ++ [.lst acc']) = .ok ds1 (S ++ [.lst acc']) ∧ h d = ds1.map h1 ∧
        ∀ d1 ∈ ds1, ∀ acc2, ∃ σ3, g1 (.d d1) (wipeD σ2 vs1) (S ++ [.lst acc2]) = .ok σ3 (S ++ [.lst acc2]) ∧ t1 σ3 (S ++ [.lst acc2]) = .ok true (S ++ [.lst acc2]) ∧ e σ3 (S ++ [.lst acc2]) = .ok (.d (h1 d1)) (S ++ [.lst acc2])))) →
    acc.length + (ds.flatMap h).length ≤ lim → lc2N g t w1 g1 t1 e σw vs1 n ds (S ++ [.lst acc]) = some (S ++ [.lst (acc ++ ds.flatMap h)])
  | [], acc, S, hn, _, _ => by simp [lc2N]
  | d :: ds, acc, S, hn, hd, hl => by
    obtain ⟨σ2, q1, q2⟩ := hd d (List.mem_cons_self ..) acc
    rw [List.flatMap_cons, List.length_append] at hl
    have tk : ∀ acc : List D, (S ++ [Cell.lst acc]).take (n + 1) = S ++ [.lst acc] := fun acc => List.take_of_length_le (by simp [hn])
    rcases q2 with ⟨q2, q3⟩ | ⟨q2, ds1, h1, q3, q4, q5⟩
    · have ih := lc2_flat h ds acc S hn (fun x hx => hd x (List.mem_cons_of_mem _ hx)) (by omega)
      simp only [lc2N, q1, q2, tk, ih, List.flatMap_cons, q3, List.nil_append]
    · have l4 : (S ++ [Cell.lst acc]).length = n + 1 := by simp [hn]
      have m1 : lcM g1 t1 e (wipeD σ2 vs1) n (n + 1) ds1 (S ++ [.lst acc]) = some (S ++ [.lst (acc ++ ds1.map h1)]) := by
        rw [lcM_eq]
        exact lc_map h1 ds1 acc S hn q5 (by rw [q4, List.length_map] at hl; omega)
      have ih := lc2_flat h ds (acc ++ ds1.map h1) S hn (fun x hx => hd x (List.mem_cons_of_mem _ hx)) (by rw [q4] at hl; rw [List.length_append]; omega)
      simp only [lc2N, q1, q2, q3, l4, m1, tk, ih, List.flatMap_cons, q4, List.append_assoc]
theorem eLc2_flat {w : IM} {vs : List Nat} {σ : Ev} {S : Store} {ds : List D} (h : D → List D) (hw : w σ S = .ok ds S) (hl : (ds.flatMap h).length ≤ lim)
    (hd : ∀ d ∈ ds, ∀ acc', ∃ σ2, g (.d d) (wipeD σ vs) (S ++ [.lst acc']) = .ok σ2 (S ++ [.lst acc']) ∧
    ((t σ2 (S ++ [.lst acc']) = .ok false (S ++ [.lst acc']) ∧ h d = []) ∨
      (t σ2 (S ++ [.lst acc']) = .ok true (S ++ [.lst acc']) ∧ ∃ (ds1 : List D) (h1 : D → D), w1 σ2 (S ++ [.lst acc']) = .ok ds1 (S ++ [.lst acc']) ∧ h d = ds1.map h1 ∧
        ∀ d1 ∈ ds1, ∀ acc2, ∃ σ3, g1 (.d d1) (wipeD σ2 vs1) (S ++ [.lst acc2]) = .ok σ3 (S ++ [.lst acc2]) ∧ t1 σ3 (S ++ [.lst acc2]) = .ok true (S ++ [.lst acc2]) ∧ e σ3 (S ++ [.lst acc2]) = .ok (.d (h1 d1)) (S ++ [.lst acc2])))) :
    eLc2 w g t w1 g1 t1 e vs vs1 σ S = .ok (.d (.lst (ds.flatMap h))) S := by
  show (w σ S).bind _ = _
  rw [hw, ok_bind, lc2_flat h ds [] S rfl hd (by simpa using hl)]
  simp [optS, finV]
end
end Y
end
section
/-! Y38: zip of a list and a tuple, beside zip of two of one kind. -/
namespace Y
open PySem PySem.Spec PyProof.Rows L2
/-- the list at a and the tuple at b as they stand at each turn, the items in new pairs -/
def ItzX (K : PySem.W.Frag) (a b : Addr) : It :=
  ⟨fun i H => ∃ (xs ys : List V) (x y : V), SqL K H a xs ∧ SqT K H b ys ∧ xs[i]? = some x ∧ ys[i]? = some y,
    fun i H v H' => ∃ T x y, v = .ref T ∧ H T = none ∧ H' = upd H T (.tup [x, y]) ∧ (∀ xs, SqL K H a xs → xs[i]? = some x) ∧ ∀ ys, SqT K H b ys → ys[i]? = some y,
    fun i H => ∃ xs ys : List V, SqL K H a xs ∧ SqT K H b ys ∧ i ≤ xs.length ∧ i ≤ ys.length ∧ (i = xs.length ∨ i = ys.length)⟩
theorem sepX {z TI TO i1 i2 a b : Addr} (D : ZipApart z TI TO i1 i2 a b) : ZipSep2 z TI TO i1 i2 [i1, a] [i2, b] where
  TIz := D.TIz
  TOz := D.TOz
  TITO := D.TITO
  TIi1 := D.TIi1
  mem1 := by simp
  zf1 := by
    intro h
    simp only [List.mem_cons, List.not_mem_nil, or_false] at h
    rcases h with h | h
    · exact D.i1z h.symm
    · exact D.l1z h.symm
  Tf1 := by
    intro h
    simp only [List.mem_cons, List.not_mem_nil, or_false] at h
    rcases h with h | h
    · exact D.TOi1 h
    · exact D.l1TO h.symm
  TIi2 := D.TIi2
  mem2 := by simp
  zf2 := by
    intro h
    simp only [List.mem_cons, List.not_mem_nil, or_false] at h
    rcases h with h | h
    · exact D.i2z h.symm
    · exact D.l2z h.symm
  Tf2 := by
    intro h
    simp only [List.mem_cons, List.not_mem_nil, or_false] at h
    rcases h with h | h
    · exact D.TOi2 h
    · exact D.l2TO h.symm
  sep1_2 := by
    intro h
    simp only [List.mem_cons, List.not_mem_nil, or_false] at h
    rcases h with h | h
    · exact D.i12 h
    · exact D.l2i1 h.symm
  sep2_1 := by
    intro h
    simp only [List.mem_cons, List.not_mem_nil, or_false] at h
    rcases h with h | h
    · exact D.i12 h.symm
    · exact D.l1i2 h.symm
theorem turn_zipX {P : Program} {w : World} {K : PySem.W.Frag} {elts : List Expr} {kk : Nat} {tpos : Pos} {a b z TI TO i1 i2 : Addr} (D : ZipApart z TI TO i1 i2 a b) :
    Turn P w K (.Tuple elts kk tpos) (ItzX K a b) [z, TI, TO, i1, i2] z (fun i h => IsZip h z TI TO .none ∧ IsPair h TI (.ref i1) (.ref i2) ∧ (∃ x y, IsPair h TO x y) ∧ h.IsListIter i1 a i ∧ h.IsTupleIter i2 b i) where
  mem := by simp
  obj := fun i h st c hc => by
    obtain ⟨hz, hTI, ⟨x, y, hTO⟩, ⟨o1, e1, _, d1⟩, ⟨o2, e2, _, d2⟩⟩ := st
    have e' : c = z ∨ c = TI ∨ c = TO ∨ c = i1 ∨ c = i2 := by simpa using hc
    rcases e' with q | q | q | q | q
    · rw [q]; exact ⟨_, hz, fun v q => nomatch q⟩
    · rw [q]; exact ⟨_, hTI, fun v q => nomatch q⟩
    · rw [q]; exact ⟨_, hTO, fun v q => nomatch q⟩
    · rw [q]; exact ⟨o1, e1, fun v q => by rw [d1] at q; cases q⟩
    · rw [q]; exact ⟨o2, e2, fun v q => by rw [d2] at q; cases q⟩
  keep := fun i h h' st k => by
    obtain ⟨hz, hTI, ⟨x, y, hTO⟩, h1, h2⟩ := st
    exact ⟨k z (by simp) _ hz, k TI (by simp) _ hTI, ⟨x, y, k TO (by simp) _ hTO⟩, h1.at fun o q => k i1 (by simp) o q, h2.at fun o q => k i2 (by simp) o q⟩
  item := by
    intro X hP hw hK hc i pins s σ H E I hf st hg
    subst hP hw hK
    obtain ⟨hz, hTI, ⟨x0, y0, hTO⟩, h1, h2⟩ := st
    obtain ⟨xs, ys, x, y, hqx, hqy, hx, hy⟩ := hg
    obtain ⟨its, rv, p, _⟩ := I.list hqx
    obtain ⟨its2, rv2, p2, _⟩ := I.tuple hqy
    obtain ⟨u, hu, ru⟩ := rv.get hx
    obtain ⟨u2, hu2, ru2⟩ := rv2.get hy
    have hzl : z < s.heap.objs.size := Heap.lt_size hz
    have hl1 : i < its.toArray.size := by
      have := (List.getElem?_eq_some_iff.mp hu).1
      simpa using this
    have hl2 : i < its2.toArray.size := by
      have := (List.getElem?_eq_some_iff.mp hu2).1
      simpa using this
    have hh : X.A.in1.handled = none := I.ok.hd hc
    refine wpAny_pyNext_zipD2_item (i := i) (sepX D) (Draws.list (A := X.A.in1) hh i1 a D.l1i1 its.toArray) (Draws.tuple (A := X.A.in1) hh i2 b D.l2i2 its2.toArray) hz hTI hTO ⟨h1, p.isList⟩ ⟨h2, p2⟩ hl1 hl2 fun w1 w2 h' tk q1 q2 z' TO' h1' h2' hT hsz hk => ?_
    obtain rfl : w1 = u := by
      have q1 : its.toArray[i]? = some w1 := q1
      rw [List.getElem?_toArray, hu] at q1
      exact (Option.some.inj q1).symm
    obtain rfl : w2 = u2 := by
      have q2 : its2.toArray[i]? = some w2 := q2
      rw [List.getElem?_toArray, hu2] at q2
      exact (Option.some.inj q2).symm
    refine ⟨_, rfl, wpAny_letOwnedTupleGo_zip (s := { s with heap := h', toks := tk }) z' fun h'' z'' sb => ?_⟩
    have hT2 : h''.get? s.heap.objs.size = some { cls := .type "tuple", data := .seq #[w1, w2] } := (sb.2 _ (Nat.ne_of_gt hzl)).trans hT
    have new : ObjOk X.prog X.w (upd H s.heap.objs.size (.tup [x, y])) h'' s.heap.objs.size (.tup [x, y]) :=
      ⟨by show 2 ≤ sizeLine; decide, [w1, w2], .cons ru (.cons ru2 .nil), ⟨_, hT2, rfl, _, rfl⟩⟩
    have I1 : Inv X pins σ (upd H s.heap.objs.size (.tup [x, y])) { s with heap := h'', toks := tk } :=
      I.turnedNew (t' := tk) (ch := [z, TI, TO, i1, i2]) (fun c o hb q => (sb.2 c (fun q' => hb (by simp [q']))).trans (hk c o (fun q' => hb (by simp [q'])) (fun q' => hb (by simp [q'])) (fun q' => hb (by simp [q'])) (fun q' => hb (by simp [q'])) q)) hf (Nat.le_refl _) new
    refine ⟨.ref s.heap.objs.size, _, I1, rfl, ⟨_, x, y, rfl, I.hok.fresh (Nat.le_refl _), rfl, fun l hl => by rw [I.list_inj hl hqx]; exact hx, fun l hl => by rw [I.tuple_inj hl hqy]; exact hy⟩, ⟨z'', ?_, ⟨w1, w2, ?_⟩, ?_, ?_⟩, fun c hcm => ?_⟩
    · exact (sb.2 _ D.TIz).trans (hk _ _ D.TIz D.TITO D.TIi1 D.TIi2 hTI)
    · exact (sb.2 _ D.TOz).trans TO'
    · exact h1'.1.at fun o q => (sb.2 _ D.i1z).trans q
    · exact h2'.1.at fun o q => (sb.2 _ D.i2z).trans q
    · have hlt : c < s.heap.objs.size := by
        have e' : c = z ∨ c = TI ∨ c = TO ∨ c = i1 ∨ c = i2 := by simpa using hcm
        rcases e' with q | q | q | q | q
        · rw [q]; exact hzl
        · rw [q]; exact Heap.lt_size hTI
        · rw [q]; exact Heap.lt_size hTO
        · rw [q]; obtain ⟨_, e1, _⟩ := h1; exact Heap.lt_size e1
        · rw [q]; obtain ⟨_, e2, _⟩ := h2; exact Heap.lt_size e2
      rw [upd_ne (Nat.ne_of_lt hlt)]
      exact (hf c hcm).1
  done := by
    intro X hP hw hK hc i pins s σ H E I hf st hg
    subst hP hw hK
    obtain ⟨hz, hTI, ⟨x0, y0, hTO⟩, h1, h2⟩ := st
    obtain ⟨xs, ys, hqx, hqy, hi1, hi2, hend⟩ := hg
    obtain ⟨its, rv, p, _⟩ := I.list hqx
    obtain ⟨its2, rv2, p2, _⟩ := I.tuple hqy
    have l1 := rv.length
    have l2 := rv2.length
    have hh : X.A.in1.handled = none := I.ok.hd hc
    exact wpAny_pyNext_zipD2_end (i := i) (sepX D) (Draws.list (A := X.A.in1) hh i1 a D.l1i1 its.toArray) (Draws.tuple (A := X.A.in1) hh i2 b D.l2i2 its2.toArray) hz hTI hTO ⟨h1, p.isList⟩ ⟨h2, p2⟩ (by simp; omega) (by simp; omega) (by simp; omega) fun h' tk hk => ⟨rfl, I.turnedL (t' := tk) (ch := [z, TI, TO, i1, i2]) (fun c o hb q =>
      hk c o (fun q' => hb (by simp [q'])) (fun q' => hb (by simp [q'])) (fun q' => hb (by simp [q'])) (fun q' => hb (by simp [q'])) q) hf⟩
  self := fun A i s Q E st h => wpAny_pyIter_zip st.1 h
def iZip3 (K : PySem.W.Frag) (ta : TA) : TI := fun σ H R => ta σ H fun vs H1 => ∃ a b xs ys, vs = [.ref a, .ref b] ∧ ((SqL K H1 a xs ∧ SqL K H1 b ys ∧ R (Itz K a b) H1) ∨ (SqT K H1 a xs ∧ SqT K H1 b ys ∧ R (RZ.ItzT K a b) H1) ∨ (SqL K H1 a xs ∧ SqT K H1 b ys ∧ R (ItzX K a b) H1))
theorem pi_zip3 {X : Cx} {e e2 : Expr} {ta : TA} {p pos tpos : Pos} {elts : List Expr} {kk : Nat} (hg : Gl X "zip") (hm : X.mg "zip" = none) (ha : PA X [e, e2] ta)
    (hs : starEach [e, e2] X.env = (false, eval e X.env) :: starEach [e2] X.env := by rfl) (hpl : (backTo pos (starEach [e2] X.env)).any (·.1) = false := by rfl) :
    PI X (.Tuple elts kk tpos) (.Call (.Name "zip" p) [e, e2] [] pos) (iZip3 X.K ta) := by
  refine ⟨fun pins s σ H R I h => ?_⟩
  refine Call_ (ld_blt I hg hm PyProof.Rows.boot_zip (PyProof.Rows.callWith_type1 (thn (ha.run pos pins s σ H _ I h) fun us s1 ⟨vs, H1, I1, r1, q1⟩ => ?_) hs hpl))
  obtain ⟨a, b, xs, ys, ex, q1⟩ := q1
  subst ex
  cases r1 with
  | cons r rr =>
    cases rr with
    | cons r' rr =>
      cases rr
      cases r
      cases r'
      have fresh5 : ∀ c, c ∈ [s1.heap.objs.size + 4, s1.heap.objs.size + 2, s1.heap.objs.size + 3, s1.heap.objs.size, s1.heap.objs.size + 1] → FpOk X pins H1 c := fun c hcm => by
        have e' : c = s1.heap.objs.size + 4 ∨ c = s1.heap.objs.size + 2 ∨ c = s1.heap.objs.size + 3 ∨ c = s1.heap.objs.size ∨ c = s1.heap.objs.size + 1 := by simpa using hcm
        have hle : s1.heap.objs.size ≤ c := by
          rcases e' with z | z | z | z | z
          · rw [z]; exact Nat.le_add_right _ _
          · rw [z]; exact Nat.le_add_right _ _
          · rw [z]; exact Nat.le_add_right _ _
          · rw [z]; exact Nat.le_refl _
          · rw [z]; exact Nat.le_add_right _ _
        exact I1.fpOk hle (I1.hok.fresh hle)
      rcases q1 with ⟨hqx, hqy, q⟩ | ⟨hqx, hqy, q⟩ | ⟨hqx, hqy, q⟩
      · obtain ⟨its, rv, p1, _⟩ := I1.list hqx
        obtain ⟨its2, rv2, p2, _⟩ := I1.list hqy
        refine call_zip_2 p1.isList p2.isList fun h' hz hTI hTO h1 h2 hsz hk => wpAny_pyIter_zip hz ?_
        have I2 : Inv X pins σ H1 { s1 with heap := h' } := I1.kept (t' := s1.toks) hk
        exact ⟨s1.heap.objs.size + 4, [s1.heap.objs.size + 4, s1.heap.objs.size + 2, s1.heap.objs.size + 3, s1.heap.objs.size, s1.heap.objs.size + 1], _, _, H1, rfl, I2, turn_zip (PySem.W.ktu_apart s1.heap.objs.size a b p1.lt p2.lt), ⟨hz, hTI, ⟨_, _, hTO⟩, h1, h2⟩, fresh5, q⟩
      · obtain ⟨its, rv, p1, _⟩ := I1.tuple hqx
        obtain ⟨its2, rv2, p2, _⟩ := I1.tuple hqy
        obtain ⟨o1, ho1, _⟩ := id p1
        obtain ⟨o2, ho2, _⟩ := id p2
        refine RZ.call_zipT (show s1.heap.IsTuple a its.toArray from p1) (show s1.heap.IsTuple b its2.toArray from p2) fun h' hz hTI hTO h1 h2 hsz hk => wpAny_pyIter_zip hz ?_
        have I2 : Inv X pins σ H1 { s1 with heap := h' } := I1.kept (t' := s1.toks) hk
        exact ⟨s1.heap.objs.size + 4, [s1.heap.objs.size + 4, s1.heap.objs.size + 2, s1.heap.objs.size + 3, s1.heap.objs.size, s1.heap.objs.size + 1], _, _, H1, rfl, I2, RZ.turn_zipT (PySem.W.ktu_apart s1.heap.objs.size a b (Heap.lt_size ho1) (Heap.lt_size ho2)), ⟨hz, hTI, ⟨_, _, hTO⟩, h1, h2⟩, fresh5, q⟩
      · obtain ⟨its, rv, p1, _⟩ := I1.list hqx
        obtain ⟨its2, rv2, p2, _⟩ := I1.tuple hqy
        obtain ⟨o2, ho2, _⟩ := id p2
        refine zip_begins2 (begins_list a its.toArray) (begins_tuple b its2.toArray) p1.isList p2 fun h' hz hTI hTO h1 h2 hsz hk => wpAny_pyIter_zip hz ?_
        have I2 : Inv X pins σ H1 { s1 with heap := h' } := I1.kept (t' := s1.toks) hk
        exact ⟨s1.heap.objs.size + 4, [s1.heap.objs.size + 4, s1.heap.objs.size + 2, s1.heap.objs.size + 3, s1.heap.objs.size, s1.heap.objs.size + 1], _, _, H1, rfl, I2, turn_zipX (PySem.W.ktu_apart s1.heap.objs.size a b p1.lt (Heap.lt_size ho2)), ⟨hz, hTI, ⟨_, _, hTO⟩, ⟨_, h1, rfl, rfl⟩, ⟨_, h2, rfl, rfl⟩⟩, fresh5, q⟩
section
variable {c : Cn} {A : Ads} {S : Store} {H : Hp} {ds es : List D} {vs us : List V} {a b : Addr}
theorem it_zipX (R0 : Rel c.K A S H) (hl : ∀ A' S' H', Rel c.K A' S' H' → Fr A S H A' S' H' → SqL c.K H' a vs) (hm : SqT c.K H b us)
    (r : RPs c.K (Live A S) H ds vs) (re : RPs c.K (Live A S) H es us) : rIt c A S H (zipD ds es) (ItzX c.K a b) := by
  intro A' S' H' R' T
  have q := hl A' S' H' R' T
  have q2 := T.sqT R0 hm
  have r' := r.fr R0 T
  have re' := re.fr R0 T
  have l1 := r.len
  have l2 := re.len
  rw [zipD_len]
  refine ⟨fun i hi => ?_, ⟨vs, us, q, q2, by omega, by omega, by omega⟩, fun i x H'' hi y => ?_⟩
  · obtain ⟨x, hx⟩ := it_at (l := vs) (i := i) (by omega)
    obtain ⟨y, hy⟩ := it_at (l := us) (i := i) (by omega)
    exact ⟨vs, us, x, y, q, q2, hx, hy⟩
  · obtain ⟨T, x, y, rfl, hT, rfl, e1, e2⟩ := y
    obtain ⟨d, hd⟩ := it_at (l := ds) (i := i) (by omega)
    obtain ⟨e, he⟩ := it_at (l := es) (i := i) (by omega)
    obtain ⟨v, hv, rd⟩ := r'.get hd
    obtain ⟨u, hu, ru⟩ := re'.get he
    have e1 := e1 vs q
    have e2 := e2 us q2
    rw [hv] at e1
    rw [hu] at e2
    cases e1
    cases e2
    exact ⟨_, zipD_get _ _ _ _ _ hd he, pair_new2 R' hT rd ru⟩
end
def optZ3 (S : Store) : D → D → Res (List D)
  | .lst l, .lst m => .ok (zipD l m) S
  | .tup l, .tup m => .ok (zipD l m) S
  | .lst l, .tup m => .ok (zipD l m) S
  | _, _ => .bad
def iZipX (g : AM) : IM := fun σd S => (g σd S).bind fun ds S1 => match ds with
  | [d, e] => (fz1 S1 d).bind fun x S2 => (fz1 S2 e).bind fun y S3 => optZ3 S3 x y
  | _ => .bad
section
variable {X : Cx} {hx : Hx} {p pos : Pos}
theorem di_zipX {a b : Expr} {g : AM} {elts : List Expr} {kk : Nat} {tpos : Pos} (hm : X.mg "zip" = none) (ha : DA X hx [a, b] g) (hg : Gl X "zip" := by rfl)
    (hs : starEach [a, b] X.env = (false, eval a X.env) :: starEach [b] X.env := by rfl) (hpl : (backTo pos (starEach [b] X.env)).any (·.1) = false := by rfl) :
    DI X hx (.Tuple elts kk tpos) (.Call (.Name "zip" p) [a, b] [] pos) (iZipX g) :=
  ⟨fun W tk => PIimp (pi_zip3 hg hm (ha.run W tk) hs hpl) fun σ H Q ⟨A, S, σd, R, E, p⟩ => ⟨A, S, σd, R, E, (Post.bind (R1 := rVs _) p).mono fun vs H1 ⟨A1, S1, ds, R1, T1, r1, p1⟩ => by
    split at p1
    · obtain ⟨v, u, rfl, r2, r3⟩ := rvs2 r1
      obtain ⟨x, S2, R2, T2, r2, p2⟩ := Post.fz1 R1 r2 p1
      obtain ⟨y, S3, R3, T3, r3, p3⟩ := Post.fz1 R2 (r3.step R1 T2) p2
      have r2 := r2.fr R2 T3.fr
      unfold optZ3 at p3
      split at p3
      · cases r2 with
        | lst h0 h1 h2 =>
          cases r3 with
          | lst g0 g1 g2 => exact ⟨_, _, _, _, rfl, .inl ⟨SqL.of h1, SqL.of g1, p3 A1 H1 _ R3 .refl (it_zipL (c := ⟨X.K, hx, W⟩) R3 (lst_stays (lv := Live A1 S3) R3 (.lst h0 h1 h2) h1) (lst_stays (lv := Live A1 S3) R3 (.lst g0 g1 g2) g1) h2 g2)⟩⟩
      · cases r2 with
        | tup h1 h2 =>
          cases r3 with
          | tup g1 g2 => exact ⟨_, _, _, _, rfl, .inr (.inl ⟨h1, g1, p3 A1 H1 _ R3 .refl (it_zipT (c := ⟨X.K, hx, W⟩) R3 h1 g1 h2 g2)⟩)⟩
      · cases r2 with
        | lst h0 h1 h2 =>
          cases r3 with
          | tup g1 g2 => exact ⟨_, _, _, _, rfl, .inr (.inr ⟨SqL.of h1, g1, p3 A1 H1 _ R3 .refl (it_zipX (c := ⟨X.K, hx, W⟩) R3 (lst_stays (lv := Live A1 S3) R3 (.lst h0 h1 h2) h1) g1 h2 g2)⟩)⟩
      · exact p3.elim
    · exact p1.elim⟩⟩
end
end Y
end
section
/-! the D functions of the law. -/
namespace K15
open PySem PySem.Spec PyProof.Rows L2 Y
def K_NOUGHT : D := .tup [.int 0, .int 1]
def K_CUT : D := .str "cut"
def K_LINE : D := .str "line"
def K_MOST_NODES : D := .int 20001
def K_MOST_NUMBERS : D := .int 5
def b_is_whole : SM := sRet (eAnd (eB bIsi (aCons (eVar 0) (aCons (eC (.ty "int")) (aNil)))) (eNot (eB bIsi (aCons (eVar 0) (aCons (eC (.ty "bool")) (aNil))))))
def F_is_whole : List Wt → Store → Res Wt := mkFn 1 1 b_is_whole
def b_is_between : SM := sRet (eAnd (eB F_is_whole (aCons (eVar 0) (aNil))) (eChain opLe opLe (eVar 1) (eVar 0) (eVar 2)))
def F_is_between : List Wt → Store → Res Wt := mkFn 3 3 b_is_between
def b_is_tuple_of : SM := sRet (eAnd (eB bIsi (aCons (eVar 0) (aCons (eC (.ty "tuple")) (aNil)))) (eOp (opEq false) (eB bLen (aCons (eVar 0) (aNil))) (eVar 1)))
def F_is_tuple_of : List Wt → Store → Res Wt := mkFn 2 2 b_is_tuple_of
def b_fraction : SM := sSeq (sSet 2 (eOp opMulT (eB bGcd (aCons (eVar 0) (aCons (eVar 1) (aNil)))) (eIf (tBl (eOp opGt (eVar 1) (eC (.int 0)))) (eC (.int 1)) (eUn opNeg (eC (.int 1))))))
  (sRet (eTup (aCons (eOp opFdiv (eVar 0) (eVar 2)) (aCons (eOp opFdiv (eVar 1) (eVar 2)) (aNil)))))
def F_fraction : List Wt → Store → Res Wt := mkFn 2 3 b_fraction
def b_is_fraction_by : SM := sSeq (sIf (tOr (tNot (tTru (eB F_is_tuple_of (aCons (eVar 0) (aCons (eC (.int 2)) (aNil)))))) (tOr (tNot (tTru (eB F_is_whole (aCons (eOp opIx (eVar 0) (eC (.int 0))) (aNil))))) (tOr (tNot (tTru (eB F_is_whole (aCons (eOp opIx (eVar 0) (eC (.int 1))) (aNil))))) (tBl (eOp opLe (eOp opIx (eVar 0) (eC (.int 1))) (eC (.int 0)))))))
  (sRet (eC (.bl false)))
  (sNext))
  (sRet (eOp (opEq false) (eB bGcd (aCons (eOp opIx (eVar 0) (eC (.int 0))) (aCons (eOp opIx (eVar 0) (eC (.int 1))) (aNil)))) (eC (.int 1))))
def F_is_fraction_by : List Wt → Store → Res Wt := mkFn 1 1 b_is_fraction_by
def b_whole : SM := sRet (eTup (aCons (eVar 0) (aCons (eC (.int 1)) (aNil))))
def F_whole : List Wt → Store → Res Wt := mkFn 1 1 b_whole
def b_sum_of : SM := sRet (eB F_fraction (aCons (eOp opAdd (eOp opMulT (eOp opIx (eVar 0) (eC (.int 0))) (eOp opIx (eVar 1) (eC (.int 1)))) (eOp opMulT (eOp opIx (eVar 1) (eC (.int 0))) (eOp opIx (eVar 0) (eC (.int 1))))) (aCons (eOp opMulT (eOp opIx (eVar 0) (eC (.int 1))) (eOp opIx (eVar 1) (eC (.int 1)))) (aNil))))
def F_sum_of : List Wt → Store → Res Wt := mkFn 2 2 b_sum_of
def b_times : SM := sRet (eB F_fraction (aCons (eOp opMulT (eOp opIx (eVar 0) (eC (.int 0))) (eOp opIx (eVar 1) (eC (.int 0)))) (aCons (eOp opMulT (eOp opIx (eVar 0) (eC (.int 1))) (eOp opIx (eVar 1) (eC (.int 1)))) (aNil))))
def F_times : List Wt → Store → Res Wt := mkFn 2 2 b_times
def b_worth_of : SM := sSeq (sSet 2 (eOp opIx (eVar 0) (eUn opNeg (eC (.int 1)))))
  (sSeq (sFor (iZipX (aCons (eVar 0) (aCons (eVar 1) (aNil)))) (gT 2 (gN1 (gN 3) (gN1 (gN 4) (gN0))))
  (sSet 2 (eB F_sum_of (aCons (eVar 2) (aCons (eB F_times (aCons (eVar 3) (aCons (eVar 4) (aNil)))) (aNil))))))
  (sRet (eVar 2)))
def F_worth_of : List Wt → Store → Res Wt := mkFn 2 5 b_worth_of
def b_is_constant : SM := sRet (eB bAll (aCons (eLc (iVal (eSl opSl (eVar 0) (oNone) (oSome (eUn opNeg (eC (.int 1)))))) (gN 1) (tYs) (eOp (opIn false) (eVar 1) (eTup (aCons (eC (.int 0)) (aCons (eC K_NOUGHT) (aNil))))) [1]) (aNil)))
def F_is_constant : List Wt → Store → Res Wt := mkFn 1 2 b_is_constant
def b_common_of : SM := sSeq (sSet 1 (eC (.int 0)))
  (sSeq (sFor (iVal (eVar 0)) (gN 2)
  (sSet 1 (eB bGcd (aCons (eVar 1) (aCons (eVar 2) (aNil))))))
  (sRet (eIf (tBl (eOp opGt (eVar 1) (eC (.int 0)))) (eVar 1) (eC (.int 1)))))
def F_common_of : List Wt → Store → Res Wt := mkFn 1 3 b_common_of
def b_line_of_form : SM := sRet (eB bTuple (aCons (eLc (iVal (eVar 0)) (gN 1) (tYs) (eB F_whole (aCons (eVar 1) (aNil))) [1]) (aNil)))
def F_line_of_form : List Wt → Store → Res Wt := mkFn 1 2 b_line_of_form
def b_form_at : SM := sRet (eB F_worth_of (aCons (eB F_line_of_form (aCons (eVar 0) (aNil))) (aCons (eVar 1) (aNil))))
def F_form_at : List Wt → Store → Res Wt := mkFn 2 2 b_form_at
def b_is_line : SM := sRet (eAnd (eB F_is_tuple_of (aCons (eVar 0) (aCons (eOp opAdd (eVar 1) (eC (.int 1))) (aNil)))) (eB bAll (aCons (eLc (iVal (eVar 0)) (gN 2) (tYs) (eB F_is_fraction_by (aCons (eVar 2) (aNil))) [2]) (aNil))))
def F_is_line : List Wt → Store → Res Wt := mkFn 2 3 b_is_line
def b_is_form : SM := sSeq (sIf (tOr (tNot (tTru (eB F_is_tuple_of (aCons (eVar 0) (aCons (eOp opAdd (eVar 1) (eC (.int 1))) (aNil)))))) (tNot (tTru (eB bAll (aCons (eLc (iVal (eVar 0)) (gN 2) (tYs) (eB F_is_whole (aCons (eVar 2) (aNil))) [2]) (aNil))))))
  (sRet (eC (.bl false)))
  (sNext))
  (sRet (eAnd (eNot (eB F_is_constant (aCons (eVar 0) (aNil)))) (eOp (opEq false) (eB F_common_of (aCons (eVar 0) (aNil))) (eC (.int 1)))))
def F_is_form : List Wt → Store → Res Wt := mkFn 2 3 b_is_form
def b_is_node : SM := sSeq (sIf (tAnd (tTru (eB F_is_tuple_of (aCons (eVar 0) (aCons (eC (.int 2)) (aNil))))) (tAnd (tTru (eB bIsi (aCons (eOp opIx (eVar 0) (eC (.int 0))) (aCons (eC (.ty "str")) (aNil))))) (tBl (eOp (opEq false) (eOp opIx (eVar 0) (eC (.int 0))) (eC K_LINE)))))
  (sRet (eB F_is_line (aCons (eOp opIx (eVar 0) (eC (.int 1))) (aCons (eVar 1) (aNil)))))
  (sNext))
  (sSeq (sIf (tOr (tNot (tTru (eB F_is_tuple_of (aCons (eVar 0) (aCons (eC (.int 4)) (aNil)))))) (tOr (tNot (tTru (eB bIsi (aCons (eOp opIx (eVar 0) (eC (.int 0))) (aCons (eC (.ty "str")) (aNil)))))) (tOr (tBl (eOp (opEq true) (eOp opIx (eVar 0) (eC (.int 0))) (eC K_CUT))) (tNot (tTru (eB F_is_form (aCons (eOp opIx (eVar 0) (eC (.int 1))) (aCons (eVar 1) (aNil)))))))))
  (sRet (eC (.bl false)))
  (sNext))
  (sRet (eB bAll (aCons (eLc (iVal (eSl opSl (eVar 0) (oSome (eC (.int 2))) (oNone))) (gN 4) (tYs) (eB F_is_between (aCons (eVar 4) (aCons (eOp opAdd (eVar 2) (eC (.int 1))) (aCons (eOp opSub (eVar 3) (eC (.int 1))) (aNil))))) [4]) (aNil)))))
def F_is_node : List Wt → Store → Res Wt := mkFn 4 5 b_is_node
def b_ways_told : SM := sRet (eLc2 (iVal (eVar 0)) (gN 1) (tBl (eOp (opEq false) (eOp opIx (eVar 1) (eC (.int 0))) (eC K_CUT))) (iVal (eSl opSl (eVar 1) (oSome (eC (.int 2))) (oNone))) (gN 2) (tYs) (eVar 2) [1, 2] [2])
def F_ways_told : List Wt → Store → Res Wt := mkFn 1 3 b_ways_told
def b_is_kink_by : SM := sSeq (sIf (tOr (tNot (tTru (eB bIsi (aCons (eVar 0) (aCons (eC (.ty "tuple")) (aNil)))))) (tNot (tBl (eChain opLe opLe (eC (.int 1)) (eB bLen (aCons (eVar 0) (aNil))) (eC K_MOST_NODES)))))
  (sRet (eC (.bl false)))
  (sNext))
  (sSeq (sIf (tNot (tTru (eB bAll (aCons (eLc (iEnu (aCons (eVar 0) (aNil))) (gT 2 (gN1 (gN 2) (gN1 (gN 3) (gN0)))) (tYs) (eB F_is_node (aCons (eVar 3) (aCons (eVar 1) (aCons (eVar 2) (aCons (eB bLen (aCons (eVar 0) (aNil))) (aNil)))))) [2, 3]) (aNil)))))
  (sRet (eC (.bl false)))
  (sNext))
  (sRet (eOp (opEq false) (eB bSorted (aCons (eB F_ways_told (aCons (eVar 0) (aNil))) (aNil))) (eRgK kLst (eC (.int 1)) (eB bLen (aCons (eVar 0) (aNil)))))))
def F_is_kink_by : List Wt → Store → Res Wt := mkFn 2 4 b_is_kink_by
def b_line_at : SM := sSeq (sSet 2 (eC (.int 0)))
  (sSeq (sWhile fuelW (tBl (eOp (opEq false) (eOp opIx (eOp opIx (eVar 0) (eVar 2)) (eC (.int 0))) (eC K_CUT)))
  (sSet 2 (eIf (tBl (eOp opGt (eOp opIx (eB F_form_at (aCons (eOp opIx (eOp opIx (eVar 0) (eVar 2)) (eC (.int 1))) (aCons (eVar 1) (aNil)))) (eC (.int 0))) (eC (.int 0)))) (eOp opIx (eOp opIx (eVar 0) (eVar 2)) (eC (.int 3))) (eOp opIx (eOp opIx (eVar 0) (eVar 2)) (eC (.int 2))))))
  (sRet (eOp opIx (eOp opIx (eVar 0) (eVar 2)) (eC (.int 1)))))
def F_line_at : List Wt → Store → Res Wt := mkFn 2 3 b_line_at
def b_kink_worth : SM := sRet (eB F_worth_of (aCons (eB F_line_at (aCons (eVar 0) (aCons (eVar 1) (aNil)))) (aCons (eVar 1) (aNil))))
def F_kink_worth : List Wt → Store → Res Wt := mkFn 2 2 b_kink_worth
def b_check_many : SM := sIf (tNot (tTru (eB F_is_between (aCons (eVar 0) (aCons (eC (.int 0)) (aCons (eC K_MOST_NUMBERS) (aNil)))))))
  (sBad)
  (sNext)
def F_check_many : List Wt → Store → Res Wt := mkFn 1 1 b_check_many
def b_check_kink : SM := sIf (tNot (tTru (eB F_is_kink_by (aCons (eVar 0) (aCons (eVar 1) (aNil))))))
  (sBad)
  (sNext)
def F_check_kink : List Wt → Store → Res Wt := mkFn 2 2 b_check_kink
def b_is_kink : SM := sSeq (sExpr (eB F_check_many (aCons (eVar 1) (aNil))))
  (sRet (eB F_is_kink_by (aCons (eVar 0) (aCons (eVar 1) (aNil)))))
def F_is_kink : List Wt → Store → Res Wt := mkFn 2 2 b_is_kink
def b_kink_at : SM := sSeq (sExpr (eB F_check_many (aCons (eVar 1) (aNil))))
  (sSeq (sExpr (eB F_check_kink (aCons (eVar 0) (aCons (eVar 1) (aNil)))))
  (sSeq (sIf (tOr (tNot (tTru (eB F_is_tuple_of (aCons (eVar 2) (aCons (eVar 1) (aNil)))))) (tNot (tTru (eB bAll (aCons (eLc (iVal (eVar 2)) (gN 3) (tYs) (eB F_is_fraction_by (aCons (eVar 3) (aNil))) [3]) (aNil))))))
  (sBad)
  (sNext))
  (sRet (eB F_kink_worth (aCons (eVar 0) (aCons (eVar 2) (aNil)))))))
def F_kink_at : List Wt → Store → Res Wt := mkFn 3 4 b_kink_at
def b__law_pool : SM := sSeq (sSet 2 (eOp opAdd (eOp opMulT (eC (.int 7)) (eVar 1)) (eOp opMulT (eC (.int 3)) (eB bLen (aCons (eVar 0) (aNil))))))
  (sSeq (sIf (tBl (eOp opLt (eVar 1) (eB bLen (aCons (eVar 0) (aNil)))))
  (sSet 2 (eOp opIx (eVar 0) (eVar 1)))
  (sNext))
  (sSeq (sSet 3 (eB bAbs (aCons (eVar 2) (aNil))))
  (sSeq (sSet 4 (eOp opMod (eB bInt (aCons (eOp opAdd (eOp opAdd (eOp opAdd (eOp opMulT (eVar 3) (eC (.int 48271))) (eOp opMulT (eC (.int 16807)) (eVar 1))) (eOp opMulT (eC (.int 11)) (eB bInt (aCons (eOp opLt (eVar 2) (eC (.int 0))) (aNil))))) (eC (.int 1))) (aNil))) (eC (.int 2305843009213693951))))
  (sSeq (sIf (tBl (eOp opGe (eVar 3) (eC (.int 1000000000000000000))))
  (sRet (eLstL (aCons (eOp opAdd (eOp opMulT (eC (.int 2)) (eOp opSub (eVar 3) (eC (.int 1000000000000000000)))) (eB bInt (aCons (eOp opLt (eVar 2) (eC (.int 0))) (aNil)))) (aCons (eVar 4) (aNil)))))
  (sNext))
  (sRet (eLstL (aCons (eC (.int 0)) (aCons (eVar 4) (aNil)))))))))
def F__law_pool : List Wt → Store → Res Wt := mkFn 2 5 b__law_pool
def b__law_take : SM := sSeq (sIf (tBl (eOp opGt (eOp opIx (eVar 0) (eC (.int 0))) (eC (.int 1))))
  (sSeq (sSet 2 (eOp opMod (eB bInt (aCons (eOp opIx (eVar 0) (eC (.int 0))) (aNil))) (eVar 1)))
  (sSeq (sAsg (gSb (eVar 0) (eC (.int 0))) (eOp opFdiv (eOp opIx (eVar 0) (eC (.int 0))) (eVar 1)))
  (sRet (eVar 2))))
  (sNext))
  (sSeq (sSet 2 (eC (.int 0)))
  (sSeq (sSet 3 (eC (.int 1)))
  (sSeq (sWhile fuelW (tBl (eOp opLt (eVar 3) (eOp opMulT (eC (.int 16777216)) (eVar 1))))
  (sSeq (sAsg (gSb (eVar 0) (eC (.int 1))) (eOp opMod (eB bInt (aCons (eOp opAdd (eOp opMulT (eOp opIx (eVar 0) (eC (.int 1))) (eC (.int 6364136223846793005))) (eC (.int 1442695040888963407))) (aNil))) (eC (.int 18446744073709551616))))
  (sSeq (sSet 2 (eOp opAdd (eOp opMulT (eVar 2) (eC (.int 16777216))) (eOp opFdiv (eOp opIx (eVar 0) (eC (.int 1))) (eC (.int 1099511627776)))))
  (sSet 3 (eOp opMulT (eVar 3) (eC (.int 16777216)))))))
  (sRet (eOp opMod (eB bInt (aCons (eVar 2) (aNil))) (eVar 1))))))
def F__law_take : List Wt → Store → Res Wt := mkFn 2 4 b__law_take
def b__law_alike (f__law_alike : List Wt → Store → Res Wt) : SM := sSeq (sIf (tOr (tTru (eB bIsi (aCons (eVar 0) (aCons (eC (.ty "bool")) (aNil))))) (tTru (eB bIsi (aCons (eVar 1) (aCons (eC (.ty "bool")) (aNil))))))
  (sRet (eAnd (eB bIsi (aCons (eVar 0) (aCons (eC (.ty "bool")) (aNil)))) (eAnd (eB bIsi (aCons (eVar 1) (aCons (eC (.ty "bool")) (aNil)))) (eOp (opEq false) (eVar 0) (eVar 1)))))
  (sNext))
  (sSeq (sIf (tOr (tTru (eB bIsi (aCons (eVar 0) (aCons (eC (.ty "int")) (aNil))))) (tTru (eB bIsi (aCons (eVar 1) (aCons (eC (.ty "int")) (aNil))))))
  (sRet (eAnd (eB bIsi (aCons (eVar 0) (aCons (eC (.ty "int")) (aNil)))) (eAnd (eB bIsi (aCons (eVar 1) (aCons (eC (.ty "int")) (aNil)))) (eOp (opEq false) (eVar 0) (eVar 1)))))
  (sNext))
  (sSeq (sIf (tOr (tTru (eB bIsi (aCons (eVar 0) (aCons (eC (.ty "str")) (aNil))))) (tTru (eB bIsi (aCons (eVar 1) (aCons (eC (.ty "str")) (aNil))))))
  (sRet (eAnd (eB bIsi (aCons (eVar 0) (aCons (eC (.ty "str")) (aNil)))) (eAnd (eB bIsi (aCons (eVar 1) (aCons (eC (.ty "str")) (aNil)))) (eOp (opEq false) (eVar 0) (eVar 1)))))
  (sNext))
  (sSeq (sIf (tOr (tBl (eOp (opIs false) (eVar 0) (eC .non))) (tBl (eOp (opIs false) (eVar 1) (eC .non))))
  (sRet (eAnd (eOp (opIs false) (eVar 0) (eC .non)) (eOp (opIs false) (eVar 1) (eC .non))))
  (sNext))
  (sSeq (sIf (tOr (tTru (eB bIsi (aCons (eVar 0) (aCons (eC (.ty "dict")) (aNil))))) (tTru (eB bIsi (aCons (eVar 1) (aCons (eC (.ty "dict")) (aNil))))))
  (sRet (eAnd (eB bIsi (aCons (eVar 0) (aCons (eC (.ty "dict")) (aNil)))) (eAnd (eB bIsi (aCons (eVar 1) (aCons (eC (.ty "dict")) (aNil)))) (eChain (opEq false) (opEq false) (eB bLen (aCons (eVar 0) (aNil))) (eB bLen (aCons (eVar 1) (aNil))) (eC (.int 0))))))
  (sNext))
  (sSeq (sIf (tOr (tBl (eOp (opEq true) (eB bIsi (aCons (eVar 0) (aCons (eC (.ty "tuple")) (aNil)))) (eB bIsi (aCons (eVar 1) (aCons (eC (.ty "tuple")) (aNil)))))) (tBl (eOp (opEq true) (eB bIsi (aCons (eVar 0) (aCons (eC (.ty "list")) (aNil)))) (eB bIsi (aCons (eVar 1) (aCons (eC (.ty "list")) (aNil)))))))
  (sRet (eC (.bl false)))
  (sNext))
  (sSeq (sIf (tOr (tNot (tTru (eB bIsi (aCons (eVar 0) (aCons (eTup (aCons (eC (.ty "tuple")) (aCons (eC (.ty "list")) (aNil)))) (aNil)))))) (tBl (eOp (opEq true) (eB bLen (aCons (eVar 0) (aNil))) (eB bLen (aCons (eVar 1) (aNil))))))
  (sRet (eC (.bl false)))
  (sNext))
  (sRet (eB bAll (aCons (eLc (iRng1 (aCons (eB bLen (aCons (eVar 0) (aNil))) (aNil))) (gN 2) (tYs) (eB f__law_alike (aCons (eOp opIx (eVar 0) (eVar 2)) (aCons (eOp opIx (eVar 1) (eVar 2)) (aNil)))) [2]) (aNil))))))))))
def F__law_alike : Nat → List Wt → Store → Res Wt
  | 0 => fun _ _ => .bad
  | k + 1 => mkFn 2 3 (b__law_alike (F__law_alike k))
def b__law_one : SM := sRet (eOp opIx (eVar 1) (eB F__law_take (aCons (eVar 0) (aCons (eB bLen (aCons (eVar 1) (aNil))) (aNil)))))
def F__law_one : List Wt → Store → Res Wt := mkFn 2 2 b__law_one
def b__law_ratio : SM := sSeq (sIf (tBl (eOp opLt (eVar 1) (eC (.int 0))))
  (sPar 0 1 (aCons (eOp opSub (eC (.int 0)) (eVar 0)) (aCons (eOp opSub (eC (.int 0)) (eVar 1)) (aNil))))
  (sNext))
  (sSeq (sPar 2 3 (aCons (eB bAbs (aCons (eVar 0) (aNil))) (aCons (eVar 1) (aNil))))
  (sSeq (sWhile fuelW (tBl (eOp opGt (eVar 3) (eC (.int 0))))
  (sPar 2 3 (aCons (eVar 3) (aCons (eOp opMod (eB bInt (aCons (eVar 2) (aNil))) (eVar 3)) (aNil)))))
  (sRet (eTup (aCons (eOp opFdiv (eVar 0) (eVar 2)) (aCons (eOp opFdiv (eVar 1) (eVar 2)) (aNil)))))))
def F__law_ratio : List Wt → Store → Res Wt := mkFn 2 4 b__law_ratio
def b__law_plus : SM := sRet (eB F__law_ratio (aCons (eOp opAdd (eOp opMulT (eOp opIx (eVar 0) (eC (.int 0))) (eOp opIx (eVar 1) (eC (.int 1)))) (eOp opMulT (eOp opIx (eVar 1) (eC (.int 0))) (eOp opIx (eVar 0) (eC (.int 1))))) (aCons (eOp opMulT (eOp opIx (eVar 0) (eC (.int 1))) (eOp opIx (eVar 1) (eC (.int 1)))) (aNil))))
def F__law_plus : List Wt → Store → Res Wt := mkFn 2 2 b__law_plus
def b__law_times : SM := sRet (eB F__law_ratio (aCons (eOp opMulT (eOp opIx (eVar 0) (eC (.int 0))) (eOp opIx (eVar 1) (eC (.int 0)))) (aCons (eOp opMulT (eOp opIx (eVar 0) (eC (.int 1))) (eOp opIx (eVar 1) (eC (.int 1)))) (aNil))))
def F__law_times : List Wt → Store → Res Wt := mkFn 2 2 b__law_times
def b__law_common : SM := sSeq (sSet 1 (eC (.int 0)))
  (sSeq (sFor (iVal (eVar 0)) (gN 2)
  (sSeq (sPar 3 4 (aCons (eB bAbs (aCons (eVar 2) (aNil))) (aCons (eVar 1) (aNil))))
  (sSeq (sWhile fuelW (tBl (eOp opGt (eVar 4) (eC (.int 0))))
  (sPar 3 4 (aCons (eVar 4) (aCons (eOp opMod (eB bInt (aCons (eVar 3) (aNil))) (eVar 4)) (aNil)))))
  (sSet 1 (eVar 3)))))
  (sRet (eVar 1)))
def F__law_common : List Wt → Store → Res Wt := mkFn 1 5 b__law_common
def b__law_any_form : SM := sSeq (sSet 2 (eLc (iRng1 (aCons (eOp opAdd (eVar 1) (eC (.int 1))) (aNil))) (gN 3) (tYs) (eOp opSub (eB F__law_take (aCons (eVar 0) (aCons (eC (.int 7)) (aNil)))) (eC (.int 3))) [3]))
  (sSeq (sSet 2 (eIf (tBl (eOp (opEq true) (eLc (iVal (eSl opSl (eVar 2) (oNone) (oSome (eUn opNeg (eC (.int 1)))))) (gN 4) (tBl (eOp (opEq true) (eVar 4) (eC (.int 0)))) (eVar 4) [4]) (eLst (aNil)))) (eVar 2) (eOp opAdd (eLst (aCons (eC (.int 1)) (aNil))) (eSl opSl (eVar 2) (oSome (eC (.int 1))) (oNone)))))
  (sRet (eB bTuple (aCons (eLc (iVal (eVar 2)) (gN 4) (tYs) (eOp opFdiv (eVar 4) (eB F__law_common (aCons (eVar 2) (aNil)))) [4]) (aNil)))))
def F__law_any_form : List Wt → Store → Res Wt := mkFn 2 5 b__law_any_form
def b__law_any_kink : SM := sSeq (sPar 3 4 (aCons (eLstL (aCons (eC .non) (aNil))) (aCons (eLstL (aCons (eC (.int 0)) (aNil))) (aNil))))
  (sSeq (sFor (iRng1 (aCons (eIf (tBl (eOp opGt (eVar 1) (eC (.int 0)))) (eVar 2) (eC (.int 0))) (aNil))) (gN 5)
  (sSeq (sSet 6 (eM isLst mPopAt (eVar 4) (aCons (eB F__law_take (aCons (eVar 0) (aCons (eB bLen (aCons (eVar 4) (aNil))) (aNil)))) aNil)))
  (sSeq (sPar 7 8 (aCons (eB bLen (aCons (eVar 3) (aNil))) (aCons (eOp opAdd (eB bLen (aCons (eVar 3) (aNil))) (eC (.int 1))) (aNil))))
  (sSeq (sAsg (gSb (eVar 3) (eVar 6)) (eOp opAdd (eTup (aCons (eC (.str "cut")) (aCons (eB F__law_any_form (aCons (eVar 0) (aCons (eVar 1) (aNil)))) (aNil)))) (eIf (tBl (eOp (opEq false) (eB F__law_take (aCons (eVar 0) (aCons (eC (.int 2)) (aNil)))) (eC (.int 0)))) (eTup (aCons (eVar 7) (aCons (eVar 8) (aNil)))) (eTup (aCons (eVar 8) (aCons (eVar 7) (aNil)))))))
  (sPar 3 4 (aCons (eOp opCatL (eVar 3) (eLst (aCons (eC .non) (aCons (eC .non) (aNil))))) (aCons (eOp opCatL (eVar 4) (eLst (aCons (eVar 7) (aCons (eVar 8) (aNil))))) (aNil))))))))
  (sSeq (sFor (iVal (eVar 4)) (gN 6)
  (sAsg (gSb (eVar 3) (eVar 6)) (eTup (aCons (eC (.str "line")) (aCons (eB bTuple (aCons (eLc (iRng1 (aCons (eOp opAdd (eVar 1) (eC (.int 1))) (aNil))) (gN 9) (tYs) (eB F__law_ratio (aCons (eOp opSub (eB F__law_take (aCons (eVar 0) (aCons (eC (.int 9)) (aNil)))) (eC (.int 4))) (aCons (eOp opAdd (eC (.int 1)) (eB F__law_take (aCons (eVar 0) (aCons (eC (.int 3)) (aNil))))) (aNil)))) [9]) (aNil))) (aNil))))))
  (sRet (eB bTuple (aCons (eVar 3) (aNil))))))
def F__law_any_kink : List Wt → Store → Res Wt := mkFn 3 10 b__law_any_kink
def b__law_line_at : SM := sSeq (sSet 2 (eOp opIx (eVar 0) (eUn opNeg (eC (.int 1)))))
  (sSeq (sFor (iZipX (aCons (eVar 0) (aCons (eVar 1) (aNil)))) (gT 2 (gN1 (gN 3) (gN1 (gN 4) (gN0))))
  (sSet 2 (eB F__law_plus (aCons (eVar 2) (aCons (eB F__law_times (aCons (eVar 3) (aCons (eVar 4) (aNil)))) (aNil))))))
  (sRet (eVar 2)))
def F__law_line_at : List Wt → Store → Res Wt := mkFn 2 5 b__law_line_at
def b__law_kink_at : SM := sSeq (sSet 2 (eC (.int 0)))
  (sSeq (sFor (iRng1 (aCons (eB bLen (aCons (eVar 0) (aNil))) (aNil))) (gN 3)
  (sSeq (sIf (tBl (eOp (opEq false) (eOp opIx (eOp opIx (eVar 0) (eVar 2)) (eC (.int 0))) (eC (.str "line"))))
  (sRet (eB F__law_line_at (aCons (eOp opIx (eOp opIx (eVar 0) (eVar 2)) (eC (.int 1))) (aCons (eVar 1) (aNil)))))
  (sNext))
  (sSeq (sSet 4 (eB F__law_line_at (aCons (eLc (iVal (eOp opIx (eOp opIx (eVar 0) (eVar 2)) (eC (.int 1)))) (gN 5) (tYs) (eTup (aCons (eVar 5) (aCons (eC (.int 1)) (aNil)))) [5]) (aCons (eVar 1) (aNil)))))
  (sSet 2 (eOp opIx (eOp opIx (eVar 0) (eVar 2)) (eIf (tBl (eOp opLe (eOp opIx (eVar 4) (eC (.int 0))) (eC (.int 0)))) (eC (.int 2)) (eC (.int 3))))))))
  (sRet (eC .non)))
def F__law_kink_at : List Wt → Store → Res Wt := mkFn 2 6 b__law_kink_at
def b__law_numbers : SM := sSeq (sSet 3 (eLcL (iRng1 (aCons (eVar 2) (aNil))) (gN 4) (tYs) (eB F__law_ratio (aCons (eB F__law_one (aCons (eVar 0) (aCons (eTup (aCons (eC (.int 0)) (aCons (eC (.int 1)) (aCons (eUn opNeg (eC (.int 1))) (aCons (eC (.int 2)) (aCons (eC (.int 5)) (aCons (eUn opNeg (eC (.int 7))) (aCons (eOp opPow (eC (.int 10)) (eC (.int 20))) (aNil))))))))) (aNil)))) (aCons (eB F__law_one (aCons (eVar 0) (aCons (eTup (aCons (eC (.int 1)) (aCons (eC (.int 1)) (aCons (eC (.int 2)) (aCons (eC (.int 3)) (aCons (eOp opPow (eC (.int 10)) (eC (.int 9))) (aNil))))))) (aNil)))) (aNil)))) [4]))
  (sSeq (sSet 5 (eLc (iVal (eVar 1)) (gN 6) (tBl (eOp (opEq false) (eOp opIx (eVar 6) (eC (.int 0))) (eC (.str "cut")))) (eOp opIx (eVar 6) (eC (.int 1))) [6]))
  (sSeq (sIf (tAnd (tBl (eOp (opEq true) (eVar 5) (eLst (aNil)))) (tBl (eOp (opEq false) (eB F__law_take (aCons (eVar 0) (aCons (eC (.int 2)) (aNil)))) (eC (.int 0)))))
  (sSeq (sSet 7 (eB F__law_one (aCons (eVar 0) (aCons (eVar 5) (aNil)))))
  (sSeq (sSet 8 (eOp opIx (eLc (iRng1 (aCons (eVar 2) (aNil))) (gN 4) (tBl (eOp (opEq true) (eOp opIx (eVar 7) (eVar 4)) (eC (.int 0)))) (eVar 4) [4]) (eC (.int 0))))
  (sSeq (sSet 9 (eB F__law_line_at (aCons (eLc (iVal (eVar 7)) (gN 10) (tYs) (eTup (aCons (eVar 10) (aCons (eC (.int 1)) (aNil)))) [10]) (aCons (eOp opAdd (eOp opAdd (eSl opSl (eVar 3) (oNone) (oSome (eVar 8))) (eLst (aCons (eTup (aCons (eC (.int 0)) (aCons (eC (.int 1)) (aNil)))) (aNil)))) (eSl opSl (eVar 3) (oSome (eOp opAdd (eVar 8) (eC (.int 1)))) (oNone))) (aNil)))))
  (sAsg (gSb (eVar 3) (eVar 8)) (eB F__law_plus (aCons (eB F__law_times (aCons (eVar 9) (aCons (eB F__law_ratio (aCons (eUn opNeg (eC (.int 1))) (aCons (eOp opIx (eVar 7) (eVar 8)) (aNil)))) (aNil)))) (aCons (eB F__law_one (aCons (eVar 0) (aCons (eTup (aCons (eTup (aCons (eC (.int 0)) (aCons (eC (.int 1)) (aNil)))) (aCons (eTup (aCons (eC (.int 0)) (aCons (eC (.int 1)) (aNil)))) (aCons (eTup (aCons (eC (.int 1)) (aCons (eC (.int 1000)) (aNil)))) (aCons (eTup (aCons (eUn opNeg (eC (.int 1))) (aCons (eC (.int 1000)) (aNil)))) (aNil)))))) (aNil)))) (aNil))))))))
  (sNext))
  (sRet (eB bTuple (aCons (eVar 3) (aNil))))))
def F__law_numbers : List Wt → Store → Res Wt := mkFn 3 11 b__law_numbers
def b__law_reordered : SM := sSeq (sAsgT 2 (gN1 (gN 2) (gN1 (gN 3) (gN0))) (aCons (eLstL (aNil)) (aCons (eLstL (aCons (eC (.int 0)) (aNil))) (aNil))))
  (sSeq (sFor (iRng1 (aCons (eB bLen (aCons (eVar 1) (aNil))) (aNil))) (gN 4)
  (sSeq (sSet 5 (eM isLst mPopAt (eVar 3) (aCons (eB F__law_take (aCons (eVar 0) (aCons (eB bLen (aCons (eVar 3) (aNil))) (aNil)))) aNil)))
  (sSeq (sExpr (eM isLst mApp (eVar 2) (aCons (eVar 5) aNil)))
  (sSet 3 (eOp opCatL (eVar 3) (eIf (tBl (eOp (opEq false) (eOp opIx (eOp opIx (eVar 1) (eVar 5)) (eC (.int 0))) (eC (.str "cut")))) (eB bList (aCons (eSl opSl (eOp opIx (eVar 1) (eVar 5)) (oSome (eC (.int 2))) (oNone)) (aNil))) (eLst (aNil))))))))
  (sRet (eB bTuple (aCons (eLc (iVal (eVar 2)) (gN 5) (tYs) (eIf (tBl (eOp (opEq false) (eOp opIx (eOp opIx (eVar 1) (eVar 5)) (eC (.int 0))) (eC (.str "line")))) (eOp opIx (eVar 1) (eVar 5)) (eOp opAdd (eSl opSl (eOp opIx (eVar 1) (eVar 5)) (oNone) (oSome (eC (.int 2)))) (eTup (aCons (eM isLst mIndex (eVar 2) (aCons (eOp opIx (eOp opIx (eVar 1) (eVar 5)) (eC (.int 2))) aNil)) (aCons (eM isLst mIndex (eVar 2) (aCons (eOp opIx (eOp opIx (eVar 1) (eVar 5)) (eC (.int 3))) aNil)) (aNil)))))) [5]) (aNil)))))
def F__law_reordered : List Wt → Store → Res Wt := mkFn 2 6 b__law_reordered
def b__law_shifted : SM := sRet (eB bTuple (aCons (eLc (iVal (eVar 0)) (gN 2) (tYs) (eIf (tBl (eOp (opEq false) (eOp opIx (eVar 2) (eC (.int 0))) (eC (.str "line")))) (eVar 2) (eOp opAdd (eSl opSl (eVar 2) (oNone) (oSome (eC (.int 2)))) (eTup (aCons (eOp opAdd (eOp opIx (eVar 2) (eC (.int 2))) (eVar 1)) (aCons (eOp opAdd (eOp opIx (eVar 2) (eC (.int 3))) (eVar 1)) (aNil)))))) [2]) (aNil)))
def F__law_shifted : List Wt → Store → Res Wt := mkFn 2 3 b__law_shifted
def b__law_right : SM := sSeq (sSet 1 (eB F__law_take (aCons (eVar 0) (aCons (eC (.int 6)) (aNil)))))
  (sSeq (sSet 2 (eB F__law_any_kink (aCons (eVar 0) (aCons (eVar 1) (aCons (eB F__law_take (aCons (eVar 0) (aCons (eC (.int 8)) (aNil)))) (aNil))))))
  (sSeq (sPar 3 4 (aCons (eB F__law_reordered (aCons (eVar 0) (aCons (eVar 2) (aNil)))) (aCons (eB bLen (aCons (eVar 2) (aNil))) (aNil))))
  (sSeq (sSet 5 (eIf (tBl (eOp opGt (eVar 1) (eC (.int 0)))) (eOp opAdd (eOp opAdd (eTup (aCons (eTup (aCons (eC (.str "cut")) (aCons (eB F__law_any_form (aCons (eVar 0) (aCons (eVar 1) (aNil)))) (aCons (eC (.int 1)) (aCons (eOp opAdd (eC (.int 1)) (eVar 4)) (aNil)))))) (aNil))) (eB F__law_shifted (aCons (eVar 2) (aCons (eC (.int 1)) (aNil))))) (eB F__law_shifted (aCons (eVar 3) (aCons (eOp opAdd (eC (.int 1)) (eVar 4)) (aNil))))) (eVar 2)))
  (sSeq (sFor (iRng1 (aCons (eC (.int 8)) (aNil))) (gN 6)
  (sSeq (sSet 7 (eB F__law_numbers (aCons (eVar 0) (aCons (eVar 2) (aCons (eVar 1) (aNil))))))
  (sSeq (sSet 8 (eB F__law_kink_at (aCons (eVar 2) (aCons (eVar 7) (aNil)))))
  (sSeq (sSet 9 (eIf (tBl (eOp (opEq false) (eB F__law_take (aCons (eVar 0) (aCons (eC (.int 2)) (aNil)))) (eC (.int 0)))) (eB F_kink_at (aCons (eVar 2) (aCons (eVar 1) (aCons (eVar 7) (aNil))))) (eCK F_kink_at 0 3 [2, 1, 0] aNil (aCons (eVar 7) (aCons (eVar 1) (aCons (eVar 2) (aNil)))))))
  (sSeq (sIf (tNot (tTru (eB (F__law_alike 8) (aCons (eTup (aCons (eVar 9) (aCons (eB F_kink_at (aCons (eVar 3) (aCons (eVar 1) (aCons (eVar 7) (aNil))))) (aCons (eB F_kink_at (aCons (eVar 5) (aCons (eVar 1) (aCons (eVar 7) (aNil))))) (aNil))))) (aCons (eOp opMulT (eTup (aCons (eVar 8) (aNil))) (eC (.int 3))) (aNil))))))
  (sRet (eC (.bl false)))
  (sNext))
  (sIf (tBl (eOp (opEq false) (eOp opIx (eOp opIx (eVar 2) (eC (.int 0))) (eC (.int 0))) (eC (.str "cut"))))
  (sSeq (sSet 10 (eOp opIx (eOp opIx (eVar 2) (eC (.int 0))) (eC (.int 1))))
  (sSeq (sSet 11 (eOp opAdd (eTup (aCons (eTup (aCons (eC (.str "cut")) (aCons (eB bTuple (aCons (eLc (iVal (eVar 10)) (gN 12) (tYs) (eOp opSub (eC (.int 0)) (eVar 12)) [12]) (aNil))) (aCons (eOp opIx (eOp opIx (eVar 2) (eC (.int 0))) (eC (.int 3))) (aCons (eOp opIx (eOp opIx (eVar 2) (eC (.int 0))) (eC (.int 2))) (aNil)))))) (aNil))) (eSl opSl (eVar 2) (oSome (eC (.int 1))) (oNone))))
  (sSeq (sSet 13 (eOp (opEq false) (eB F__law_line_at (aCons (eLc (iVal (eVar 10)) (gN 12) (tYs) (eTup (aCons (eVar 12) (aCons (eC (.int 1)) (aNil)))) [12]) (aCons (eVar 7) (aNil)))) (eTup (aCons (eC (.int 0)) (aCons (eC (.int 1)) (aNil))))))
  (sIf (tOr (tBl (eOp (opIs true) (eB F_is_kink (aCons (eVar 11) (aCons (eVar 1) (aNil)))) (eC (.bl true)))) (tOr (tBl (eOp (opEq true) (eB F_kink_at (aCons (eVar 11) (aCons (eVar 1) (aCons (eVar 7) (aNil))))) (eB F__law_kink_at (aCons (eVar 11) (aCons (eVar 7) (aNil)))))) (tAnd (tNot (tTru (eVar 13))) (tBl (eOp (opEq true) (eB F__law_kink_at (aCons (eVar 11) (aCons (eVar 7) (aNil)))) (eVar 8))))))
  (sRet (eC (.bl false)))
  (sNext)))))
  (sNext)))))))
  (sRet (eAnd (eOp (opIs false) (eB F_is_kink (aCons (eVar 3) (aCons (eVar 1) (aNil)))) (eC (.bl true))) (eOp (opIs false) (eB F_is_kink (aCons (eVar 5) (aCons (eVar 1) (aNil)))) (eC (.bl true)))))))))
def F__law_right : List Wt → Store → Res Wt := mkFn 1 14 b__law_right
def b_law : SM := sSeq (sFor (iRng1 (aCons (eB bMin (aCons (eC (.int 20)) (aCons (eB bMax (aCons (eC (.int 6)) (aCons (eB bLen (aCons (eVar 0) (aNil))) (aNil)))) (aNil)))) (aNil))) (gN 1)
  (sIf (tNot (tTru (eB F__law_right (aCons (eB F__law_pool (aCons (eVar 0) (aCons (eVar 1) (aNil)))) (aNil)))))
  (sRet (eC (.bl false)))
  (sNext)))
  (sSeq (sSet 2 (eTup (aCons (eTup (aCons (eC (.str "cut")) (aCons (eTup (aCons (eC (.int 1)) (aCons (eUn opNeg (eC (.int 1))) (aNil)))) (aCons (eC (.int 1)) (aCons (eC (.int 2)) (aNil)))))) (aCons (eTup (aCons (eC (.str "line")) (aCons (eTup (aCons (eTup (aCons (eC (.int 0)) (aCons (eC (.int 1)) (aNil)))) (aCons (eTup (aCons (eC (.int 3)) (aCons (eC (.int 1)) (aNil)))) (aNil)))) (aNil)))) (aCons (eTup (aCons (eC (.str "line")) (aCons (eTup (aCons (eTup (aCons (eC (.int 2)) (aCons (eC (.int 1)) (aNil)))) (aCons (eTup (aCons (eC (.int 1)) (aCons (eC (.int 1)) (aNil)))) (aNil)))) (aNil)))) (aNil))))))
  (sRet (eOp (opEq false) (eLst (aCons (eB F_kink_at (aCons (eVar 2) (aCons (eC (.int 1)) (aCons (eTup (aCons (eTup (aCons (eC (.int 1)) (aCons (eC (.int 1)) (aNil)))) (aNil))) (aNil))))) (aCons (eB F_kink_at (aCons (eVar 2) (aCons (eC (.int 1)) (aCons (eTup (aCons (eTup (aCons (eC (.int 2)) (aCons (eC (.int 1)) (aNil)))) (aNil))) (aNil))))) (aCons (eB F_kink_at (aCons (eTup (aCons (eTup (aCons (eC (.str "line")) (aCons (eTup (aCons (eTup (aCons (eC (.int 1)) (aCons (eC (.int 2)) (aNil)))) (aNil))) (aNil)))) (aNil))) (aCons (eC (.int 0)) (aCons (eTup (aNil)) (aNil))))) (aNil))))) (eLst (aCons (eTup (aCons (eC (.int 3)) (aCons (eC (.int 1)) (aNil)))) (aCons (eTup (aCons (eC (.int 5)) (aCons (eC (.int 1)) (aNil)))) (aCons (eTup (aCons (eC (.int 1)) (aCons (eC (.int 2)) (aNil)))) (aNil))))))))
def F_law : List Wt → Store → Res Wt := mkFn 1 3 b_law
end K15
end
section
/-! the pool of numbers -/
namespace Y
open PySem PySem.Spec PyProof.Rows L2
theorem mulOk_of {i j : Int} (h : i.natAbs.log2 ≤ 50000000) (h' : j.natAbs.log2 ≤ 50000000) : mulOk i j = true := by
  unfold mulOk
  exact decide_eq_true (by omega)
theorem log_small {i : Int} (h : i.natAbs ≤ 50000000) : i.natAbs.log2 ≤ 50000000 := Nat.le_trans (Nat.log2_le_self _) h
theorem log_lt {n m : Nat} (h : n < 2 ^ m) (hm : m ≤ 50000000) : n.log2 ≤ 50000000 := by
  by_cases e : n = 0
  · subst e; simp
  · have := (Nat.log2_lt e).mpr h
    omega
theorem log_mono {n m : Nat} (h : n ≤ m) : n.log2 ≤ m.log2 := by
  by_cases e : n = 0
  · subst e; simp
  · exact (Nat.le_log2 (by omega)).mpr (Nat.le_trans ((Nat.le_log2 e).mp (Nat.le_refl _)) h)
theorem mulOk_c {i j : Int} (h : i.natAbs ≤ 50000000) (h' : j.natAbs ≤ 50000000) : mulOk i j = true := mulOk_of (log_small h) (log_small h')
theorem log_bits {z : Int} (h : Builtin.Int.intBits z ≤ 1048576) : z.natAbs.log2 ≤ 1048576 := by
  unfold Builtin.Int.intBits at h
  split at h
  · rename_i e
    simp at e
    subst e
    simp
  · omega
@[simp] theorem fin_new {S : Store} {c : Cell} : finish S.length (.rt (.loc S.length) (S ++ [c])) = .ok (.loc S.length) (S ++ [c]) := by simp [finish]
def PoolOk (a b : Int) : Prop := 0 ≤ a ∧ 0 ≤ b ∧ b < 2 ^ 64
/-- the n-th cell is a pool -/
def Pl (n : Nat) (S : Store) : Prop := ∃ a b, S[n]? = some (.lst [.int a, .int b]) ∧ PoolOk a b
/-- only the pool has moved -/
def Mv (n : Nat) (S S' : Store) : Prop := ∃ a b, S' = S.set n (.lst [.int a, .int b]) ∧ PoolOk a b ∧ n < S.length
theorem Mv.pl {n : Nat} {S S' : Store} (h : Mv n S S') : Pl n S' := by
  obtain ⟨a, b, rfl, p, hn⟩ := h
  exact ⟨a, b, by rw [List.getElem?_set_self hn], p⟩
theorem Pl.mv {n : Nat} {S : Store} (h : Pl n S) : Mv n S S := by
  obtain ⟨a, b, e, p⟩ := h
  obtain ⟨hn, e2⟩ := List.getElem?_eq_some_iff.mp e
  refine ⟨a, b, ?_, p, hn⟩
  rw [← e2, List.set_getElem_self]
theorem Mv.trans {n : Nat} {S S' S'' : Store} (h : Mv n S S') (g : Mv n S' S'') : Mv n S S'' := by
  obtain ⟨a, b, rfl, p, hn⟩ := h
  obtain ⟨c, d, rfl, q, _⟩ := g
  exact ⟨c, d, by rw [List.set_set], q, hn⟩
theorem Mv.length {n : Nat} {S S' : Store} (h : Mv n S S') : S'.length = S.length := by
  obtain ⟨a, b, rfl, _⟩ := h
  simp
theorem Mv.app {n : Nat} {S S' T : Store} (h : Mv n S S') : Mv n (S ++ T) (S' ++ T) := by
  obtain ⟨a, b, rfl, p, hn⟩ := h
  exact ⟨a, b, by rw [List.set_append_left _ _ hn], p, by rw [List.length_append]; omega⟩
theorem Pl.app {n : Nat} {S T : Store} (h : Pl n S) : Pl n (S ++ T) := by
  obtain ⟨a, b, e, p⟩ := h
  exact ⟨a, b, by rw [List.getElem?_append_left (List.getElem?_eq_some_iff.mp e).1]; exact e, p⟩
theorem Pl.lt {n : Nat} {S : Store} (h : Pl n S) : n < S.length := by
  obtain ⟨a, b, e, p⟩ := h
  exact (List.getElem?_eq_some_iff.mp e).1
theorem Mv.back {n : Nat} {S S' T : Store} (h : Mv n (S ++ T) S') (hn : n < S.length) : ∃ S1, S' = S1 ++ T ∧ Mv n S S1 := by
  obtain ⟨a, b, rfl, p, _⟩ := h
  exact ⟨S.set n (.lst [.int a, .int b]), by rw [List.set_append_left _ _ hn], a, b, rfl, p, hn⟩
theorem fmod_range {a m : Int} (h : 0 < m) : 0 ≤ a.fmod m ∧ a.fmod m < m := by
  rw [Int.fmod_eq_emod_of_nonneg _ (Int.le_of_lt h)]
  exact ⟨Int.emod_nonneg _ (by omega), Int.emod_lt_of_pos _ h⟩
theorem fdiv_nonneg {a m : Int} (ha : 0 ≤ a) (h : 0 < m) : 0 ≤ a.fdiv m := by
  rw [Int.fdiv_eq_ediv_of_nonneg _ (Int.le_of_lt h)]
  exact Int.ediv_nonneg ha (Int.le_of_lt h)
theorem atIn {α : Type} {l : List α} {k : Nat} : atI l (k : Int) = l[k]? := by
  unfold atI ixN
  by_cases h : k < l.length
  · rw [if_pos (by omega), if_pos (by omega)]; rfl
  · rw [if_pos (by omega), if_neg (by omega), List.getElem?_eq_none (by omega)]; rfl
@[simp] theorem atI_0 {α : Type} {a : α} {l : List α} : atI (a :: l) 0 = some a := by
  have := atIn (l := a :: l) (k := 0)
  simpa using this
@[simp] theorem atI_1 {α : Type} {a b : α} {l : List α} : atI (a :: b :: l) 1 = some b := by
  have := atIn (l := a :: b :: l) (k := 1)
  simpa using this
end Y
namespace K15
open PySem PySem.Spec PyProof.Rows L2 Y
theorem pool_ok {ns : List Int} (hb : ∀ z ∈ ns, Builtin.Int.intBits z ≤ 1048576) (hn : ns.length ≤ 63) (k : Nat) (hk : k ≤ 100) (S : Store) :
    ∃ a b, PoolOk a b ∧ F__law_pool [scr ns, .d (.int k)] S = .ok (.loc S.length) (S ++ [.lst [.int a, .int b]]) := by
  have k1 : (k : Int).natAbs ≤ 50000000 := by omega
  have k2 : ((ns.length : Nat) : Int).natAbs ≤ 50000000 := by omega
  have m1 : mulOk 7 k = true := mulOk_c (by omega) (by omega)
  have m2 : mulOk 3 ns.length = true := mulOk_c (by omega) (by omega)
  have m3 : mulOk 16807 k = true := mulOk_c (by omega) (by omega)
  have key : ∀ c : Int, c.natAbs.log2 ≤ 1048576 → ∀ (S : Store), ∃ a b, PoolOk a b ∧ finish S.length ((sSeq (sSet 3 (eB bAbs (aCons (eVar 2) (aNil))))
  (sSeq (sSet 4 (eOp opMod (eB bInt (aCons (eOp opAdd (eOp opAdd (eOp opAdd (eOp opMulT (eVar 3) (eC (.int 48271))) (eOp opMulT (eC (.int 16807)) (eVar 1))) (eOp opMulT (eC (.int 11)) (eB bInt (aCons (eOp opLt (eVar 2) (eC (.int 0))) (aNil))))) (eC (.int 1))) (aNil))) (eC (.int 2305843009213693951))))
  (sSeq (sIf (tBl (eOp opGe (eVar 3) (eC (.int 1000000000000000000))))
  (sRet (eLstL (aCons (eOp opAdd (eOp opMulT (eC (.int 2)) (eOp opSub (eVar 3) (eC (.int 1000000000000000000)))) (eB bInt (aCons (eOp opLt (eVar 2) (eC (.int 0))) (aNil)))) (aCons (eVar 4) (aNil)))))
  (sNext))
  (sRet (eLstL (aCons (eC (.int 0)) (aCons (eVar 4) (aNil)))))))) S.length [some (scr ns), some (.d (.int k)), some (.d (.int c)), none, none] S) = .ok (.loc S.length) (S ++ [.lst [.int a, .int b]]) := by
    intro c hc S
    have a1 : (if c < 0 then -c else c).natAbs = c.natAbs := by split <;> omega
    have m4 : mulOk 11 (if c < 0 then 1 else 0) = true := by split <;> exact mulOk_c (by decide) (by decide)
    have m5 : mulOk (if c < 0 then -c else c) 48271 = true := mulOk_of (by rw [a1]; omega) (by decide)
    have m6 : mulOk 2 ((if c < 0 then -c else c) - 1000000000000000000) = true := mulOk_of (by decide) (by
      by_cases h : (if c < 0 then -c else c) - 1000000000000000000 < 0
      · exact log_lt (m := 64) (by split at h <;> omega) (by omega)
      · exact Nat.le_trans (log_mono (show _ ≤ c.natAbs by split at h <;> omega)) (by omega))
    obtain ⟨f1, f2⟩ := fmod_range (a := (if c < 0 then -c else c) * 48271 + 16807 * k + 11 * (if c < 0 then 1 else 0) + 1) (m := 2305843009213693951) (by decide)
    by_cases h : (if c < 0 then -c else c) ≥ 1000000000000000000
    · have n1 : (0 : Int) ≤ (if c < 0 then 1 else 0) := by split <;> omega
      exact ⟨2 * ((if c < 0 then -c else c) - 1000000000000000000) + (if c < 0 then 1 else 0), _, ⟨by omega, f1, by omega⟩, by simp [m1, m3, m4, m5, m6, h]⟩
    · exact ⟨0, _, ⟨by omega, f1, by omega⟩, by simp [m1, m3, m4, m5, m6, h]⟩
  unfold F__law_pool b__law_pool
  by_cases h : k < ns.length
  · obtain ⟨a, b, p, e⟩ := key ns[k] (log_bits (hb _ (List.getElem_mem h))) S
    refine ⟨a, b, p, ?_⟩
    rw [← e]
    simp [mkFn_eq, scr, m1, m2, h, atIn]
  · obtain ⟨a, b, p, e⟩ := key (7 * k + 3 * ns.length) (Nat.le_trans (Nat.log2_le_self _) (by omega)) S
    refine ⟨a, b, p, ?_⟩
    rw [← e]
    simp [mkFn_eq, scr, m1, m2, h]
theorem take_loop {n : Nat} {many a : Int} (h1 : 1 ≤ many) (h2 : many ≤ 50000000) (b0 : Nat) : ∀ (j : Nat) (N : Nat) (S : Store) (b told R : Int), j + 1 ≤ N → S[n]? = some (.lst [.int a, .int b]) → 0 ≤ b → b < 2 ^ 64 → 0 ≤ told → told < R → R ≤ 2 ^ 80 → 2 ^ 72 ≤ R * 2 ^ (24 * j) →
    ∃ b' told' reach, 0 ≤ b' ∧ b' < 2 ^ 64 ∧ 0 ≤ told' ∧ whileN (tBl (eOp opLt (eVar 3) (eOp opMulT (eC (.int 16777216)) (eVar 1))))
  (sSeq (sAsg (gSb (eVar 0) (eC (.int 1))) (eOp opMod (eB bInt (aCons (eOp opAdd (eOp opMulT (eOp opIx (eVar 0) (eC (.int 1))) (eC (.int 6364136223846793005))) (eC (.int 1442695040888963407))) (aNil))) (eC (.int 18446744073709551616))))
  (sSeq (sSet 2 (eOp opAdd (eOp opMulT (eVar 2) (eC (.int 16777216))) (eOp opFdiv (eOp opIx (eVar 0) (eC (.int 1))) (eC (.int 1099511627776)))))
  (sSet 3 (eOp opMulT (eVar 3) (eC (.int 16777216)))))) N b0 [some (.loc n), some (.d (.int many)), some (.d (.int told)), some (.d (.int R))] S = .nx [some (.loc n), some (.d (.int many)), some (.d (.int told')), some (.d (.int reach))] (S.set n (.lst [.int a, .int b'])) := by
  have m0 : mulOk 16777216 many = true := mulOk_c (by decide) (by omega)
  intro j
  induction j with
  | zero =>
    intro N S b told R hN e pb pb2 ht ht2 hR hR2
    have hs : S.set n (.lst [.int a, .int b]) = S := by rw [← (List.getElem?_eq_some_iff.mp e).2, List.set_getElem_self]
    refine ⟨b, told, R, pb, pb2, ht, ?_⟩
    rw [while_turn (by omega), hs]
    have hc : ¬ R < 16777216 * many := by omega
    simp [m0, hc]
  | succ j ih =>
    intro N S b told R hN e pb pb2 ht ht2 hR hR2
    have hn := (List.getElem?_eq_some_iff.mp e).1
    by_cases hc : R < 16777216 * many
    · have e1 : ixN 2 1 = some 1 := by decide
      obtain ⟨f1, f2⟩ := fmod_range (a := b * 6364136223846793005 + 1442695040888963407) (m := 18446744073709551616) (by decide)
      generalize hb' : (b * 6364136223846793005 + 1442695040888963407).fmod 18446744073709551616 = b1 at f1 f2
      have d1 := fdiv_nonneg (a := b1) (m := 1099511627776) f1 (by decide)
      have d2 : b1.fdiv 1099511627776 < 16777216 := by rw [Int.fdiv_eq_ediv_of_nonneg _ (by decide)]; omega
      have e' : (S.set n (.lst [.int a, .int b1]))[n]? = some (.lst [.int a, .int b1]) := List.getElem?_set_self hn
      obtain ⟨b', told', reach, q1, q2, q3, q4⟩ := ih (N - 1) _ b1 (told * 16777216 + b1.fdiv 1099511627776) (R * 16777216) (by omega) e' f1 f2 (by omega) (by omega) (by omega) (by
        have : R * 16777216 * 2 ^ (24 * j) = R * 2 ^ (24 * (j + 1)) := by
          rw [show 24 * (j + 1) = 24 + 24 * j by omega, Int.pow_add, ← Int.mul_assoc]
          rfl
        omega)
      refine ⟨b', told', reach, q1, q2, q3, ?_⟩
      rw [List.set_set] at q4
      have m1 : mulOk b 6364136223846793005 = true := mulOk_of (log_lt (m := 64) (by omega) (by omega)) (by decide)
      have m2 : mulOk told 16777216 = true := mulOk_of (log_lt (m := 80) (by omega) (by omega)) (by decide)
      have m3 : mulOk R 16777216 = true := mulOk_of (log_lt (m := 81) (by omega) (by omega)) (by decide)
      have l1 : Nat.log2 1099511627776 < 9000 := by decide
      rw [while_turn (by omega), ← q4]
      simp [m0, m1, m2, m3, hc, ix_loc e, hb', set_loc (k := 1) e e1, ix_loc e', l1]
    · have hs : S.set n (.lst [.int a, .int b]) = S := by rw [← (List.getElem?_eq_some_iff.mp e).2, List.set_getElem_self]
      refine ⟨b, told, R, pb, pb2, ht, ?_⟩
      rw [while_turn (by omega), hs]
      simp [m0, hc]
theorem take_ok {n : Nat} {S : Store} (hp : Pl n S) {many : Int} (h1 : 1 ≤ many) (h2 : many ≤ 50000000) :
    ∃ r S', F__law_take [.loc n, .d (.int many)] S = .ok (.d (.int r)) S' ∧ Mv n S S' ∧ 0 ≤ r ∧ r < many := by
  obtain ⟨a, b, e, pa, pb, pb2⟩ := hp
  have hn := (List.getElem?_eq_some_iff.mp e).1
  have hl : many.natAbs.log2 < 9000 := by
    have : many.natAbs.log2 ≤ 50000000 := log_small (by omega)
    have := (Nat.log2_lt (n := many.natAbs) (k := 26) (by omega)).mpr (by omega)
    omega
  have hne : many ≠ 0 := by omega
  unfold F__law_take b__law_take
  by_cases ha : a > 1
  · obtain ⟨f1, f2⟩ := fmod_range (a := a) (m := many) (by omega)
    refine ⟨_, S.set n (.lst [.int (a.fdiv many), .int b]), ?_, ⟨_, _, rfl, ⟨fdiv_nonneg pa (by omega), pb, pb2⟩, hn⟩, f1, f2⟩
    have e0 : ixN 2 0 = some 0 := by decide
    simp [mkFn_eq, ix_loc e, ha, hne, hl, set_loc (k := 0) e e0]
  · obtain ⟨b', told', R, q1, q2, q3, q4⟩ := take_loop h1 h2 S.length 3 fuelW S b 0 1 (by decide) e pb pb2 (by decide) (by decide) (by decide) (by decide)
    obtain ⟨f1, f2⟩ := fmod_range (a := told') (m := many) (by omega)
    refine ⟨_, S.set n (.lst [.int a, .int b']), ?_, ⟨_, _, rfl, ⟨pa, q1, q2⟩, hn⟩, f1, f2⟩
    simp [mkFn_eq, ix_loc e, ha, q4, hne]
theorem one_ok {n : Nat} {S : Store} (hp : Pl n S) {l : List D} (h1 : l ≠ []) (h2 : l.length ≤ 50000000) :
    ∃ d ∈ l, ∃ S', F__law_one [.loc n, .d (.tup l)] S = .ok (.d d) S' ∧ Mv n S S' := by
  have hl : 0 < l.length := List.length_pos_iff.mpr h1
  obtain ⟨r, S', e, mv, r1, r2⟩ := take_ok hp (many := l.length) (by omega) (by omega)
  have hr : r.toNat < l.length := by omega
  refine ⟨l[r.toNat], List.getElem_mem hr, S', ?_, mv⟩
  have : atI l r = some l[r.toNat] := by
    have := atIn (l := l) (k := r.toNat)
    rw [show ((r.toNat : Nat) : Int) = r by omega] at this
    rw [this, List.getElem?_eq_getElem hr]
  unfold F__law_one b__law_one
  simp [mkFn_eq, e, this, ← mv.length]
/-- alike: of texts -/
theorem alike_str {x y : Str} {k : Nat} {S : Store} : F__law_alike (k + 1) [.d (.str x), .d (.str y)] S = .ok (.d (.bl (decide (x = y)))) S := by
  unfold F__law_alike b__law_alike
  simp [mkFn_eq]
end K15
end
section
/-! plain data are themselves; Euclid -/
namespace Y
open PySem PySem.Spec PyProof.Rows L2
theorem take_mv {n : Nat} {S S' : Store} (h : Mv n S S') : S'.take S.length = S' := by rw [← h.length, List.take_length]
theorem eq_of {A B : D} {neg b : Bool} {S : Store} (h1 : eqOk A B = true) (h2 : deq A B = b) : opEq neg (.d A) (.d B) S = .ok (.d (.bl (if neg then !b else b))) S := by
  simp only [opEq, deref_d, if_pos h1, h2]
/-- plain data of depth k at most -/
def pl : Nat → D → Bool
  | _, .non => true
  | _, .bl _ => true
  | _, .int _ => true
  | _, .str x => PyData.strOk x
  | k + 1, .tup l => l.all (pl k)
  | k + 1, .lst l => l.all (pl k)
  | _, _ => false
theorem pls_ok {k : Nat} (ih : ∀ d, pl k d = true → ∃ p, toPy d = some p ∧ p.canLay0 = true ∧ p.depth ≤ k) : ∀ {l : List D}, l.all (pl k) = true → ∃ ps, toPys l = some ps ∧ PyData.canLayAll0 ps = true ∧ PyData.depthAll ps ≤ k
  | [], _ => ⟨[], rfl, rfl, by simp [PyData.depthAll]⟩
  | d :: l, h => by
    rw [List.all_cons, Bool.and_eq_true] at h
    obtain ⟨p, h1, h2, h3⟩ := ih d h.1
    obtain ⟨ps, q1, q2, q3⟩ := pls_ok ih h.2
    refine ⟨p :: ps, by simp [toPys, h1, q1], by simp [PyData.canLayAll0, h2, q2], ?_⟩
    simp only [PyData.depthAll]
    omega
theorem pl_ok : ∀ (k : Nat) (d : D), pl k d = true → ∃ p, toPy d = some p ∧ p.canLay0 = true ∧ p.depth ≤ k
  | k, .non, _ => ⟨.none, rfl, rfl, by simp [PyData.depth]⟩
  | k, .bl b, _ => ⟨.bool b, rfl, rfl, by simp [PyData.depth]⟩
  | k, .int b, _ => ⟨.int b, rfl, rfl, by simp [PyData.depth]⟩
  | k, .str b, h => ⟨.str b, rfl, by unfold pl at h; simpa [PyData.canLay0] using h, by simp [PyData.depth]⟩
  | k + 1, .tup l, h => by
    unfold pl at h
    obtain ⟨ps, q1, q2, q3⟩ := pls_ok (pl_ok k) h
    exact ⟨.tuple ps, by simp [toPy, q1], by simpa [PyData.canLay0] using q2, by simp only [PyData.depth]; omega⟩
  | k + 1, .lst l, h => by
    unfold pl at h
    obtain ⟨ps, q1, q2, q3⟩ := pls_ok (pl_ok k) h
    exact ⟨.list ps, by simp [toPy, q1], by simpa [PyData.canLay0] using q2, by simp only [PyData.depth]; omega⟩
  | 0, .tup l, h => by simp [pl] at h
  | 0, .lst l, h => by simp [pl] at h
  | k, .fls l, h => by cases k <;> simp [pl] at h
  | k, .dct _ l, h => by cases k <;> simp [pl] at h
  | k, .gl l, h => by cases k <;> simp [pl] at h
  | k, .ty l, h => by cases k <;> simp [pl] at h
  | k, .exo _ _ l, h => by cases k <;> simp [pl] at h
theorem pl_shp {k : Nat} {d : D} (h : pl k d = true) (hk : k ≤ 64) : d.shp = true := by
  obtain ⟨p, h1, h2, h3⟩ := pl_ok k d h
  unfold D.shp
  rw [h1]
  show SeqAt.shaped p = true
  unfold SeqAt.shaped
  rw [h2, Bool.true_and]
  exact decide_eq_true (by omega)
theorem pl_eqOk {k : Nat} {d e : D} (h : pl k d = true) (h2 : pl k e = true) (hk : k ≤ 64) : eqOk d e = true := by
  unfold eqOk
  rw [pl_shp h hk, pl_shp h2 hk]
  simp
theorem pl_refl {k : Nat} {d : D} (h : pl k d = true) : deq d d = true := by
  obtain ⟨p, h1, h2, h3⟩ := pl_ok k d h
  unfold deq
  rw [h1]
  exact SeqAt.eqv_refl p h2
theorem eq_self {k : Nat} {d : D} (h : pl k d = true) (hk : k ≤ 64) {neg : Bool} {S : Store} : opEq neg (.d d) (.d d) S = .ok (.d (.bl (!neg))) S := by
  rw [eq_of (pl_eqOk h h hk) (pl_refl h)]
  cases neg <;> rfl
/-- a list and the empty one -/
theorem eq_nil {k : Nat} {l : List D} (h : pl k (.lst l) = true) (hk : k ≤ 64) {neg : Bool} {S : Store} : opEq neg (.d (.lst l)) (.d (.lst [])) S = .ok (.d (.bl (if neg then !l.isEmpty else l.isEmpty))) S := by
  have h0 : pl k (.lst []) = true := by
    cases k with
    | zero => simp [pl] at h
    | succ k => simp [pl]
  refine eq_of (pl_eqOk h h0 hk) ?_
  obtain ⟨p, h1, h2, h3⟩ := pl_ok k _ h
  cases l with
  | nil => rfl
  | cons d l =>
    unfold deq
    rw [h1]
    unfold toPy at h1
    cases q : toPys (d :: l) with
    | none => rw [q] at h1; cases h1
    | some ps =>
      rw [q] at h1
      cases h1
      cases ps with
      | nil =>
        unfold toPys at q
        split at q <;> cases q
      | cons p ps => rfl
theorem toPys_ints : ∀ xs : List Int, toPys (xs.map D.int) = some (xs.map PyData.int)
  | [] => rfl
  | x :: xs => by simp [toPys, toPy, toPys_ints xs]
theorem eqv_ints : ∀ xs ys : List Int, PyData.eqvAll (xs.map PyData.int) (ys.map PyData.int) = decide (xs = ys)
  | [], [] => rfl
  | [], _ :: _ => rfl
  | _ :: _, [] => rfl
  | x :: xs, y :: ys => by
    show (PyData.eqv (.int x) (.int y) && PyData.eqvAll _ _) = _
    rw [eqv_ints xs ys]
    simp [PyData.eqv, beqd]
theorem pl_ints (xs : List Int) : pl 1 (.lst (xs.map D.int)) = true := by
  unfold pl
  simp [pl]
theorem pl_intsT (xs : List Int) : pl 1 (.tup (xs.map D.int)) = true := by
  unfold pl
  simp [pl]
theorem eq_ints {xs ys : List Int} {neg : Bool} {S : Store} : opEq neg (.d (.lst (xs.map D.int))) (.d (.lst (ys.map D.int))) S = .ok (.d (.bl (if neg then !decide (xs = ys) else decide (xs = ys)))) S :=
  eq_of (pl_eqOk (pl_ints xs) (pl_ints ys) (by decide)) (by
    simp only [deq, toPy, toPys_ints]
    exact eqv_ints xs ys)
/-- greatest common divisors, from the left -/
def gF : Nat → List Int → Nat
  | g, [] => g
  | g, x :: r => gF (Nat.gcd g x.natAbs) r
theorem gF_dvd : ∀ (l : List Int) (g : Nat), gF g l ∣ g ∧ ∀ x ∈ l, (gF g l : Int) ∣ x
  | [], g => ⟨Nat.dvd_refl g, fun _ h => nomatch h⟩
  | x :: r, g => by
    obtain ⟨h1, h2⟩ := gF_dvd r (Nat.gcd g x.natAbs)
    refine ⟨Nat.dvd_trans h1 (Nat.gcd_dvd_left _ _), fun y hy => ?_⟩
    rcases List.mem_cons.mp hy with rfl | hy
    · exact Int.ofNat_dvd_left.mpr (Nat.dvd_trans h1 (Nat.gcd_dvd_right _ _))
    · exact h2 y hy
theorem gF_scale {k : Nat} (hk : 0 < k) : ∀ (l : List Int) (g : Nat), gF (k * g) (l.map fun x => (k : Int) * x) = k * gF g l
  | [], g => rfl
  | x :: r, g => by
    show gF (Nat.gcd (k * g) ((k : Int) * x).natAbs) _ = _
    rw [Int.natAbs_mul, Int.natAbs_natCast, Nat.gcd_mul_left, gF_scale hk r]
    rfl
theorem gF_pos : ∀ (l : List Int) (g : Nat), (0 < g ∨ ∃ x ∈ l, x ≠ 0) → 0 < gF g l
  | [], g, h => by
    rcases h with h | ⟨x, h, _⟩
    · exact h
    · cases h
  | x :: r, g, h => by
    refine gF_pos r _ ?_
    rcases h with h | ⟨y, hy, h⟩
    · exact .inl (Nat.gcd_pos_of_pos_left _ h)
    · rcases List.mem_cons.mp hy with rfl | hy
      · exact .inl (Nat.gcd_pos_of_pos_right _ (by omega))
      · exact .inr ⟨y, hy, h⟩
/-- divided by it: the greatest common divisor is 1 -/
theorem gF_div {l : List Int} (h : ∃ x ∈ l, x ≠ 0) : gF 0 (l.map fun x => x / (gF 0 l : Int)) = 1 := by
  have hp := gF_pos l 0 (.inr h)
  have e : (l.map fun x => x / (gF 0 l : Int)).map (fun x => (gF 0 l : Int) * x) = l := by
    rw [List.map_map]
    refine (List.map_congr_left fun x hx => ?_).trans (List.map_id l)
    show (gF 0 l : Int) * (x / (gF 0 l : Int)) = x
    exact Int.mul_ediv_cancel' ((gF_dvd l 0).2 x hx)
  have s := gF_scale hp (l.map fun x => x / (gF 0 l : Int)) 0
  rw [e, Nat.mul_zero] at s
  exact Nat.eq_of_mul_eq_mul_left hp (by omega)
end Y
end
section
/-! Euclid, FRACTIONs, drawn FORMs -/
namespace K15
open PySem PySem.Spec PyProof.Rows L2 Y
theorem fmod_nat (a b : Nat) (h : b ≠ 0) : Int.fmod (a : Int) (b : Int) = ((a % b : Nat) : Int) := by
  rw [Int.fmod_eq_emod_of_nonneg _ (by omega)]
  rfl
theorem euc3 {x y : Option Wt} {b0 : Nat} {S : Store} : ∀ (n low high N : Nat), high ≤ n → n < N → whileN (tBl (eOp opGt (eVar 3) (eC (.int 0)))) (sPar 2 3 (aCons (eVar 3) (aCons (eOp opMod (eB bInt (aCons (eVar 2) (aNil))) (eVar 3)) (aNil)))) N b0 [x, y, some (.d (.int low)), some (.d (.int high))] S
    = .nx [x, y, some (.d (.int (Nat.gcd low high))), some (.d (.int 0))] S
  | n, low, 0, N, h1, h2 => by
    rw [while_turn (by omega)]
    simp
  | 0, low, h + 1, N, h1, h2 => by omega
  | n + 1, low, h + 1, N, h1, h2 => by
    have hm : low % (h + 1) < h + 1 := Nat.mod_lt _ (by omega)
    have ih := euc3 (x := x) (y := y) (b0 := b0) (S := S) n (h + 1) (low % (h + 1)) (N - 1) (by omega) (by omega)
    have hg : Nat.gcd (h + 1) (low % (h + 1)) = Nat.gcd low (h + 1) := by rw [Nat.gcd_comm low, Nat.gcd_rec (h + 1) low, Nat.gcd_comm]
    rw [hg] at ih
    have hf := fmod_nat low (h + 1) (by omega)
    have h0 : ((h + 1 : Nat) : Int) ≠ 0 := by omega
    have h3 : ((h + 1 : Nat) : Int) > 0 := by omega
    rw [while_turn (by omega), ← ih]
    generalize ((h + 1 : Nat) : Int) = z at hf h0 h3 ⊢
    simp [hf, h0, h3]
theorem euc4 {x y w : Option Wt} {b0 : Nat} {S : Store} : ∀ (n low high N : Nat), high ≤ n → n < N → whileN (tBl (eOp opGt (eVar 4) (eC (.int 0)))) (sPar 3 4 (aCons (eVar 4) (aCons (eOp opMod (eB bInt (aCons (eVar 3) (aNil))) (eVar 4)) (aNil)))) N b0 [x, y, w, some (.d (.int low)), some (.d (.int high))] S
    = .nx [x, y, w, some (.d (.int (Nat.gcd low high))), some (.d (.int 0))] S
  | n, low, 0, N, h1, h2 => by
    rw [while_turn (by omega)]
    simp
  | 0, low, h + 1, N, h1, h2 => by omega
  | n + 1, low, h + 1, N, h1, h2 => by
    have hm : low % (h + 1) < h + 1 := Nat.mod_lt _ (by omega)
    have ih := euc4 (x := x) (y := y) (w := w) (b0 := b0) (S := S) n (h + 1) (low % (h + 1)) (N - 1) (by omega) (by omega)
    have hg : Nat.gcd (h + 1) (low % (h + 1)) = Nat.gcd low (h + 1) := by rw [Nat.gcd_comm low, Nat.gcd_rec (h + 1) low, Nat.gcd_comm]
    rw [hg] at ih
    have hf := fmod_nat low (h + 1) (by omega)
    have h0 : ((h + 1 : Nat) : Int) ≠ 0 := by omega
    have h3 : ((h + 1 : Nat) : Int) > 0 := by omega
    rw [while_turn (by omega), ← ih]
    generalize ((h + 1 : Nat) : Int) = z at hf h0 h3 ⊢
    simp [hf, h0, h3]
theorem abs_nat (x : Int) : (if x < 0 then -x else x) = ((x.natAbs : Nat) : Int) := by split <;> omega
theorem fuel_big {n : Nat} (h : n < 100000000000) : n < fuelW := by
  have : fuelW = 1000000000000000000000000000000 := rfl
  omega
/-- the FRACTION of two numbers, the second one above 0, both small -/
theorem ratio_ok {p q : Int} (hq : 0 < q) (h2 : q < 100000000000) {S : Store} : F__law_ratio [.d (.int p), .d (.int q)] S = .ok (.d (.tup [.int (p.fdiv (Nat.gcd p.natAbs q.natAbs : Nat)), .int (q.fdiv (Nat.gcd p.natAbs q.natAbs : Nat))])) S := by
  have e := euc3 (x := some (.d (.int p))) (y := some (.d (.int q))) (b0 := S.length) (S := S) q.natAbs p.natAbs q.natAbs fuelW (Nat.le_refl _) (fuel_big (by omega))
  have hqa : ((q.natAbs : Nat) : Int) = q := by omega
  have hg : 0 < Nat.gcd p.natAbs q.natAbs := Nat.gcd_pos_of_pos_right _ (by omega)
  have hg2 : Nat.gcd p.natAbs q.natAbs ≤ q.natAbs := Nat.gcd_le_right _ (by omega)
  have hl : (Nat.gcd p.natAbs q.natAbs).log2 < 9000 := by
    have : (Nat.gcd p.natAbs q.natAbs).log2 < 64 := (Nat.log2_lt (by omega)).mpr (by omega)
    omega
  rw [hqa] at e
  have hn : ¬ q < 0 := by omega
  unfold F__law_ratio b__law_ratio
  generalize Nat.gcd p.natAbs q.natAbs = g at *
  have g0 : (g : Int) ≠ 0 := by omega
  have gn : g ≠ 0 := by omega
  simp [mkFn_eq, hn, abs_nat, e, gn, hl]
/-- the greatest number that all are multiples of -/
theorem common_ok {xs : List Int} (h : ∀ x ∈ xs, x.natAbs < 1000000000) {S : Store} : F__law_common [.d (.lst (xs.map D.int))] S = .ok (.d (.int (gF 0 xs : Nat))) S := by
  obtain ⟨σ', S', h1, rfl, g, r, a, b, c, hr, rfl, hg, _⟩ := for_run (g := gN 2) (b := S.length) (f := (sSeq (sPar 3 4 (aCons (eB bAbs (aCons (eVar 2) (aNil))) (aCons (eVar 1) (aNil))))
  (sSeq (sWhile fuelW (tBl (eOp opGt (eVar 4) (eC (.int 0))))
  (sPar 3 4 (aCons (eVar 4) (aCons (eOp opMod (eB bInt (aCons (eVar 3) (aNil))) (eVar 4)) (aNil)))))
  (sSet 1 (eVar 3))))) (fun ds σ S' => S' = S ∧ ∃ (g : Nat) (r : List Int) (a b c : Option Wt), ds = r.map D.int ∧ σ = [some (.d (.lst (xs.map D.int))), some (.d (.int g)), a, b, c] ∧ gF g r = gF 0 xs ∧ (∀ x ∈ r, x.natAbs < 1000000000) ∧ g < 1000000000)
    (xs.map D.int) [some (.d (.lst (xs.map D.int))), some (.d (.int 0)), none, none, none] S ⟨rfl, 0, xs, none, none, none, rfl, rfl, rfl, h, by decide⟩ (by
      rintro d ds σ S' ⟨rfl, g, r, a, b, c, hr, rfl, hg, hx, hb⟩
      cases r with
      | nil => cases hr
      | cons x r =>
        cases hr
        have hx0 := hx x (List.mem_cons_self ..)
        have e := euc4 (x := some (.d (.lst (xs.map D.int)))) (y := some (.d (.int g))) (w := some (.d (.int x))) (b0 := S'.length) (S := S') g x.natAbs g fuelW (Nat.le_refl _) (fuel_big (by omega))
        refine ⟨_, S', [some (.d (.lst (xs.map D.int))), some (.d (.int (Nat.gcd x.natAbs g : Nat))), some (.d (.int x)), some (.d (.int (Nat.gcd x.natAbs g : Nat))), some (.d (.int 0))], S', rfl, by simp [abs_nat, e], rfl, Nat.gcd x.natAbs g, r, _, _, _, rfl, rfl, ?_, fun y hy => hx y (List.mem_cons_of_mem _ hy), ?_⟩
        · rw [← hg, Nat.gcd_comm]; rfl
        · by_cases g0 : g = 0
          · subst g0; rw [Nat.gcd_zero_right]; exact hx0
          · exact Nat.lt_of_le_of_lt (Nat.gcd_le_right _ (by omega)) hb)
  have r0 : r = [] := by
    cases r with
    | nil => rfl
    | cons _ _ => cases hr
  subst r0
  have hg : g = gF 0 xs := hg
  subst hg
  unfold F__law_common b__law_common
  simp [mkFn_eq, itemsOf, h1]
/-- a FORM: so many and one more, one that counts, no common divisor, small -/
structure OkF (m : Nat) (f : List Int) : Prop where
  len : f.length = m + 1
  some_ : ∃ x ∈ f.dropLast, x ≠ 0
  gcd : gF 0 f = 1
  small : ∀ x ∈ f, -3 ≤ x ∧ x ≤ 3
theorem all_ints {P : Int → Prop} : ∀ {ys : List D}, (∀ y ∈ ys, ∃ i : Int, y = .int i ∧ P i) → ∃ xs : List Int, ys = xs.map D.int ∧ ∀ x ∈ xs, P x
  | [], _ => ⟨[], rfl, fun _ h => nomatch h⟩
  | y :: ys, h => by
    obtain ⟨i, rfl, hi⟩ := h y (List.mem_cons_self ..)
    obtain ⟨xs, rfl, hx⟩ := all_ints fun z hz => h z (List.mem_cons_of_mem _ hz)
    exact ⟨i :: xs, rfl, fun x hx' => (List.mem_cons.mp hx').elim (fun e => e ▸ hi) (hx x)⟩
theorem div_small {x : Int} {g : Nat} (hg : 0 < g) (h : -3 ≤ x ∧ x ≤ 3) (hd : (g : Int) ∣ x) : -3 ≤ x / (g : Int) ∧ x / (g : Int) ≤ 3 := by
  obtain ⟨k, rfl⟩ := hd
  rw [Int.mul_ediv_cancel_left _ (by omega)]
  have h1 : (1 : Int) ≤ g := by omega
  constructor
  · by_cases hk : k < -3
    · have : (g : Int) * k ≤ 1 * k := Int.mul_le_mul_of_nonpos_right h1 (by omega)
      omega
    · omega
  · by_cases hk : 3 < k
    · have : 1 * k ≤ (g : Int) * k := Int.mul_le_mul_of_nonneg_right h1 (by omega)
      omega
    · omega
theorem form_of {m : Nat} {xs : List Int} (hl : xs.length = m + 1) (hs : ∃ x ∈ xs.dropLast, x ≠ 0) (hb : ∀ x ∈ xs, -3 ≤ x ∧ x ≤ 3) : OkF m (xs.map fun x => x / (gF 0 xs : Int)) := by
  have he : ∃ x ∈ xs, x ≠ 0 := by
    obtain ⟨x, h1, h2⟩ := hs
    exact ⟨x, List.dropLast_subset _ h1, h2⟩
  have hp := gF_pos xs 0 (.inr he)
  have hd := (gF_dvd xs 0).2
  refine ⟨by simp [hl], ?_, gF_div he, fun y hy => ?_⟩
  · obtain ⟨x, h1, h2⟩ := hs
    refine ⟨x / (gF 0 xs : Int), ?_, fun e => h2 ?_⟩
    · rw [← List.map_dropLast]
      exact List.mem_map_of_mem h1
    · have := Int.mul_ediv_cancel' (hd x (List.dropLast_subset _ h1))
      rw [e, Int.mul_zero] at this
      exact this.symm
  · obtain ⟨x, hx, rfl⟩ := List.mem_map.mp hy
    exact div_small hp (hb x hx) (hd x hx)
end K15
end
section
/-! drawn FORMs -/
namespace Y
open PySem PySem.Spec PyProof.Rows L2
theorem cut_init (l : List D) : cutD l none (some (-1)) = l.dropLast := by
  unfold cutD
  rw [HT.sIx_none]
  show (l.drop 0).take ((if (-1 : Int) < 0 then ((-1 : Int) + (l.length : Int)).toNat else min (-1 : Int).toNat l.length) - 0) = _
  rw [if_pos (by decide), List.drop_zero, List.dropLast_eq_take]
  congr 1
  omega
theorem cut_from (l : List D) (k : Nat) : cutD l (some (k : Int)) none = l.drop k := by
  unfold cutD
  rw [HT.sIx_none, HT.sIx_nat]
  by_cases hk : k ≤ l.length
  · rw [Nat.min_eq_left hk, List.take_of_length_le (by simp)]
  · rw [Nat.min_eq_right (by omega), List.drop_eq_nil_of_le (show l.length ≤ k by omega)]
    simp
theorem cut_1 (l : List D) : cutD l (some 1) none = l.tail := by
  rw [← List.drop_one]
  exact cut_from l 1
theorem cut_2 (l : List D) : cutD l (some 2) none = l.drop 2 := cut_from l 2
theorem fdiv_ediv {a b : Int} (h : 0 < b) : a.fdiv b = a / b := Int.fdiv_eq_ediv_of_nonneg _ (Int.le_of_lt h)
end Y
namespace K15
open PySem PySem.Spec PyProof.Rows L2 Y
theorem any_form_ok {n : Nat} {S : Store} (hp : Pl n S) {m : Nat} (h1 : 1 ≤ m) (h5 : m ≤ 5) : ∃ f S', F__law_any_form [.loc n, .d (.int m)] S = .ok (.d (.tup (f.map D.int))) S' ∧ Mv n S S' ∧ OkF m f := by
  obtain ⟨ys, S1, e1, l1, mv, l2, hP⟩ := eLc_run (w := iRng1 (aCons (eOp opAdd (eVar 1) (eC (.int 1))) (aNil))) (g := gN 3) (t := tYs) (e := (eOp opSub (eB F__law_take (aCons (eVar 0) (aCons (eC (.int 7)) (aNil)))) (eC (.int 3)))) (vs := [3])
    (σ := [some (.loc n), some (.d (.int m)), none, none, none]) (S0 := S) (S := S) (ds := rng 0 (m + 1)) (fun S' => Mv n S S') (fun y => ∃ i : Int, y = .int i ∧ (-3 ≤ i ∧ i ≤ 3)) (by
      have := rg1_nat (S := S) (j := m + 1) (by omega)
      simpa using this) hp.mv (by rw [rng_length, lim_eq]; omega) (by
      intro d hd acc S' hl hI
      obtain ⟨r, S'', e, mv, r1, r2⟩ := take_ok (hI.pl.app (T := [.lst acc])) (many := 7) (by decide) (by decide)
      obtain ⟨S5, rfl, mv5⟩ := mv.back hI.pl.lt
      exact ⟨_, .int (r - 3), S5, [], by simp [wipeD]; rfl, by simp, by simp [e], by rw [mv5.length, hl], hI.trans mv5, r - 3, rfl, by omega, by omega⟩)
  obtain ⟨xs, rfl, hx⟩ := all_ints hP
  rw [rng_length, List.length_map] at l2
  -- which ones count
  have e2 : eLc (iVal (eSl opSl (eVar 2) (oNone) (oSome (eUn opNeg (eC (.int 1)))))) (gN 4) (tBl (eOp (opEq true) (eVar 4) (eC (.int 0)))) (eVar 4) [4] [some (.loc n), some (.d (.int m)), some (.d (.lst (xs.map D.int))), none, none] S1 = .ok (.d (.lst (((xs.dropLast.filter fun x => decide (x ≠ 0))).map D.int))) S1 := by
    have := eLc_filter (w := iVal (eSl opSl (eVar 2) (oNone) (oSome (eUn opNeg (eC (.int 1)))))) (g := gN 4) (t := tBl (eOp (opEq true) (eVar 4) (eC (.int 0)))) (e := eVar 4) (vs := [4]) (σ := [some (.loc n), some (.d (.int m)), some (.d (.lst (xs.map D.int))), none, none]) (S := S1) (ds := xs.dropLast.map D.int)
      (fun d => d) (fun d => match d with | .int x => decide (x ≠ 0) | _ => false) (by simp [itemsOf, cut_init, List.map_dropLast]) (by simp [l2]; omega) (by
        intro d hd acc
        obtain ⟨x, hx', rfl⟩ := List.mem_map.mp hd
        exact ⟨_, by simp [wipeD]; rfl, by simp [wipeD], fun _ => by simp [wipeD]⟩)
    rw [this, List.map_id'', List.filter_map]
    · rfl
    · intro x; rfl
  have hd : (D.lst []) = .lst (([] : List Int).map D.int) := rfl
  have key : ∀ zs : List Int, zs.length = m + 1 → (∃ x ∈ zs.dropLast, x ≠ 0) → (∀ x ∈ zs, -3 ≤ x ∧ x ≤ 3) → eLc (iVal (eVar 2)) (gN 4) (tYs) (eOp opFdiv (eVar 4) (eB F__law_common (aCons (eVar 2) (aNil)))) [4] [some (.loc n), some (.d (.int m)), some (.d (.lst (zs.map D.int))), none, none] S1 = .ok (.d (.lst ((zs.map fun x => x / (gF 0 zs : Int)).map D.int))) S1 := by
    intro zs hz hs hb
    have hg : 0 < gF 0 zs := gF_pos zs 0 (.inr (by obtain ⟨x, q1, q2⟩ := hs; exact ⟨x, List.dropLast_subset _ q1, q2⟩))
    have hle : gF 0 zs < 1000 := by
      obtain ⟨x, q1, q2⟩ := hs
      have q1 := List.dropLast_subset _ q1
      have d1 := Int.ofNat_dvd_left.mp ((gF_dvd zs 0).2 x q1)
      have := hb x q1
      exact Nat.lt_of_le_of_lt (Nat.le_of_dvd (by omega) d1) (by omega)
    have hlog : (gF 0 zs).log2 < 9000 := by
      have : (gF 0 zs).log2 < 64 := (Nat.log2_lt (by omega)).mpr (by omega)
      omega
    have := eLc_map (w := iVal (eVar 2)) (g := gN 4) (t := tYs) (e := eOp opFdiv (eVar 4) (eB F__law_common (aCons (eVar 2) (aNil)))) (vs := [4]) (σ := [some (.loc n), some (.d (.int m)), some (.d (.lst (zs.map D.int))), none, none]) (S := S1) (ds := zs.map D.int)
      (fun d => match d with | .int x => .int (x / (gF 0 zs : Int)) | d => d) (by simp [itemsOf]) (by simp [hz]; omega) (by
        intro d hd acc
        obtain ⟨x, hx', rfl⟩ := List.mem_map.mp hd
        have c := common_ok (xs := zs) (fun x hx => by have := hb x hx; omega) (S := S1 ++ [.lst acc])
        have g0 : gF 0 zs ≠ 0 := by omega
        have fd := fdiv_ediv (a := x) (b := (gF 0 zs : Int)) (by omega)
        exact ⟨_, by simp [wipeD]; rfl, by simp, by simp [wipeD, c, g0, hlog, fd]⟩)
    rw [this, List.map_map, List.map_map]
    rfl
  by_cases hc : (xs.dropLast.filter fun x => decide (x ≠ 0)) = []
  · have zl : (1 :: xs.tail).length = m + 1 := by simp [l2]
    have zs : ∃ x ∈ (1 :: xs.tail).dropLast, x ≠ 0 := by
      cases q : xs.tail with
      | nil =>
        have := congrArg List.length q
        simp [l2] at this
        omega
      | cons a r => exact ⟨1, by simp [List.dropLast], by decide⟩
    have zb : ∀ x ∈ (1 :: xs.tail), -3 ≤ x ∧ x ≤ 3 := fun x h => by
      rcases List.mem_cons.mp h with rfl | h
      · omega
      · exact hx x (List.mem_of_mem_tail h)
    have e3 := key _ zl zs zb
    have e4 := eq_ints (xs := xs.dropLast.filter fun x => decide (x ≠ 0)) (ys := []) (neg := true) (S := S1)
    rw [hc] at e4 e2
    have hF := form_of zl zs zb
    generalize ((1 :: xs.tail).map fun x => x / (gF 0 (1 :: xs.tail) : Int)) = F at e3 hF
    rw [List.map_cons, List.map_tail] at e3
    refine ⟨F, S1, ?_, mv, hF⟩
    have k1 : 1 + (xs.length - 1) ≤ 10000000 := by omega
    unfold F__law_any_form b__law_any_form
    simp only [List.map_nil] at e2 e4
    simp [mkFn_eq, e1, e2, e4, cut_1, k1, e3, take_mv mv]
  · have zs : ∃ x ∈ xs.dropLast, x ≠ 0 := by
      cases q : (xs.dropLast.filter fun x => decide (x ≠ 0)) with
      | nil => exact absurd q hc
      | cons a r =>
        have : a ∈ (xs.dropLast.filter fun x => decide (x ≠ 0)) := by rw [q]; exact List.mem_cons_self ..
        rw [List.mem_filter] at this
        exact ⟨a, this.1, of_decide_eq_true this.2⟩
    have e3 := key xs l2 zs hx
    have e4 := eq_ints (xs := xs.dropLast.filter fun x => decide (x ≠ 0)) (ys := []) (neg := true) (S := S1)
    have dc : decide ((xs.dropLast.filter fun x => decide (x ≠ 0)) = []) = false := decide_eq_false hc
    rw [dc] at e4
    refine ⟨_, S1, ?_, mv, form_of l2 zs hx⟩
    unfold F__law_any_form b__law_any_form
    simp only [List.map_nil] at e4
    generalize (xs.dropLast.filter fun x => decide (x ≠ 0)) = fl at e2 e4
    simp [mkFn_eq, e1, e2, e4, e3, take_mv mv]
end K15
end
section
/-! KINKs as data -/
namespace K15
open PySem PySem.Spec PyProof.Rows L2 Y
inductive Nd where
  | cut (f : List Int) (a b : Nat)
  | ln (l : List (Int × Int))
def frD (p : Int × Int) : D := .tup [.int p.1, .int p.2]
def nD : Nd → D
  | .cut f a b => .tup [.str "cut", .tup (f.map D.int), .int a, .int b]
  | .ln l => .tup [.str "line", .tup (l.map frD)]
def onD : Option Nd → D
  | none => .non
  | some x => nD x
def kD (ns : List Nd) : D := .tup (ns.map nD)
def wy : Nd → List Int
  | .cut _ a b => [(a : Int), (b : Int)]
  | .ln _ => []
def owy : Option Nd → List Int
  | none => []
  | some x => wy x
/-- a FRACTION in least terms, small -/
def okP (p : Int × Int) : Bool := decide (-4 ≤ p.1) && decide (p.1 ≤ 4) && (decide (1 ≤ p.2) && decide (p.2 ≤ 3)) && decide (Nat.gcd p.1.natAbs p.2.natAbs = 1)
structure OkL (m : Nat) (l : List (Int × Int)) : Prop where
  len : l.length = m + 1
  each : ∀ p ∈ l, okP p = true
def okN (m i n : Nat) : Nd → Prop
  | .cut f a b => OkF m f ∧ i < a ∧ a < n ∧ i < b ∧ b < n
  | .ln l => OkL m l
def upto (n : Nat) : List Int := (List.range (n - 1)).map fun i => ((i : Nat) : Int) + 1
/-- a KINK that is being drawn; ws: the places that wait -/
structure Wk (m : Nat) (ns : List (Option Nd)) (ws : List Nat) : Prop where
  nd : ws.Nodup
  mem : ∀ k, ns[k]? = some none ↔ k ∈ ws
  each : ∀ i x, ns[i]? = some (some x) → okN m i ns.length x
  perm : (ns.flatMap owy).Perm (upto ns.length)
  root : ∀ f a b, ns[0]? = some (some (.cut f a b)) → a ≤ 2 ∧ b ≤ 2
  zero : ns[0]? = some none → ns.length = 1 ∨ m = 0 ∨ True
theorem flat_set : ∀ {ns : List (Option Nd)} {k : Nat} {x : Nd}, ns[k]? = some none → ((ns.set k (some x)).flatMap owy).Perm (ns.flatMap owy ++ wy x)
  | [], k, x, h => by simp at h
  | o :: ns, 0, x, h => by
    simp at h
    subst h
    simp only [List.set_cons_zero, List.flatMap_cons]
    show (wy x ++ ns.flatMap owy).Perm ([] ++ ns.flatMap owy ++ wy x)
    rw [List.nil_append]
    exact List.perm_append_comm
  | o :: ns, k + 1, x, h => by
    simp only [List.set_cons_succ, List.flatMap_cons, List.append_assoc]
    exact (flat_set (by simpa using h)).append_left _
theorem upto_two {n : Nat} (h : 1 ≤ n) : upto (n + 2) = upto n ++ [(n : Int), ((n + 1 : Nat) : Int)] := by
  obtain ⟨k, rfl⟩ : ∃ k, n = k + 1 := ⟨n - 1, by omega⟩
  unfold upto
  have e : k + 1 + 2 - 1 = k + 2 := by omega
  rw [e, List.range_succ, List.range_succ]
  simp
theorem wk_start (m : Nat) : Wk m [none] [0] := by
  refine ⟨by simp, fun k => ?_, fun i x h => ?_, by simp [owy, upto], fun f a b h => by simp at h, fun _ => .inl rfl⟩
  · cases k with
    | zero => simp
    | succ k => simp
  · cases i with
    | zero => simp at h
    | succ i => simp at h
theorem wk_cut {m : Nat} {ns : List (Option Nd)} {ws : List Nat} (W : Wk m ns ws) (hz : ns[0]? = some none → ns.length = 1) {r k : Nat} (hr : ws[r]? = some k) {f : List Int} (hf : OkF m f) {a b : Nat} (hab : (a = ns.length ∧ b = ns.length + 1) ∨ (a = ns.length + 1 ∧ b = ns.length)) :
    Wk m ((ns.set k (some (.cut f a b))) ++ [none, none]) (ws.eraseIdx r ++ [ns.length, ns.length + 1]) := by
  have hk : ns[k]? = some none := (W.mem k).mpr (List.mem_of_getElem? hr)
  have hkl : k < ns.length := (List.getElem?_eq_some_iff.mp hk).1
  have below : ∀ j ∈ ws, j < ns.length := fun j hj => (List.getElem?_eq_some_iff.mp ((W.mem j).mpr hj)).1
  have hrl := (List.getElem?_eq_some_iff.mp hr).1
  have memE : ∀ j, j ∈ ws.eraseIdx r ↔ j ∈ ws ∧ j ≠ k := by
    intro j
    have hre := (List.getElem?_eq_some_iff.mp hr).2
    rw [List.mem_eraseIdx_iff_getElem]
    constructor
    · rintro ⟨i, hi, hir, e⟩
      subst e
      refine ⟨List.getElem_mem _, fun q => hir ?_⟩
      rw [← hre] at q
      exact (List.getElem_inj W.nd).mp q
    · rintro ⟨hj, hjk⟩
      obtain ⟨i, hi, rfl⟩ := List.mem_iff_getElem.mp hj
      refine ⟨i, hi, fun q => hjk ?_, rfl⟩
      subst q
      exact hre
  have len' : ((ns.set k (some (.cut f a b))) ++ [none, none]).length = ns.length + 2 := by simp
  have at_ : ∀ i, i < ns.length → ((ns.set k (some (.cut f a b))) ++ [none, none])[i]? = if i = k then some (some (.cut f a b)) else ns[i]? := by
    intro i hi
    rw [List.getElem?_append_left (by simpa using hi)]
    by_cases h : i = k
    · subst h
      rw [if_pos rfl, List.getElem?_set_self hi]
    · rw [if_neg h, List.getElem?_set_ne (Ne.symm h)]
  have at2 : ∀ i, ns.length ≤ i → ((ns.set k (some (.cut f a b))) ++ [none, none])[i]? = if i = ns.length ∨ i = ns.length + 1 then some none else none := by
    intro i hi
    rw [List.getElem?_append_right (by simpa using hi)]
    simp only [List.length_set]
    by_cases h1 : i = ns.length
    · subst h1; simp
    · by_cases h2 : i = ns.length + 1
      · subst h2; simp
      · rw [if_neg (by omega), List.getElem?_eq_none (by simp; omega)]
  refine ⟨?_, fun i => ?_, fun i x h => ?_, ?_, fun f' a' b' h => ?_, fun _ => .inr (.inr trivial)⟩
  · rw [List.nodup_append]
    refine ⟨W.nd.sublist (List.eraseIdx_sublist ..), by simp, fun j hj j' hj' e => ?_⟩
    subst e
    have := below j ((memE j).mp hj).1
    simp at hj'
    omega
  · by_cases hi : i < ns.length
    · rw [at_ i hi, List.mem_append, memE]
      by_cases h : i = k
      · subst h
        simp
        omega
      · rw [if_neg h, W.mem i]
        simp [h]
        intro q
        omega
    · rw [at2 i (by omega), List.mem_append, memE]
      constructor
      · intro h
        split at h
        · right; simpa using ‹_›
        · cases h
      · rintro (⟨h, _⟩ | h)
        · have := below i h; omega
        · rw [if_pos (by simpa using h)]
  · rw [len']
    by_cases hi : i < ns.length
    · rw [at_ i hi] at h
      by_cases h2 : i = k
      · rw [if_pos h2] at h
        cases h
        exact ⟨hf, by omega, by omega, by omega, by omega⟩
      · rw [if_neg h2] at h
        have := W.each i x h
        cases x with
        | cut f' a' b' =>
          obtain ⟨q1, q2, q3, q4, q5⟩ := this
          exact ⟨q1, q2, by omega, q4, by omega⟩
        | ln l => exact this
    · rw [at2 i (by omega)] at h
      split at h <;> cases h
  · rw [len', upto_two (by omega), List.flatMap_append]
    have p1 := (flat_set (x := .cut f a b) hk).trans (W.perm.append_right _)
    have p2 : ([none, none] : List (Option Nd)).flatMap owy = [] := rfl
    rw [p2, List.append_nil]
    refine p1.trans (List.Perm.append_left _ ?_)
    show [(a : Int), (b : Int)].Perm _
    rcases hab with ⟨rfl, rfl⟩ | ⟨rfl, rfl⟩
    · exact .refl _
    · exact .swap _ _ _
  · have h0 : 0 < ns.length := by omega
    rw [at_ 0 h0] at h
    by_cases h2 : 0 = k
    · rw [if_pos h2] at h
      subst h2
      have := hz hk
      cases h
      omega
    · rw [if_neg h2] at h
      exact W.root f' a' b' h
theorem wk_ln {m : Nat} {ns : List (Option Nd)} {k : Nat} {ws : List Nat} (W : Wk m ns (k :: ws)) {l : List (Int × Int)} (hl : OkL m l) : Wk m (ns.set k (some (.ln l))) ws := by
  have hk : ns[k]? = some none := (W.mem k).mpr (List.mem_cons_self ..)
  have hkl : k < ns.length := (List.getElem?_eq_some_iff.mp hk).1
  have nd := List.nodup_cons.mp W.nd
  have at_ : ∀ i, (ns.set k (some (.ln l)))[i]? = if i = k then some (some (.ln l)) else ns[i]? := by
    intro i
    by_cases h : i = k
    · subst h
      rw [if_pos rfl, List.getElem?_set_self hkl]
    · rw [if_neg h, List.getElem?_set_ne (Ne.symm h)]
  refine ⟨nd.2, fun i => ?_, fun i x h => ?_, ?_, fun f' a' b' h => ?_, fun _ => .inr (.inr trivial)⟩
  · rw [at_ i]
    by_cases h : i = k
    · subst h
      simp [nd.1]
    · rw [if_neg h, W.mem i, List.mem_cons]
      simp [h]
  · rw [at_ i] at h
    rw [List.length_set]
    by_cases h2 : i = k
    · rw [if_pos h2] at h
      cases h
      exact hl
    · rw [if_neg h2] at h
      exact W.each i x h
  · rw [List.length_set]
    refine (flat_set hk).trans ?_
    show (ns.flatMap owy ++ []).Perm _
    rw [List.append_nil]
    exact W.perm
  · rw [at_ 0] at h
    by_cases h2 : 0 = k
    · rw [if_pos h2] at h
      cases h
    · rw [if_neg h2] at h
      exact W.root f' a' b' h
/-- a KINK -/
structure Kk (m : Nat) (ns : List Nd) : Prop where
  pos : ns ≠ []
  each : ∀ i x, ns[i]? = some x → okN m i ns.length x
  perm : (ns.flatMap wy).Perm (upto ns.length)
  root : ∀ f a b, ns[0]? = some (.cut f a b) → a ≤ 2 ∧ b ≤ 2
theorem kk_of {m : Nat} {ns : List (Option Nd)} (W : Wk m ns []) (hp : ns ≠ []) : ∃ xs : List Nd, ns = xs.map some ∧ Kk m xs := by
  have all : ∀ o ∈ ns, ∃ x, o = some x := fun o ho => by
    cases o with
    | some x => exact ⟨x, rfl⟩
    | none =>
      obtain ⟨i, hi⟩ := List.mem_iff_getElem?.mp ho
      exact absurd ((W.mem i).mp hi) (by simp)
  have : ∃ xs : List Nd, ns = xs.map some := by
    clear W hp
    induction ns with
    | nil => exact ⟨[], rfl⟩
    | cons o ns ih =>
      obtain ⟨x, rfl⟩ := all o (List.mem_cons_self ..)
      obtain ⟨xs, rfl⟩ := ih fun o ho => all o (List.mem_cons_of_mem _ ho)
      exact ⟨x :: xs, rfl⟩
  obtain ⟨xs, rfl⟩ := this
  refine ⟨xs, rfl, fun e => hp (by rw [e]; rfl), fun i x h => ?_, ?_, fun f a b h => ?_⟩
  · have := W.each i x (by rw [List.getElem?_map, h]; rfl)
    rwa [List.length_map] at this
  · have := W.perm
    rw [List.length_map, List.flatMap_map] at this
    exact this
  · exact W.root f a b (by rw [List.getElem?_map, h]; rfl)
end K15
end
section
/-! drawn KINKs -/
namespace Y
open PySem PySem.Spec PyProof.Rows L2
theorem ixN_nat {n k : Nat} (h : k < n) : ixN n (k : Int) = some k := by
  unfold ixN
  rw [if_pos (by omega), if_pos (by omega)]
  rfl
theorem catL_loc {S : Store} {N : Nat} {l l' : List D} (e : S[N]? = some (.lst l)) (h : l.length + l'.length ≤ 10000000) : opCatL (.loc N) (.d (.lst l')) S = .ok (.loc S.length) (S ++ [.lst (l ++ l')]) := by
  simp [opCatL, deref, e, cellD, h]
theorem pop_loc {S : Store} {N k : Nat} {l : List D} {d : D} {i : Int} (e : S[N]? = some (.lst l)) (hk : ixN l.length i = some k) (hd : l[k]? = some d) : mPopAt (.loc N) [.d (.int i)] S = .ok (.d d) (S.set N (.lst (l.eraseIdx k))) := by
  simp [mPopAt, e, popAtC, hk, hd]
theorem map_erase {α β : Type} (f : α → β) : ∀ (l : List α) (k : Nat), (l.map f).eraseIdx k = (l.eraseIdx k).map f
  | [], _ => rfl
  | a :: l, 0 => rfl
  | a :: l, k + 1 => by simp [map_erase f l k]
theorem app_at {S T : Store} {B i : Nat} (h : S.length = B) : (S ++ T)[B + i]? = T[i]? := by
  rw [List.getElem?_append_right (by omega)]
  congr 1
  omega
theorem app_set {S T : Store} {B i : Nat} {c : Cell} (h : S.length = B) : (S ++ T).set (B + i) c = S ++ T.set i c := by
  rw [List.set_append_right _ _ (by omega)]
  congr 2
  omega
end Y
namespace K15
open PySem PySem.Spec PyProof.Rows L2 Y
def natD (k : Nat) : D := .int (k : Int)
theorem cat2 {n : Nat} {m cuts : Nat} {d k : Wt} {N1 N2 b : Nat} {A B : List D} {x y : Int} {S : Store} (e1 : S[N1]? = some (.lst A)) (e2 : S[N2]? = some (.lst B)) (h1 : A.length ≤ 1000000) (h2 : B.length ≤ 1000000) :
    sPar 3 4 (aCons (eOp opCatL (eVar 3) (eLst (aCons (eC .non) (aCons (eC .non) (aNil))))) (aCons (eOp opCatL (eVar 4) (eLst (aCons (eVar 7) (aCons (eVar 8) (aNil))))) (aNil))) b [some (.loc n), some (.d (.int m)), some (.d (.int cuts)), some (.loc N1), some (.loc N2), some d, some k, some (.d (.int x)), some (.d (.int y)), none] S =
      .nx [some (.loc n), some (.d (.int m)), some (.d (.int cuts)), some (.loc S.length), some (.loc (S.length + 1)), some d, some k, some (.d (.int x)), some (.d (.int y)), none] (S ++ [.lst (A ++ [.non, .non]), .lst (B ++ [.int x, .int y])]) := by
  have q1 := catL_loc (l' := [.non, .non]) e1 (by simp; omega)
  have q2 := catL_loc (S := S ++ [.lst (A ++ [.non, .non])]) (N := N2) (l := B) (l' := [.int x, .int y]) (by rw [List.getElem?_append_left (List.getElem?_eq_some_iff.mp e2).1]; exact e2) (by simp; omega)
  simp [q1, q2]
theorem ratio_small : ∀ i < 9, ∀ j < 3, okP ((((i : Nat) : Int) - 4).fdiv (Nat.gcd (((i : Nat) : Int) - 4).natAbs (1 + ((j : Nat) : Int)).natAbs : Nat), (1 + ((j : Nat) : Int)).fdiv (Nat.gcd (((i : Nat) : Int) - 4).natAbs (1 + ((j : Nat) : Int)).natAbs : Nat)) = true := by decide +kernel
theorem all_frs : ∀ {ys : List D}, (∀ y ∈ ys, ∃ p, y = frD p ∧ okP p = true) → ∃ xs : List (Int × Int), ys = xs.map frD ∧ ∀ x ∈ xs, okP x = true
  | [], _ => ⟨[], rfl, fun _ h => nomatch h⟩
  | y :: ys, h => by
    obtain ⟨i, rfl, hi⟩ := h y (List.mem_cons_self ..)
    obtain ⟨xs, rfl, hx⟩ := all_frs fun z hz => h z (List.mem_cons_of_mem _ hz)
    exact ⟨i :: xs, rfl, fun x hx' => (List.mem_cons.mp hx').elim (fun e => e ▸ hi) (hx x)⟩
theorem any_kink_ok {n : Nat} {S : Store} (hp : Pl n S) {m : Nat} (hm : m ≤ 5) {cuts : Nat} (hc : cuts ≤ 100) : ∃ ns S', F__law_any_kink [.loc n, .d (.int m), .d (.int cuts)] S = .ok (.d (kD ns)) S' ∧ Mv n S S' ∧ Kk m ns ∧ ns.length ≤ 2 * cuts + 1 := by
  -- the cuts
  obtain ⟨σ1, Sa, h1, S1, T, ns, ws, i1, i2, d5, d6, d7, d8, rfl, mv1, c1, c2, hi, rfl, W, hws, hwl, hz, hm1, hlen⟩ := for_run (g := gN 5) (b := S.length) (f := (sSeq (sSet 6 (eM isLst mPopAt (eVar 4) (aCons (eB F__law_take (aCons (eVar 0) (aCons (eB bLen (aCons (eVar 4) (aNil))) (aNil)))) aNil)))
  (sSeq (sPar 7 8 (aCons (eB bLen (aCons (eVar 3) (aNil))) (aCons (eOp opAdd (eB bLen (aCons (eVar 3) (aNil))) (eC (.int 1))) (aNil))))
  (sSeq (sAsg (gSb (eVar 3) (eVar 6)) (eOp opAdd (eTup (aCons (eC (.str "cut")) (aCons (eB F__law_any_form (aCons (eVar 0) (aCons (eVar 1) (aNil)))) (aNil)))) (eIf (tBl (eOp (opEq false) (eB F__law_take (aCons (eVar 0) (aCons (eC (.int 2)) (aNil)))) (eC (.int 0)))) (eTup (aCons (eVar 7) (aCons (eVar 8) (aNil)))) (eTup (aCons (eVar 8) (aCons (eVar 7) (aNil)))))))
  (sPar 3 4 (aCons (eOp opCatL (eVar 3) (eLst (aCons (eC .non) (aCons (eC .non) (aNil))))) (aCons (eOp opCatL (eVar 4) (eLst (aCons (eVar 7) (aCons (eVar 8) (aNil))))) (aNil)))))))) (fun ds σ S' => ∃ (S1 T : Store) (ns : List (Option Nd)) (ws : List Nat) (i1 i2 : Nat) (d5 d6 d7 d8 : Option Wt), S' = S1 ++ T ∧ Mv n S S1 ∧ T[i1]? = some (.lst (ns.map onD)) ∧ T[i2]? = some (.lst (ws.map natD)) ∧ i1 ≠ i2 ∧
      σ = [some (.loc n), some (.d (.int m)), some (.d (.int cuts)), some (.loc (S.length + i1)), some (.loc (S.length + i2)), d5, d6, d7, d8, none] ∧ Wk m ns ws ∧ ws ≠ [] ∧ ws.length ≤ ns.length ∧ (ns[0]? = some none → ns.length = 1) ∧ (0 < ds.length → 1 ≤ m) ∧ ns.length + 2 * ds.length ≤ 2 * cuts + 1)
    (rng 0 (if 0 < m then cuts else 0)) [some (.loc n), some (.d (.int m)), some (.d (.int cuts)), some (.loc S.length), some (.loc (S.length + 1)), none, none, none, none, none] (S ++ [.lst [.non]] ++ [.lst [.int 0]])
    ⟨S, [.lst [.non], .lst [.int 0]], [none], [0], 0, 1, none, none, none, none, by simp, hp.mv, rfl, rfl, by decide, rfl, wk_start m, by simp, by simp, fun _ => rfl, by rw [rng_length]; split <;> omega, by rw [rng_length]; simp; split <;> omega⟩ (by
      rintro d ds σ S' ⟨S1, T, ns, ws, i1, i2, d5, d6, d7, d8, rfl, mv, c1, c2, hi, rfl, W, hws, hwl, hz, hm1, hlen⟩
      have hm1 := hm1 (by simp)
      have lS1 := mv.length
      have lT1 := (List.getElem?_eq_some_iff.mp c1).1
      have lT2 := (List.getElem?_eq_some_iff.mp c2).1
      have hw0 : 0 < ws.length := List.length_pos_iff.mpr hws
      rw [List.length_cons] at hlen
      obtain ⟨r, S'', e1, mvr, r1, r2⟩ := take_ok (mv.pl.app (T := T)) (many := ws.length) (by omega) (by omega)
      obtain ⟨S2, rfl, mv2⟩ := mvr.back mv.pl.lt
      have lS2 : S2.length = S.length := by rw [mv2.length, lS1]
      obtain ⟨q, rfl⟩ : ∃ q : Nat, r = (q : Int) := ⟨r.toNat, by omega⟩
      have hq : q < ws.length := by omega
      have b1 : bLen [.loc (S.length + i2)] (S1 ++ T) = .ok (.d (.int ws.length)) (S1 ++ T) := by
        rw [len_loc (by rw [app_at lS1]; exact c2), List.length_map]
      have il : isLst (.loc (S.length + i2)) (S1 ++ T) = true := isLst_loc (by rw [app_at lS1]; exact c2)
      have pp : mPopAt (.loc (S.length + i2)) [.d (.int q)] (S2 ++ T) = .ok (.d (natD ws[q])) (S2 ++ T.set i2 (.lst ((ws.eraseIdx q).map natD))) := by
        rw [pop_loc (k := q) (d := natD ws[q]) (by rw [app_at lS2]; exact c2) (by rw [List.length_map]; exact ixN_nat hq) (by rw [List.getElem?_map, List.getElem?_eq_getElem hq]; rfl), app_set lS2, map_erase]
      generalize hT1 : T.set i2 (.lst ((ws.eraseIdx q).map natD)) = T1 at pp
      have c1' : T1[i1]? = some (.lst (ns.map onD)) := by rw [← hT1, List.getElem?_set_ne (Ne.symm hi)]; exact c1
      have c2' : T1[i2]? = some (.lst ((ws.eraseIdx q).map natD)) := by rw [← hT1, List.getElem?_set_self lT2]
      have b2 : bLen [.loc (S.length + i1)] (S2 ++ T1) = .ok (.d (.int ns.length)) (S2 ++ T1) := by
        rw [len_loc (by rw [app_at lS2]; exact c1'), List.length_map]
      have mv02 := mv.trans mv2
      obtain ⟨f, S3', e3, mw3, hf⟩ := any_form_ok (mv02.pl.app (T := T1)) hm1 hm
      obtain ⟨S3, rfl, mv3⟩ := mw3.back mv02.pl.lt
      have mv03 := mv02.trans mv3
      have lS3 : S3.length = S.length := mv03.length
      obtain ⟨r', S4', e4, mw4, _, _⟩ := take_ok (mv03.pl.app (T := T1)) (many := 2) (by decide) (by decide)
      obtain ⟨S4, rfl, mv4⟩ := mw4.back mv03.pl.lt
      have mv04 := mv03.trans mv4
      have lS4 : S4.length = S.length := mv04.length
      have hk : ns[ws[q]]? = some none := (W.mem _).mpr (List.getElem_mem hq)
      have hkl := (List.getElem?_eq_some_iff.mp hk).1
      have lT1' := (List.getElem?_eq_some_iff.mp c1').1
      have st : ∀ a b : Nat, setC (.loc (S.length + i1)) (.d (natD ws[q])) (.d (.tup [.str "cut", .tup (f.map D.int), natD a, natD b])) (S4 ++ T1) = .ok () (S4 ++ T1.set i1 (.lst ((ns.set ws[q] (some (.cut f a b))).map onD))) := by
        intro a b
        show setC (.loc (S.length + i1)) (.d (.int (ws[q] : Nat))) _ _ = _
        rw [set_loc (j := ws[q]) (by rw [app_at lS4]; exact c1') (by rw [List.length_map]; exact ixN_nat hkl), app_set lS4, List.map_set]
        rfl
      have fin : ∀ a b : Nat, ((a = ns.length ∧ b = ns.length + 1) ∨ (a = ns.length + 1 ∧ b = ns.length)) → ∀ σ', σ' = [some (.loc n), some (.d (.int m)), some (.d (.int cuts)), some (.loc (S.length + i1)), some (.loc (S.length + i2)), some (.d d), some (.d (natD ws[q])), some (.d (.int ns.length)), some (.d (.int (ns.length + 1))), none] →
          ∃ σ2 S2, sPar 3 4 (aCons (eOp opCatL (eVar 3) (eLst (aCons (eC .non) (aCons (eC .non) (aNil))))) (aCons (eOp opCatL (eVar 4) (eLst (aCons (eVar 7) (aCons (eVar 8) (aNil))))) (aNil))) S.length σ' (S4 ++ T1.set i1 (.lst ((ns.set ws[q] (some (.cut f a b))).map onD))) = .nx σ2 S2 ∧
          ∃ (S1 T : Store) (ns : List (Option Nd)) (ws : List Nat) (i1 i2 : Nat) (d5 d6 d7 d8 : Option Wt), S2 = S1 ++ T ∧ Mv n S S1 ∧ T[i1]? = some (.lst (ns.map onD)) ∧ T[i2]? = some (.lst (ws.map natD)) ∧ i1 ≠ i2 ∧
      σ2 = [some (.loc n), some (.d (.int m)), some (.d (.int cuts)), some (.loc (S.length + i1)), some (.loc (S.length + i2)), d5, d6, d7, d8, none] ∧ Wk m ns ws ∧ ws ≠ [] ∧ ws.length ≤ ns.length ∧ (ns[0]? = some none → ns.length = 1) ∧ (0 < ds.length → 1 ≤ m) ∧ ns.length + 2 * ds.length ≤ 2 * cuts + 1 := by
        intro a b hab σ' hσ
        subst hσ
        generalize hT2 : T1.set i1 (.lst ((ns.set ws[q] (some (.cut f a b))).map onD)) = T2
        have k1 : T2[i1]? = some (.lst ((ns.set ws[q] (some (.cut f a b))).map onD)) := by rw [← hT2, List.getElem?_set_self lT1']
        have k2 : T2[i2]? = some (.lst ((ws.eraseIdx q).map natD)) := by rw [← hT2, List.getElem?_set_ne hi]; exact c2'
        have k2l := (List.getElem?_eq_some_iff.mp k2).1
        have ele : (ws.eraseIdx q).length ≤ ws.length := (List.eraseIdx_sublist ..).length_le
        have W2 := wk_cut W hz (List.getElem?_eq_getElem hq) hf hab
        refine ⟨_, _, cat2 (by rw [app_at lS4]; exact k1) (by rw [app_at lS4]; exact k2) (by simp; omega) (by rw [List.length_map]; exact Nat.le_trans ele (by omega)), S4, T2 ++ [.lst ((ns.set ws[q] (some (.cut f a b))).map onD ++ [.non, .non]), .lst ((ws.eraseIdx q).map natD ++ [.int ns.length, .int (ns.length + 1)])], _, _, T2.length, T2.length + 1, some (.d d), some (.d (natD ws[q])), some (.d (.int ns.length)), some (.d (.int (ns.length + 1))), by simp, mv04, ?_, ?_, by omega, ?_, W2, by simp, ?_, ?_, fun _ => hm1, ?_⟩
        · rw [List.getElem?_append_right (by omega), Nat.sub_self]
          simp [onD]
        · rw [List.getElem?_append_right (by omega)]
          simp [natD]
        · simp [lS4]
          omega
        · have : (ws.eraseIdx q).length = ws.length - 1 := List.length_eraseIdx_of_lt hq
          simp [this]
          omega
        · intro h0
          exfalso
          rw [List.getElem?_append_left (by simp; omega)] at h0
          by_cases e0 : ws[q] = 0
          · rw [e0, List.getElem?_set_self (by omega)] at h0
            cases h0
          · rw [List.getElem?_set_ne e0] at h0
            have := hz h0
            omega
        · simp
          omega
      have ha : sSet 6 (eM isLst mPopAt (eVar 4) (aCons (eB F__law_take (aCons (eVar 0) (aCons (eB bLen (aCons (eVar 4) (aNil))) (aNil)))) aNil)) S.length [some (.loc n), some (.d (.int m)), some (.d (.int cuts)), some (.loc (S.length + i1)), some (.loc (S.length + i2)), some (.d d), d6, d7, d8, none] (S1 ++ T) =
          .nx [some (.loc n), some (.d (.int m)), some (.d (.int cuts)), some (.loc (S.length + i1)), some (.loc (S.length + i2)), some (.d d), some (.d (natD ws[q])), d7, d8, none] (S2 ++ T1) := by
        simp [il, b1, e1, pp]
      have hb : sPar 7 8 (aCons (eB bLen (aCons (eVar 3) (aNil))) (aCons (eOp opAdd (eB bLen (aCons (eVar 3) (aNil))) (eC (.int 1))) (aNil))) S.length [some (.loc n), some (.d (.int m)), some (.d (.int cuts)), some (.loc (S.length + i1)), some (.loc (S.length + i2)), some (.d d), some (.d (natD ws[q])), d7, d8, none] (S2 ++ T1) =
          .nx [some (.loc n), some (.d (.int m)), some (.d (.int cuts)), some (.loc (S.length + i1)), some (.loc (S.length + i2)), some (.d d), some (.d (natD ws[q])), some (.d (.int ns.length)), some (.d (.int (ns.length + 1))), none] (S2 ++ T1) := by
        simp [b2]
      have hg : gN 5 (.d d) [some (.loc n), some (.d (.int m)), some (.d (.int cuts)), some (.loc (S.length + i1)), some (.loc (S.length + i2)), d5, d6, d7, d8, none] (S1 ++ T) = .ok [some (.loc n), some (.d (.int m)), some (.d (.int cuts)), some (.loc (S.length + i1)), some (.loc (S.length + i2)), some (.d d), d6, d7, d8, none] (S1 ++ T) := rfl
      by_cases h0 : r' = 0
      · obtain ⟨σ2, S2', q1, q2⟩ := fin ns.length (ns.length + 1) (.inl ⟨rfl, rfl⟩) _ rfl
        have st' : setC (.loc (S.length + i1)) (.d (natD ws[q])) (.d (.tup [.str "cut", .tup (f.map D.int), .int ns.length, .int (ns.length + 1)])) (S4 ++ T1) = _ := st ns.length (ns.length + 1)
        generalize T1.set i1 (.lst ((ns.set ws[q] (some (.cut f ns.length (ns.length + 1)))).map onD)) = T2 at st' q1
        refine ⟨_, _, σ2, S2', hg, ?_, q2⟩
        have hcc : sAsg (gSb (eVar 3) (eVar 6)) (eOp opAdd (eTup (aCons (eC (.str "cut")) (aCons (eB F__law_any_form (aCons (eVar 0) (aCons (eVar 1) (aNil)))) (aNil)))) (eIf (tBl (eOp (opEq false) (eB F__law_take (aCons (eVar 0) (aCons (eC (.int 2)) (aNil)))) (eC (.int 0)))) (eTup (aCons (eVar 7) (aCons (eVar 8) (aNil)))) (eTup (aCons (eVar 8) (aCons (eVar 7) (aNil)))))) S.length [some (.loc n), some (.d (.int m)), some (.d (.int cuts)), some (.loc (S.length + i1)), some (.loc (S.length + i2)), some (.d d), some (.d (natD ws[q])), some (.d (.int ns.length)), some (.d (.int (ns.length + 1))), none] (S2 ++ T1) =
            .nx [some (.loc n), some (.d (.int m)), some (.d (.int cuts)), some (.loc (S.length + i1)), some (.loc (S.length + i2)), some (.d d), some (.d (natD ws[q])), some (.d (.int ns.length)), some (.d (.int (ns.length + 1))), none] (S4 ++ T2) := by
          simp [e3, e4, h0, st']
        simp only [sSeq_ap, ha, hb, hcc, q1]
      · obtain ⟨σ2, S2', q1, q2⟩ := fin (ns.length + 1) ns.length (.inr ⟨rfl, rfl⟩) _ rfl
        have st' : setC (.loc (S.length + i1)) (.d (natD ws[q])) (.d (.tup [.str "cut", .tup (f.map D.int), .int (ns.length + 1), .int ns.length])) (S4 ++ T1) = _ := st (ns.length + 1) ns.length
        generalize T1.set i1 (.lst ((ns.set ws[q] (some (.cut f (ns.length + 1) ns.length))).map onD)) = T2 at st' q1
        refine ⟨_, _, σ2, S2', hg, ?_, q2⟩
        have hcc : sAsg (gSb (eVar 3) (eVar 6)) (eOp opAdd (eTup (aCons (eC (.str "cut")) (aCons (eB F__law_any_form (aCons (eVar 0) (aCons (eVar 1) (aNil)))) (aNil)))) (eIf (tBl (eOp (opEq false) (eB F__law_take (aCons (eVar 0) (aCons (eC (.int 2)) (aNil)))) (eC (.int 0)))) (eTup (aCons (eVar 7) (aCons (eVar 8) (aNil)))) (eTup (aCons (eVar 8) (aCons (eVar 7) (aNil)))))) S.length [some (.loc n), some (.d (.int m)), some (.d (.int cuts)), some (.loc (S.length + i1)), some (.loc (S.length + i2)), some (.d d), some (.d (natD ws[q])), some (.d (.int ns.length)), some (.d (.int (ns.length + 1))), none] (S2 ++ T1) =
            .nx [some (.loc n), some (.d (.int m)), some (.d (.int cuts)), some (.loc (S.length + i1)), some (.loc (S.length + i2)), some (.d d), some (.d (natD ws[q])), some (.d (.int ns.length)), some (.d (.int (ns.length + 1))), none] (S4 ++ T2) := by
          simp [e3, e4, h0, st']
        simp only [sSeq_ap, ha, hb, hcc, q1])
  -- the lines
  have lS1 := mv1.length
  have lT2 := (List.getElem?_eq_some_iff.mp c2).1
  have hnl : ns.length ≤ 2 * cuts + 1 := by simpa using hlen
  have hne : ns ≠ [] := by
    intro e
    subst e
    cases ws with
    | nil => exact hws rfl
    | cons k r => exact absurd ((W.mem k).mpr (List.mem_cons_self ..)) (by simp)
  obtain ⟨σ3, Sb, h3, S5, T5, ms, us, c5, hus, d6', rfl, rfl, mv5, W5, hl5, hne5⟩ := for_run (g := gN 6) (b := S.length) (f := (sAsg (gSb (eVar 3) (eVar 6)) (eTup (aCons (eC (.str "line")) (aCons (eB bTuple (aCons (eLc (iRng1 (aCons (eOp opAdd (eVar 1) (eC (.int 1))) (aNil))) (gN 9) (tYs) (eB F__law_ratio (aCons (eOp opSub (eB F__law_take (aCons (eVar 0) (aCons (eC (.int 9)) (aNil)))) (eC (.int 4))) (aCons (eOp opAdd (eC (.int 1)) (eB F__law_take (aCons (eVar 0) (aCons (eC (.int 3)) (aNil))))) (aNil)))) [9]) (aNil))) (aNil))))))
    (fun ds σ S' => ∃ (S5 T5 : Store) (ms : List (Option Nd)) (us : List Nat), T5[i1]? = some (.lst (ms.map onD)) ∧ ds = us.map natD ∧ ∃ d6 : Option Wt, σ = [some (.loc n), some (.d (.int m)), some (.d (.int cuts)), some (.loc (S.length + i1)), some (.loc (S.length + i2)), d5, d6, d7, d8, none] ∧ S' = S5 ++ T5 ∧ Mv n S S5 ∧ Wk m ms us ∧ ms.length = ns.length ∧ ms ≠ [])
    (ws.map natD) [some (.loc n), some (.d (.int m)), some (.d (.int cuts)), some (.loc (S.length + i1)), some (.loc (S.length + i2)), d5, d6, d7, d8, none] (S1 ++ T.set i2 (.frz (.lst (ws.map natD)))) ⟨S1, _, ns, ws, by rw [List.getElem?_set_ne (Ne.symm hi)]; exact c1, rfl, d6, rfl, rfl, mv1, W, rfl, hne⟩ (by
      rintro d ds σ S' ⟨S5, T5, ms, us, c5, hus, d6', rfl, rfl, mv5, W5, hl5, hne5⟩
      cases us with
      | nil => cases hus
      | cons k us =>
        cases hus
        have lS5 := mv5.length
        have lT5 := (List.getElem?_eq_some_iff.mp c5).1
        obtain ⟨ys, S6', e1, l1, mw, l2, hP⟩ := eLc_run (w := iRng1 (aCons (eOp opAdd (eVar 1) (eC (.int 1))) (aNil))) (g := gN 9) (t := tYs) (e := (eB F__law_ratio (aCons (eOp opSub (eB F__law_take (aCons (eVar 0) (aCons (eC (.int 9)) (aNil)))) (eC (.int 4))) (aCons (eOp opAdd (eC (.int 1)) (eB F__law_take (aCons (eVar 0) (aCons (eC (.int 3)) (aNil))))) (aNil))))) (vs := [9])
          (σ := [some (.loc n), some (.d (.int m)), some (.d (.int cuts)), some (.loc (S.length + i1)), some (.loc (S.length + i2)), d5, some (.d (natD k)), d7, d8, none]) (S0 := S5 ++ T5) (S := S5 ++ T5) (ds := rng 0 (m + 1)) (fun S' => Mv n (S5 ++ T5) S') (fun y => ∃ p, y = frD p ∧ okP p = true) (by
            have := rg1_nat (S := S5 ++ T5) (j := m + 1) (by omega)
            simpa using this) (mv5.pl.app (T := T5)).mv (by rw [rng_length, lim_eq]; omega) (by
            intro d hd acc S' hl hI
            obtain ⟨r, S'', e, mv, r1, r2⟩ := take_ok (hI.pl.app (T := [.lst acc])) (many := 9) (by decide) (by decide)
            obtain ⟨S7, rfl, mv7⟩ := mv.back hI.pl.lt
            have mv07 := hI.trans mv7
            obtain ⟨r', S8', e', mv', r1', r2'⟩ := take_ok (mv07.pl.app (T := [.lst acc])) (many := 3) (by decide) (by decide)
            obtain ⟨S8, rfl, mv8⟩ := mv'.back mv07.pl.lt
            obtain ⟨i, rfl⟩ : ∃ i : Nat, r = (i : Int) := ⟨r.toNat, by omega⟩
            obtain ⟨j, rfl⟩ : ∃ j : Nat, r' = (j : Int) := ⟨r'.toNat, by omega⟩
            have rt := ratio_ok (p := (i : Int) - 4) (q := 1 + (j : Int)) (by omega) (by omega) (S := S8 ++ [.lst acc])
            exact ⟨_, _, S8, [], by simp [wipeD]; rfl, by simp, by simp only [eB_ap, aCons_ap, eOp_ap, eVar_ap, eC_ap, aNil_ap, ok_bind, wipeD, List.getElem?_cons_zero, List.set_cons_zero, List.set_cons_succ, e, Y.sub_int, Y.add_int, e', rt]; rfl, by rw [mv8.length, mv7.length, hl], mv07.trans mv8, (_, _), rfl, ratio_small i (by omega) j (by omega)⟩)
        obtain ⟨S6, rfl, mv6⟩ := mw.back mv5.pl.lt
        obtain ⟨xs, rfl, hx⟩ := all_frs hP
        rw [rng_length, List.length_map] at l2
        have mv06 := mv5.trans mv6
        have lS6 := mv06.length
        have hk : ms[k]? = some none := (W5.mem _).mpr (List.mem_cons_self ..)
        have hkl := (List.getElem?_eq_some_iff.mp hk).1
        have st : setC (.loc (S.length + i1)) (.d (natD k)) (.d (.tup [.str "line", .tup (xs.map frD)])) (S6 ++ T5) = .ok () (S6 ++ T5.set i1 (.lst ((ms.set k (some (.ln xs))).map onD))) := by
          show setC (.loc (S.length + i1)) (.d (.int (k : Nat))) _ _ = _
          rw [set_loc (j := k) (by rw [app_at lS6]; exact c5) (by rw [List.length_map]; exact ixN_nat hkl), app_set lS6, List.map_set]
          rfl
        refine ⟨_, _, [some (.loc n), some (.d (.int m)), some (.d (.int cuts)), some (.loc (S.length + i1)), some (.loc (S.length + i2)), d5, some (.d (natD k)), d7, d8, none], _, rfl, ?_, S6, T5.set i1 (.lst ((ms.set k (some (.ln xs))).map onD)), ms.set k (some (.ln xs)), us, by rw [List.getElem?_set_self lT5], rfl, _, rfl, rfl, mv06, wk_ln W5 ⟨l2, hx⟩, by simpa using hl5, by simpa using hne5⟩
        generalize T5.set i1 (.lst ((ms.set k (some (.ln xs))).map onD)) = T6 at st
        simp [e1, st])
  have hus' : us = [] := by
    cases us with
    | nil => rfl
    | cons _ _ => cases hus
  subst hus'
  obtain ⟨xs, rfl, K⟩ := kk_of W5 hne5
  have lS5 := mv5.length
  refine ⟨xs, S5, ?_, mv5, K, by rw [List.length_map] at hl5; omega⟩
  have hx : (xs.map some).map onD = xs.map nD := by rw [List.map_map]; rfl
  rw [hx] at c5
  have tl := tuple_loc (S := S5 ++ T5) (N := S.length + i1) (l := xs.map nD) (by rw [app_at lS5]; exact c5)
  have iv : iVal (eVar 4) [some (.loc n), some (.d (.int m)), some (.d (.int cuts)), some (.loc (S.length + i1)), some (.loc (S.length + i2)), d5, d6, d7, d8, none] (S1 ++ T) = .ok (ws.map natD) (S1 ++ T.set i2 (.frz (.lst (ws.map natD)))) := by
    have e2 : (S1 ++ T)[S.length + i2]? = some (.lst (ws.map natD)) := by rw [app_at lS1]; exact c2
    simp [fz1, e2, fzC, app_set lS1, itemsOf]
  have r1 : iRng1 (aCons (eIf (tBl (eOp opGt (eVar 1) (eC (.int 0)))) (eVar 2) (eC (.int 0))) (aNil)) [some (.loc n), some (.d (.int m)), some (.d (.int cuts)), some (.loc S.length), some (.loc (S.length + 1)), none, none, none, none, none] (S ++ [.lst [.non]] ++ [.lst [.int 0]]) = .ok (rng 0 (if 0 < m then cuts else 0)) (S ++ [.lst [.non]] ++ [.lst [.int 0]]) := by
    by_cases h : 0 < m
    · have := rg1_nat (S := S ++ ([.lst [.non]] ++ [.lst [.int 0]])) (j := cuts) (by omega)
      simp [h]
      simpa using this
    · have := rg1_nat (S := S ++ ([.lst [.non]] ++ [.lst [.int 0]])) (j := 0) (by omega)
      simp [h]
      simpa using this
  have p1 : sPar 3 4 (aCons (eLstL (aCons (eC .non) (aNil))) (aCons (eLstL (aCons (eC (.int 0)) (aNil))) (aNil))) S.length [some (.loc n), some (.d (.int m)), some (.d (.int cuts)), none, none, none, none, none, none, none] S = .nx [some (.loc n), some (.d (.int m)), some (.d (.int cuts)), some (.loc S.length), some (.loc (S.length + 1)), none, none, none, none, none] (S ++ [.lst [.non]] ++ [.lst [.int 0]]) := by
    simp
  have rt : sRet (eB bTuple (aCons (eVar 3) (aNil))) S.length [some (.loc n), some (.d (.int m)), some (.d (.int cuts)), some (.loc (S.length + i1)), some (.loc (S.length + i2)), d5, d6', d7, d8, none] (S5 ++ T5) = .rt (.d (kD xs)) (S5 ++ T5) := by
    simp [tl, kD]
  have tk : (S5 ++ T5).take S.length = S5 := by rw [← lS5]; simp
  unfold F__law_any_kink b__law_any_kink
  rw [mkFn_eq]
  refine (if_pos (by rfl)).trans ?_
  show finish S.length (sSeq _ _ S.length [some (.loc n), some (.d (.int m)), some (.d (.int cuts)), none, none, none, none, none, none, none] S) = _
  simp only [sSeq_ap, p1, sFor_ap, r1, ok_toS, h1, iv, h3, rt, fin_d, tk]
end K15
end
section
/-! is_kink_by -/
namespace K15
open PySem PySem.Spec PyProof.Rows L2 Y
theorem whole_int {i : Int} {S : Store} : F_is_whole [.d (.int i)] S = .ok (.d (.bl true)) S := by
  unfold F_is_whole b_is_whole
  simp [mkFn_eq]
theorem tuple_of {l : List D} {n : Int} {S : Store} : F_is_tuple_of [.d (.tup l), .d (.int n)] S = .ok (.d (.bl (decide ((l.length : Int) = n)))) S := by
  unfold F_is_tuple_of b_is_tuple_of
  simp [mkFn_eq]
theorem between_int {x lo hi : Int} {S : Store} : F_is_between [.d (.int x), .d (.int lo), .d (.int hi)] S = .ok (.d (.bl (decide (lo ≤ x ∧ x ≤ hi)))) S := by
  unfold F_is_between b_is_between
  by_cases h : lo ≤ x
  · simp [mkFn_eq, whole_int, h]
  · simp [mkFn_eq, whole_int, h]
theorem frac_ok {p : Int × Int} (h : okP p = true) {S : Store} : F_is_fraction_by [.d (frD p)] S = .ok (.d (.bl true)) S := by
  unfold okP at h
  simp only [Bool.and_eq_true, decide_eq_true_eq] at h
  obtain ⟨⟨⟨h1, h2⟩, h3, h4⟩, h5⟩ := h
  have h0 : ¬ p.2 ≤ 0 := by omega
  have t2 := tuple_of (l := [.int p.1, .int p.2]) (n := 2) (S := S)
  unfold F_is_fraction_by b_is_fraction_by
  simp [mkFn_eq, frD, t2, whole_int, h0, h5]
theorem fracs_ok {l : List (Int × Int)} (h : ∀ p ∈ l, okP p = true) (hl : l.length ≤ 1000) {v1 : Option Wt} {S : Store} : eLc (iVal (eVar 0)) (gN 2) (tYs) (eB F_is_fraction_by (aCons (eVar 2) (aNil))) [2] [some (.d (.tup (l.map frD))), v1, none] S = .ok (.d (.lst ((l.map frD).map fun _ => .bl true))) S := by
  refine eLc_map _ (by simp [itemsOf]) (by simp; omega) ?_
  intro d hd acc
  obtain ⟨p, hp, rfl⟩ := List.mem_map.mp hd
  exact ⟨_, by simp [wipeD]; rfl, by simp, by simp [wipeD, frac_ok (h p hp)]⟩
theorem line_ok {m : Nat} {l : List (Int × Int)} (h : OkL m l) (hm : m ≤ 100) {S : Store} : F_is_line [.d (.tup (l.map frD)), .d (.int m)] S = .ok (.d (.bl true)) S := by
  have t := tuple_of (l := l.map frD) (n := (m : Int) + 1) (S := S)
  have d : decide ((((l.map frD).length : Nat) : Int) = (m : Int) + 1) = true := by rw [List.length_map, h.len]; simp
  rw [d] at t
  have f := fracs_ok h.each (by rw [h.len]; omega) (v1 := some (.d (.int m))) (S := S)
  have ha := all_ok (l := (l.map frD).map fun _ => .bl true) (S := S) (fun d h => by obtain ⟨_, _, rfl⟩ := List.mem_map.mp h; rfl)
  unfold F_is_line b_is_line
  generalize l.map frD = L at *
  simp [mkFn_eq, t, f, ha]
theorem line_no {m : Nat} {l : List D} (h : l.length ≠ m + 1) {S : Store} : F_is_line [.d (.tup l), .d (.int m)] S = .ok (.d (.bl false)) S := by
  have t := tuple_of (l := l) (n := (m : Int) + 1) (S := S)
  have d : decide ((((l).length : Nat) : Int) = (m : Int) + 1) = false := decide_eq_false (by omega)
  rw [d] at t
  unfold F_is_line b_is_line
  simp [mkFn_eq, t]
theorem in_nought {x : Int} {S : Store} : opIn false (.d (.int x)) (.d (.tup [.int 0, K_NOUGHT])) S = .ok (.d (.bl (decide (x = 0)))) S := by
  have h1 : inOk (.int x) [.int 0, K_NOUGHT] = true := by
    unfold inOk
    have a : (D.int x).shp = true := pl_shp (k := 0) rfl (by decide)
    have b : (D.tup [.int 0, K_NOUGHT]).shp = true := pl_shp (k := 2) rfl (by decide)
    rw [a, b]
    simp
  have h2 : inSeq (.int x) [.int 0, K_NOUGHT] = decide (x = 0) := by
    unfold inSeq
    have : deq K_NOUGHT (.int x) = false := rfl
    simp [deq_int, this, eq_comm]
  simp [opIn, h1, h2]
theorem const_ok {f : List Int} (hl : f.length ≤ 1000) {S : Store} : F_is_constant [.d (.tup (f.map D.int))] S = .ok (.d (.bl (f.dropLast.all fun x => decide (x = 0)))) S := by
  have e : eLc (iVal (eSl opSl (eVar 0) (oNone) (oSome (eUn opNeg (eC (.int 1)))))) (gN 1) (tYs) (eOp (opIn false) (eVar 1) (eTup (aCons (eC (.int 0)) (aCons (eC K_NOUGHT) (aNil))))) [1] [some (.d (.tup (f.map D.int))), none] S = .ok (.d (.lst (f.dropLast.map fun x => .bl (decide (x = 0))))) S := by
    have := eLc_map (w := iVal (eSl opSl (eVar 0) (oNone) (oSome (eUn opNeg (eC (.int 1)))))) (g := gN 1) (t := tYs) (e := (eOp (opIn false) (eVar 1) (eTup (aCons (eC (.int 0)) (aCons (eC K_NOUGHT) (aNil)))))) (vs := [1]) (σ := [some (.d (.tup (f.map D.int))), none]) (S := S) (ds := f.dropLast.map D.int)
      (fun d => match d with | .int x => .bl (decide (x = 0)) | d => d) (by simp [itemsOf, cut_init, List.map_dropLast]) (by simp; omega) (by
        intro d hd acc
        obtain ⟨x, hx', rfl⟩ := List.mem_map.mp hd
        exact ⟨_, by simp [wipeD]; rfl, by simp, by simp [wipeD, in_nought]⟩)
    rw [this, List.map_map]
    rfl
  have ha := all_map (l := f.dropLast) (q := fun x => decide (x = 0)) (S := S)
  unfold F_is_constant b_is_constant
  generalize (f.dropLast.map fun x => D.bl (decide (x = 0))) = L at e ha
  generalize (f.dropLast.all fun x => decide (x = 0)) = b at ha ⊢
  simp [mkFn_eq, e, ha]
theorem commonp_ok {xs : List Int} {S : Store} : F_common_of [.d (.tup (xs.map D.int))] S = .ok (.d (.int (if gF 0 xs = 0 then 1 else gF 0 xs : Nat))) S := by
  obtain ⟨σ', S', h1, rfl, g, r, a, hr, rfl, hg⟩ := for_run (g := gN 2) (b := S.length) (f := (sSet 1 (eB bGcd (aCons (eVar 1) (aCons (eVar 2) (aNil)))))) (fun ds σ S' => S' = S ∧ ∃ (g : Nat) (r : List Int) (a : Option Wt), ds = r.map D.int ∧ σ = [some (.d (.tup (xs.map D.int))), some (.d (.int g)), a] ∧ gF g r = gF 0 xs)
    (xs.map D.int) [some (.d (.tup (xs.map D.int))), some (.d (.int 0)), none] S ⟨rfl, 0, xs, none, rfl, rfl, rfl⟩ (by
      rintro d ds σ S' ⟨rfl, g, r, a, hr, rfl, hg⟩
      cases r with
      | nil => cases hr
      | cons x r =>
        cases hr
        exact ⟨_, S', [some (.d (.tup (xs.map D.int))), some (.d (.int (Nat.gcd g x.natAbs : Nat))), some (.d (.int x))], S', rfl, by simp, rfl, Nat.gcd g x.natAbs, r, _, rfl, rfl, hg⟩)
  have r0 : r = [] := by
    cases r with
    | nil => rfl
    | cons _ _ => cases hr
  subst r0
  have hg : g = gF 0 xs := hg
  subst hg
  unfold F_common_of b_common_of
  by_cases h : gF 0 xs = 0
  · simp [mkFn_eq, itemsOf, h1, h]
  · have h2 : 0 < gF 0 xs := by omega
    simp [mkFn_eq, itemsOf, h1, h, h2]
theorem wholes_ok {f : List Int} (hl : f.length ≤ 1000) {v1 : Option Wt} {S : Store} : eLc (iVal (eVar 0)) (gN 2) (tYs) (eB F_is_whole (aCons (eVar 2) (aNil))) [2] [some (.d (.tup (f.map D.int))), v1, none] S = .ok (.d (.lst ((f.map D.int).map fun _ => .bl true))) S := by
  refine eLc_map _ (by simp [itemsOf]) (by simp; omega) ?_
  intro d hd acc
  obtain ⟨x, hp, rfl⟩ := List.mem_map.mp hd
  exact ⟨_, by simp [wipeD]; rfl, by simp, by simp [wipeD, whole_int]⟩
theorem form_gen {m : Nat} {f : List Int} (hl : f.length = m + 1) (hm : m ≤ 100) {S : Store} : F_is_form [.d (.tup (f.map D.int)), .d (.int m)] S = .ok (.d (.bl (!(f.dropLast.all fun x => decide (x = 0)) && decide ((if gF 0 f = 0 then 1 else gF 0 f) = 1)))) S := by
  have t := tuple_of (l := f.map D.int) (n := (m : Int) + 1) (S := S)
  have d : decide ((((f.map D.int).length : Nat) : Int) = (m : Int) + 1) = true := by rw [List.length_map, hl]; simp
  rw [d] at t
  have w := wholes_ok (f := f) (by omega) (v1 := some (.d (.int m))) (S := S)
  have ha := all_ok (l := (f.map D.int).map fun _ => .bl true) (S := S) (by simp)
  have c1 := const_ok (f := f) (by omega) (S := S)
  have c2 := commonp_ok (xs := f) (S := S)
  generalize hG : (if gF 0 f = 0 then 1 else gF 0 f) = G at *
  generalize (f.dropLast.all fun x => decide (x = 0)) = b at *
  unfold F_is_form b_is_form
  generalize f.map D.int = L at *
  have hG1 : decide ((G : Int) = 1) = decide (G = 1) := by
    by_cases h : G = 1
    · subst h; rfl
    · rw [decide_eq_false h, decide_eq_false (by omega)]
  cases b <;> simp [mkFn_eq, t, w, ha, c1, c2, hG1]
theorem form_ok {m : Nat} {f : List Int} (h : OkF m f) (hm : m ≤ 100) {S : Store} : F_is_form [.d (.tup (f.map D.int)), .d (.int m)] S = .ok (.d (.bl true)) S := by
  rw [form_gen h.len hm, h.gcd]
  have : (f.dropLast.all fun x => decide (x = 0)) = false := by
    obtain ⟨x, h1, h2⟩ := h.some_
    exact List.all_eq_false.mpr ⟨x, h1, by simpa using h2⟩
  rw [this]
  rfl
theorem form_no {m : Nat} {f : List Int} (hl : f.length = m + 1) (h : ∀ x ∈ f, x = 0) (hm : m ≤ 100) {S : Store} : F_is_form [.d (.tup (f.map D.int)), .d (.int m)] S = .ok (.d (.bl false)) S := by
  rw [form_gen hl hm]
  have : (f.dropLast.all fun x => decide (x = 0)) = true := List.all_eq_true.mpr fun x hx => decide_eq_true (h x (List.dropLast_subset _ hx))
  rw [this]
  rfl
/-- a node, judged -/
def NV (m i n : Nat) (d : D) (b : Bool) : Prop := ∀ S, F_is_node [.d d, .d (.int m), .d (.int i), .d (.int n)] S = .ok (.d (.bl b)) S
theorem nv_ln {m i n : Nat} {l : List (Int × Int)} (h : OkL m l) (hm : m ≤ 100) : NV m i n (nD (.ln l)) true := fun S => by
  have t := tuple_of (l := [.str "line", .tup (l.map frD)]) (n := 2) (S := S)
  have k := line_ok h hm (S := S)
  unfold F_is_node b_is_node
  simp only [nD]
  generalize l.map frD = L at *
  simp [mkFn_eq, t, k, K_LINE]
theorem str_ne1 : (("cut" : Str) = "line") = False := by simp; decide
theorem nv_cut {m i n : Nat} {f : List Int} {a b : Nat} (h : OkF m f) (hm : m ≤ 100) : NV m i n (nD (.cut f a b)) (decide ((i : Int) + 1 ≤ a ∧ (a : Int) ≤ (n : Int) - 1) && decide ((i : Int) + 1 ≤ b ∧ (b : Int) ≤ (n : Int) - 1)) := fun S => by
  have t2 := tuple_of (l := [.str "cut", .tup (f.map D.int), .int a, .int b]) (n := 2) (S := S)
  have t4 := tuple_of (l := [.str "cut", .tup (f.map D.int), .int a, .int b]) (n := 4) (S := S)
  have k := form_ok h hm (S := S)
  have e : eLc (iVal (eSl opSl (eVar 0) (oSome (eC (.int 2))) (oNone))) (gN 4) (tYs) (eB F_is_between (aCons (eVar 4) (aCons (eOp opAdd (eVar 2) (eC (.int 1))) (aCons (eOp opSub (eVar 3) (eC (.int 1))) (aNil))))) [4]
      [some (.d (.tup [.str "cut", .tup (f.map D.int), .int a, .int b])), some (.d (.int m)), some (.d (.int i)), some (.d (.int n)), none] S = .ok (.d (.lst ([a, b].map fun (x : Nat) => .bl (decide ((i : Int) + 1 ≤ x ∧ (x : Int) ≤ (n : Int) - 1))))) S := by
    have := eLc_map (w := iVal (eSl opSl (eVar 0) (oSome (eC (.int 2))) (oNone))) (g := gN 4) (t := tYs) (e := (eB F_is_between (aCons (eVar 4) (aCons (eOp opAdd (eVar 2) (eC (.int 1))) (aCons (eOp opSub (eVar 3) (eC (.int 1))) (aNil)))))) (vs := [4])
      (σ := [some (.d (.tup [.str "cut", .tup (f.map D.int), .int a, .int b])), some (.d (.int m)), some (.d (.int i)), some (.d (.int n)), none]) (S := S) (ds := [.int a, .int b])
      (fun d => match d with | .int x => .bl (decide ((i : Int) + 1 ≤ x ∧ x ≤ (n : Int) - 1)) | d => d) (by simp [itemsOf, cut_2]) (by simp) (by
        intro d hd acc
        simp only [List.mem_cons, List.not_mem_nil, or_false] at hd
        rcases hd with rfl | rfl
        · exact ⟨_, by simp [wipeD]; rfl, by simp, by simp [wipeD, between_int]⟩
        · exact ⟨_, by simp [wipeD]; rfl, by simp, by simp [wipeD, between_int]⟩)
    rw [this]
    rfl
  have ha := all_map (l := [a, b]) (q := fun x => decide ((i : Int) + 1 ≤ (x : Nat) ∧ ((x : Nat) : Int) ≤ (n : Int) - 1)) (S := S)
  have ea : [a, b].all (fun x => decide ((i : Int) + 1 ≤ (x : Nat) ∧ ((x : Nat) : Int) ≤ (n : Int) - 1)) = (decide ((i : Int) + 1 ≤ a ∧ (a : Int) ≤ (n : Int) - 1) && decide ((i : Int) + 1 ≤ b ∧ (b : Int) ≤ (n : Int) - 1)) := by simp
  rw [ea] at ha
  unfold F_is_node b_is_node
  simp only [nD]
  generalize f.map D.int = L at *
  generalize ([a, b].map fun (x : Nat) => D.bl (decide ((i : Int) + 1 ≤ x ∧ (x : Int) ≤ (n : Int) - 1))) = M at e ha
  generalize (decide ((i : Int) + 1 ≤ a ∧ (a : Int) ≤ (n : Int) - 1) && decide ((i : Int) + 1 ≤ b ∧ (b : Int) ≤ (n : Int) - 1)) = c at ha ⊢
  simp [mkFn_eq, t2, t4, k, K_LINE, K_CUT, e, ha]
theorem nv_good {m i n : Nat} {x : Nd} (h : okN m i n x) (hm : m ≤ 100) : NV m i n (nD x) true := by
  cases x with
  | ln l => exact nv_ln h hm
  | cut f a b =>
    obtain ⟨h1, h2, h3, h4, h5⟩ := h
    have := nv_cut (i := i) (n := n) (a := a) (b := b) h1 hm
    rw [decide_eq_true (by omega), decide_eq_true (by omega)] at this
    exact this
end K15
end
section
/-! is_kink_by, whole -/
namespace K15
open PySem PySem.Spec PyProof.Rows L2 Y
theorem num_get : ∀ (l : List D) (k i : Nat), (Y.numbered k l)[i]? = (l[i]?).map fun d => .tup [.int ((k + i : Nat) : Int), d]
  | [], k, i => by simp [Y.numbered]
  | d :: l, k, 0 => by simp [Y.numbered]
  | d :: l, k, i + 1 => by
    show (Y.numbered (k + 1) l)[i]? = _
    rw [num_get l (k + 1) i]
    simp only [List.getElem?_cons_succ]
    rw [show k + 1 + i = k + (i + 1) by omega]
theorem nodes_lc {ds : List D} {m : Nat} {bs : List Bool} (hl : bs.length = ds.length) (h : ∀ i d, ds[i]? = some d → NV m i ds.length d (bs.getD i false)) (h2 : ds.length ≤ 1000) {S : Store} :
    eLc (iEnu (aCons (eVar 0) (aNil))) (gT 2 (gN1 (gN 2) (gN1 (gN 3) (gN0)))) (tYs) (eB F_is_node (aCons (eVar 3) (aCons (eVar 1) (aCons (eVar 2) (aCons (eB bLen (aCons (eVar 0) (aNil))) (aNil)))))) [2, 3] [some (.d (.tup ds)), some (.d (.int m)), none, none] S = .ok (.d (.lst (bs.map D.bl))) S := by
  have := eLc_map (w := iEnu (aCons (eVar 0) (aNil))) (g := gT 2 (gN1 (gN 2) (gN1 (gN 3) (gN0)))) (t := tYs) (e := (eB F_is_node (aCons (eVar 3) (aCons (eVar 1) (aCons (eVar 2) (aCons (eB bLen (aCons (eVar 0) (aNil))) (aNil))))))) (vs := [2, 3])
    (σ := [some (.d (.tup ds)), some (.d (.int m)), none, none]) (S := S) (ds := Y.numbered 0 ds) (fun d => match d with | .tup [.int i, _] => .bl (bs.getD i.toNat false) | d => d) (by simp [iEnu, optE]) (by rw [numbered_len, lim_eq]; omega) (by
      intro d hd acc
      obtain ⟨i, hi⟩ := List.mem_iff_getElem?.mp hd
      rw [num_get] at hi
      cases q : ds[i]? with
      | none => rw [q] at hi; cases hi
      | some x =>
        rw [q] at hi
        have hi : some _ = some d := hi
        obtain rfl := Option.some.inj hi
        have nv := h i x q (S ++ [.lst acc])
        rw [Nat.zero_add]
        exact ⟨_, by simp [wipeD]; rfl, by simp, by simp [wipeD, nv]⟩)
  rw [this]
  congr 2
  congr 1
  refine List.ext_getElem? fun i => ?_
  rw [List.getElem?_map, num_get, List.getElem?_map]
  cases q : ds[i]? with
  | none =>
    have : bs[i]? = none := by
      rw [List.getElem?_eq_none_iff] at q ⊢
      omega
    rw [this]
    rfl
  | some x =>
    have hi := (List.getElem?_eq_some_iff.mp q).1
    have e : bs[i]? = some (bs.getD i false) := by
      rw [List.getD_eq_getElem?_getD, List.getElem?_eq_getElem (by omega)]
      rfl
    rw [e]
    simp
theorem kb_false {ds : List D} {m : Nat} {bs : List Bool} (hl : bs.length = ds.length) (h : ∀ i d, ds[i]? = some d → NV m i ds.length d (bs.getD i false)) (h1 : 1 ≤ ds.length) (h2 : ds.length ≤ 1000) (hf : false ∈ bs) {S : Store} :
    F_is_kink_by [.d (.tup ds), .d (.int m)] S = .ok (.d (.bl false)) S := by
  have e := nodes_lc hl h h2 (S := S)
  have ha := all_map (l := bs) (q := fun b => b) (S := S)
  have hb : bs.all (fun b => b) = false := List.all_eq_false.mpr ⟨false, hf, by simp⟩
  rw [hb] at ha
  have k1 : (1 : Int) ≤ ds.length := by omega
  have k2 : (ds.length : Int) ≤ 20001 := by omega
  unfold F_is_kink_by b_is_kink_by
  change bAll [.d (.lst (bs.map D.bl))] S = _ at ha
  generalize bs.map D.bl = L at e ha
  simp [mkFn_eq, K_MOST_NODES, k1, k2, e, ha]
theorem kb_nil {m : Nat} {S : Store} : F_is_kink_by [.d (.tup []), .d (.int m)] S = .ok (.d (.bl false)) S := by
  unfold F_is_kink_by b_is_kink_by
  simp [mkFn_eq, K_MOST_NODES]
theorem asInts_map : ∀ xs : List Int, asInts (xs.map D.int) = some xs
  | [] => rfl
  | x :: xs => by simp [asInts, asInts_map xs]
theorem ways_ok {ns : List Nd} (hl : (ns.flatMap wy).length ≤ 10000000) {S : Store} : F_ways_told [.d (kD ns)] S = .ok (.d (.lst ((ns.flatMap wy).map D.int))) S := by
  have := eLc2_flat (w := iVal (eVar 0)) (g := gN 1) (t := tBl (eOp (opEq false) (eOp opIx (eVar 1) (eC (.int 0))) (eC K_CUT))) (w1 := iVal (eSl opSl (eVar 1) (oSome (eC (.int 2))) (oNone))) (g1 := gN 2) (t1 := tYs) (e := eVar 2) (vs := [1, 2]) (vs1 := [2])
    (σ := [some (.d (kD ns)), none, none]) (S := S) (ds := ns.map nD) (fun d => match d with | .tup (_ :: _ :: a) => a | _ => []) (by simp [kD, itemsOf]) (by
      have : (ns.map nD).flatMap (fun d => match d with | .tup (_ :: _ :: a) => a | _ => []) = (ns.flatMap wy).map D.int := by
        rw [List.flatMap_map, List.map_flatMap]
        congr 1
        funext x
        cases x <;> rfl
      rw [this, List.length_map]
      exact hl) (by
      intro d hd acc
      obtain ⟨x, hx, rfl⟩ := List.mem_map.mp hd
      cases x with
      | ln l => exact ⟨_, by simp [wipeD]; rfl, .inl ⟨by simp [wipeD, nD, K_CUT]; decide, rfl⟩⟩
      | cut f a b =>
        refine ⟨_, by simp [wipeD]; rfl, .inr ⟨by simp [wipeD, nD, K_CUT], [.int a, .int b], fun d => d, by simp [wipeD, nD, itemsOf, cut_2], rfl, fun d1 hd1 acc2 => ?_⟩⟩
        exact ⟨_, by simp [wipeD]; rfl, by simp, by simp [wipeD]⟩)
  have e2 : (ns.map nD).flatMap (fun d => match d with | .tup (_ :: _ :: a) => a | _ => []) = (ns.flatMap wy).map D.int := by
    rw [List.flatMap_map, List.map_flatMap]
    congr 1
    funext x
    cases x <;> rfl
  rw [e2] at this
  unfold F_ways_told b_ways_told
  simp [mkFn_eq, this]
theorem upto_rng (n : Nat) : rng 1 (n - 1) = (upto n).map D.int := by
  unfold rng upto
  rw [List.map_map]
  refine List.map_congr_left fun i _ => ?_
  show D.int (1 + (i : Int)) = D.int ((i : Int) + 1)
  rw [Int.add_comm]
theorem kb_ways {ns : List Nd} {m : Nat} (h : ∀ i x, ns[i]? = some x → NV m i ns.length (nD x) true) (h1 : 1 ≤ ns.length) (h2 : ns.length ≤ 1000) {S : Store} :
    F_is_kink_by [.d (kD ns), .d (.int m)] S = .ok (.d (.bl (decide (isort (ns.flatMap wy) = upto ns.length)))) S := by
  have e := nodes_lc (ds := ns.map nD) (m := m) (bs := ns.map fun _ => true) (by simp) (fun i d q => by
    rw [List.getElem?_map] at q
    cases q2 : ns[i]? with
    | none => rw [q2] at q; cases q
    | some x =>
      rw [q2] at q
      have q : some (nD x) = some d := q
      obtain rfl := Option.some.inj q
      have : (ns.map fun _ => true).getD i false = true := by
        rw [List.getD_eq_getElem?_getD, List.getElem?_map, q2]
        rfl
      rw [this, List.length_map]
      exact h i x q2) (by rw [List.length_map]; exact h2) (S := S)
  have ha := all_map (l := ns.map fun _ => true) (q := fun b => b) (S := S)
  have hb : (ns.map fun _ => true).all (fun b => b) = true := by simp
  rw [hb] at ha
  have hw : (ns.flatMap wy).length ≤ 2 * ns.length := by
    clear e ha hb h h1 h2
    induction ns with
    | nil => simp
    | cons x ns ih =>
      rw [List.flatMap_cons, List.length_append, List.length_cons]
      have : (wy x).length ≤ 2 := by cases x <;> simp [wy]
      omega
  have w := ways_ok (ns := ns) (by omega) (S := S)
  have k1 : (1 : Int) ≤ ns.length := by omega
  have k2 : (ns.length : Int) ≤ 20001 := by omega
  have so : bSorted [.d (.lst ((ns.flatMap wy).map D.int))] S = .ok (.d (.lst ((isort (ns.flatMap wy)).map D.int))) S := bLst_ok (asInts_map _)
  have rg : ∀ σ : Ev, σ = [some (.d (kD ns)), some (.d (.int m)), none, none] → eRgK kLst (eC (.int 1)) (eB bLen (aCons (eVar 0) (aNil))) σ S = .ok (.d (.lst ((upto ns.length).map D.int))) S := by
    rintro σ rfl
    have ht : ((ns.length : Int) - 1).toNat = ns.length - 1 := by omega
    have ok : rgOk 1 (ns.length : Int) = true := by
      unfold rgOk
      exact decide_eq_true ⟨by omega, by omega, by omega, by omega, by omega⟩
    rw [← upto_rng, ← ht]
    simp [eRgK, rgA, rgB, rgS, ok, kD, kLst]
  have eq := eq_ints (xs := isort (ns.flatMap wy)) (ys := upto ns.length) (neg := false) (S := S)
  unfold F_is_kink_by b_is_kink_by
  change bAll [.d (.lst ((ns.map fun _ => true).map D.bl))] S = _ at ha
  generalize (ns.map fun _ => true).map D.bl = L at e ha
  have lk : ∀ S, bLen [.d (kD ns)] S = .ok (.d (.int ns.length)) S := fun S => by simp [kD]
  have ik : ∀ S, bIsi [.d (kD ns), .d (.ty "tuple")] S = .ok (.d (.bl true)) S := fun S => by simp [kD]
  have rg := rg _ rfl
  have e : eLc (iEnu (aCons (eVar 0) (aNil))) (gT 2 (gN1 (gN 2) (gN1 (gN 3) (gN0)))) (tYs) (eB F_is_node (aCons (eVar 3) (aCons (eVar 1) (aCons (eVar 2) (aCons (eB bLen (aCons (eVar 0) (aNil))) (aNil)))))) [2, 3] [some (.d (kD ns)), some (.d (.int m)), none, none] S = _ := e
  generalize kD ns = Kd at *
  simp [mkFn_eq, K_MOST_NODES, lk, ik, k1, k2, e, ha, w, so, rg, eq]
theorem pairwise_upto (n : Nat) : (upto n).Pairwise (· ≤ ·) := by
  unfold upto
  rw [List.pairwise_map]
  exact List.pairwise_le_range.imp fun h => by omega
theorem kb_true {ns : List Nd} {m : Nat} (K : Kk m ns) (hm : m ≤ 100) (h2 : ns.length ≤ 1000) {S : Store} : F_is_kink_by [.d (kD ns), .d (.int m)] S = .ok (.d (.bl true)) S := by
  rw [kb_ways (fun i x q => nv_good (K.each i x q) hm) (by have := List.length_pos_iff.mpr K.pos; omega) h2]
  have : isort (ns.flatMap wy) = upto ns.length := sorted_same ((isort_perm _).trans K.perm) (isort_sorted _) (pairwise_upto _)
  rw [decide_eq_true this]
/-- too few ways are told -/
theorem kb_few {ns : List Nd} {m : Nat} (h : ∀ i x, ns[i]? = some x → NV m i ns.length (nD x) true) (h1 : 1 ≤ ns.length) (h2 : ns.length ≤ 1000) (hl : (ns.flatMap wy).length ≠ ns.length - 1) {S : Store} :
    F_is_kink_by [.d (kD ns), .d (.int m)] S = .ok (.d (.bl false)) S := by
  rw [kb_ways h h1 h2]
  have : isort (ns.flatMap wy) ≠ upto ns.length := fun e => hl (by
    have := congrArg List.length e
    rw [(isort_perm _).length_eq] at this
    rw [this]
    simp [upto])
  rw [decide_eq_false this]
end K15
end
section
/-! FRACTIONs reckoned with -/
namespace K15
open PySem PySem.Spec PyProof.Rows L2 Y
/-- in least terms -/
def nrm (p q : Int) : Int × Int := (p.fdiv (Nat.gcd p.natAbs q.natAbs : Nat), q.fdiv (Nat.gcd p.natAbs q.natAbs : Nat))
def plF (a b : Int × Int) : Int × Int := nrm (a.1 * b.2 + b.1 * a.2) (a.2 * b.2)
def tmF (a b : Int × Int) : Int × Int := nrm (a.1 * b.1) (a.2 * b.2)
/-- a FRACTION of such sizes -/
structure Sz (V B : Nat) (p : Int × Int) : Prop where
  pos : 0 < p.2
  num : p.1.natAbs ≤ 2 ^ V * p.2.natAbs
  den : p.2.natAbs ≤ 2 ^ B
theorem Sz.mono {V B V' B' : Nat} {p : Int × Int} (h : Sz V B p) (h1 : V ≤ V') (h2 : B ≤ B') : Sz V' B' p := by
  have e1 : 2 ^ V ≤ 2 ^ V' := Nat.pow_le_pow_right (by decide) h1
  have e2 : 2 ^ B ≤ 2 ^ B' := Nat.pow_le_pow_right (by decide) h2
  exact ⟨h.pos, Nat.le_trans h.num (Nat.mul_le_mul_right _ e1), Nat.le_trans h.den e2⟩
theorem Sz.big {V B : Nat} {p : Int × Int} (h : Sz V B p) : p.1.natAbs ≤ 2 ^ (V + B) := by
  rw [Nat.pow_add]
  exact Nat.le_trans h.num (Nat.mul_le_mul_left _ h.den)
theorem fdiv_parts {p : Int} {g : Nat} (hg : 0 < g) (h : g ∣ p.natAbs) : ∃ c : Int, p = g * c ∧ p.fdiv (g : Int) = c := by
  obtain ⟨c, rfl⟩ := Int.ofNat_dvd_left.mpr h
  exact ⟨c, rfl, by rw [fdiv_ediv (by omega), Int.mul_ediv_cancel_left _ (by omega)]⟩
theorem nrm_parts {p q : Int} (hq : 0 < q) : ∃ (g : Nat) (a b : Int), 0 < g ∧ p = g * a ∧ q = g * b ∧ 0 < b ∧ nrm p q = (a, b) ∧ g = Nat.gcd p.natAbs q.natAbs := by
  have hg : 0 < Nat.gcd p.natAbs q.natAbs := Nat.gcd_pos_of_pos_right _ (by omega)
  obtain ⟨a, e1, e2⟩ := fdiv_parts hg (Nat.gcd_dvd_left p.natAbs q.natAbs)
  obtain ⟨b, e3, e4⟩ := fdiv_parts hg (Nat.gcd_dvd_right p.natAbs q.natAbs)
  refine ⟨_, a, b, hg, e1, e3, ?_, ?_, rfl⟩
  · by_cases hb : b ≤ 0
    · have := Int.mul_nonpos_of_nonneg_of_nonpos (show (0 : Int) ≤ (Nat.gcd p.natAbs q.natAbs : Nat) by omega) hb
      omega
    · omega
  · unfold nrm
    rw [e2, e4]
theorem sz_nrm {p q : Int} {V B : Nat} (hq : 0 < q) (h1 : p.natAbs ≤ 2 ^ V * q.natAbs) (h2 : q.natAbs ≤ 2 ^ B) : Sz V B (nrm p q) := by
  obtain ⟨g, a, b, hg, rfl, rfl, hb, e, _⟩ := nrm_parts (p := p) hq
  rw [e]
  rw [Int.natAbs_mul, Int.natAbs_natCast] at h1 h2
  rw [Int.natAbs_mul, Int.natAbs_natCast, ← Nat.mul_assoc, Nat.mul_comm (2 ^ V) g, Nat.mul_assoc] at h1
  refine ⟨hb, Nat.le_of_mul_le_mul_left h1 hg, ?_⟩
  have : 1 * b.natAbs ≤ g * b.natAbs := Nat.mul_le_mul_right _ hg
  show b.natAbs ≤ _
  omega
theorem Sz.pl {V V' B B' : Nat} {a b : Int × Int} (h : Sz V B a) (h' : Sz V' B' b) : Sz (max V V' + 1) (B + B') (plF a b) := by
  have h1 := h.mono (Nat.le_max_left V V') (Nat.le_refl _)
  have h2 := h'.mono (Nat.le_max_right V V') (Nat.le_refl _)
  generalize max V V' = W at *
  refine sz_nrm (Int.mul_pos h.pos h'.pos) ?_ ?_
  · have q1 : (a.1 * b.2).natAbs ≤ 2 ^ W * (a.2.natAbs * b.2.natAbs) := by
      rw [Int.natAbs_mul, ← Nat.mul_assoc]
      exact Nat.mul_le_mul_right _ h1.num
    have q2 : (b.1 * a.2).natAbs ≤ 2 ^ W * (a.2.natAbs * b.2.natAbs) := by
      rw [Int.natAbs_mul, Nat.mul_comm a.2.natAbs, ← Nat.mul_assoc]
      exact Nat.mul_le_mul_right _ h2.num
    have q3 := Int.natAbs_add_le (a.1 * b.2) (b.1 * a.2)
    rw [Int.natAbs_mul a.2, Nat.pow_succ, Nat.mul_assoc, Nat.mul_comm 2, ← Nat.mul_assoc]
    omega
  · rw [Int.natAbs_mul, Nat.pow_add]
    exact Nat.mul_le_mul h.den h'.den
theorem Sz.tm {V V' B B' : Nat} {a b : Int × Int} (h : Sz V B a) (h' : Sz V' B' b) : Sz (V + V') (B + B') (tmF a b) := by
  refine sz_nrm (Int.mul_pos h.pos h'.pos) ?_ ?_
  · rw [Int.natAbs_mul, Int.natAbs_mul, Nat.pow_add, show 2 ^ V * 2 ^ V' * (a.2.natAbs * b.2.natAbs) = (2 ^ V * a.2.natAbs) * (2 ^ V' * b.2.natAbs) by ac_rfl]
    exact Nat.mul_le_mul h.num h'.num
  · rw [Int.natAbs_mul, Nat.pow_add]
    exact Nat.mul_le_mul h.den h'.den
theorem log_pow {n k : Nat} (h : n ≤ 2 ^ k) (hk : k ≤ 2500) : n.log2 < 3000 := by
  by_cases e : n = 0
  · subst e; simp
  · have h2 : 2 ^ k < 2 ^ (k + 1) := Nat.pow_lt_pow_right (by decide) (by omega)
    have := (Nat.log2_lt e).mpr (show n < 2 ^ (k + 1) by omega)
    omega
theorem mul_pow {x y : Int} {k k' : Nat} (h1 : x.natAbs ≤ 2 ^ k) (h2 : y.natAbs ≤ 2 ^ k') (hk : k ≤ 2500) (hk' : k' ≤ 2500) : mulOk x y = true := mulOk_of (by have := log_pow h1 hk; omega) (by have := log_pow h2 hk'; omega)
/-- the package's -/
theorem fraction_ok {p q : Int} {k : Nat} (hq : 0 < q) (h2 : q.natAbs ≤ 2 ^ k) (hk : k ≤ 2500) {S : Store} : F_fraction [.d (.int p), .d (.int q)] S = .ok (.d (frD (nrm p q))) S := by
  have hg : 0 < Nat.gcd p.natAbs q.natAbs := Nat.gcd_pos_of_pos_right _ (by omega)
  have hgq : Nat.gcd p.natAbs q.natAbs ≤ q.natAbs := Nat.gcd_le_right _ (by omega)
  have gq : bGcd [.d (.int p), .d (.int q)] S = .ok (.d (.int (Nat.gcd p.natAbs q.natAbs : Nat))) S := by simp
  unfold nrm
  generalize Nat.gcd p.natAbs q.natAbs = g at hg hgq gq
  have lg : g.log2 < 3000 := log_pow (Nat.le_trans hgq h2) hk
  have mo : mulOk (g : Int) 1 = true := mulOk_of (by simp; omega) (by decide)
  have g0 : g ≠ 0 := by omega
  have lg2 : g.log2 < 9000 := by omega
  have hq' : q > 0 := hq
  unfold F_fraction b_fraction
  simp only [gcd_int] at gq
  have gq' : ∀ S, bGcd [.d (.int p), .d (.int q)] S = .ok (.d (.int g)) S := fun S => by
    have := Res.ok.inj gq
    rw [gcd_int]
    rw [this.1]
  simp [mkFn_eq, gq', hq', mo, g0, lg2, frD, -gcd_int]
theorem times_ok {a b : Int × Int} {V B V' B' : Nat} (h : Sz V B a) (h' : Sz V' B' b) (hk : V + B + (V' + B') ≤ 2500) {S : Store} : F_times [.d (frD a), .d (frD b)] S = .ok (.d (frD (tmF a b))) S := by
  have o1 := mul_pow h.big h'.big (by omega) (by omega)
  have o2 := mul_pow h.den h'.den (by omega) (by omega)
  have f := fun S => fraction_ok (p := a.1 * b.1) (q := a.2 * b.2) (k := B + B') (Int.mul_pos h.pos h'.pos) (by rw [Int.natAbs_mul, Nat.pow_add]; exact Nat.mul_le_mul h.den h'.den) (by omega) (S := S)
  unfold tmF
  generalize nrm (a.1 * b.1) (a.2 * b.2) = r at *
  unfold F_times b_times
  simp only [frD] at *
  simp [mkFn_eq, o1, o2, f]
theorem sum_ok {a b : Int × Int} {V B V' B' : Nat} (h : Sz V B a) (h' : Sz V' B' b) (hk : V + B + (V' + B') ≤ 2500) {S : Store} : F_sum_of [.d (frD a), .d (frD b)] S = .ok (.d (frD (plF a b))) S := by
  have o1 := mul_pow h.big h'.den (by omega) (by omega)
  have o2 := mul_pow h'.big h.den (by omega) (by omega)
  have o3 := mul_pow h.den h'.den (by omega) (by omega)
  have f := fun S => fraction_ok (p := a.1 * b.2 + b.1 * a.2) (q := a.2 * b.2) (k := B + B') (Int.mul_pos h.pos h'.pos) (by rw [Int.natAbs_mul, Nat.pow_add]; exact Nat.mul_le_mul h.den h'.den) (by omega) (S := S)
  unfold plF
  generalize nrm (a.1 * b.2 + b.1 * a.2) (a.2 * b.2) = r at *
  unfold F_sum_of b_sum_of
  simp only [frD] at *
  simp [mkFn_eq, o1, o2, o3, f]
/-- the law's Euclid, of great numbers: two turns halve the second one -/
theorem eucB {x y : Option Wt} {b0 : Nat} {S : Store} : ∀ (k low high N : Nat), high < 2 ^ k → 2 * k + 1 ≤ N → whileN (tBl (eOp opGt (eVar 3) (eC (.int 0)))) (sPar 2 3 (aCons (eVar 3) (aCons (eOp opMod (eB bInt (aCons (eVar 2) (aNil))) (eVar 3)) (aNil)))) N b0 [x, y, some (.d (.int low)), some (.d (.int high))] S
    = .nx [x, y, some (.d (.int (Nat.gcd low high))), some (.d (.int 0))] S := by
  have stop : ∀ (low N : Nat), 1 ≤ N → whileN (tBl (eOp opGt (eVar 3) (eC (.int 0)))) (sPar 2 3 (aCons (eVar 3) (aCons (eOp opMod (eB bInt (aCons (eVar 2) (aNil))) (eVar 3)) (aNil)))) N b0 [x, y, some (.d (.int low)), some (.d (.int (0 : Nat)))] S
      = .nx [x, y, some (.d (.int (Nat.gcd low 0))), some (.d (.int 0))] S := fun low N hN => by
    rw [while_turn (by omega)]
    simp
  have turn : ∀ (low h N : Nat), 1 ≤ N → 0 < h → whileN (tBl (eOp opGt (eVar 3) (eC (.int 0)))) (sPar 2 3 (aCons (eVar 3) (aCons (eOp opMod (eB bInt (aCons (eVar 2) (aNil))) (eVar 3)) (aNil)))) N b0 [x, y, some (.d (.int low)), some (.d (.int h))] S
      = whileN (tBl (eOp opGt (eVar 3) (eC (.int 0)))) (sPar 2 3 (aCons (eVar 3) (aCons (eOp opMod (eB bInt (aCons (eVar 2) (aNil))) (eVar 3)) (aNil)))) (N - 1) b0 [x, y, some (.d (.int h)), some (.d (.int (low % h : Nat)))] S := fun low h N hN hh => by
    have hf := fmod_nat low h (by omega)
    have h0 : (h : Int) ≠ 0 := by omega
    have h3 : (h : Int) > 0 := by omega
    rw [while_turn (by omega)]
    generalize (h : Int) = z at hf h0 h3 ⊢
    generalize ((low % h : Nat) : Int) = w at hf ⊢
    simp [hf, h0, h3]
  have gr : ∀ low h : Nat, Nat.gcd h (low % h) = Nat.gcd low h := fun low h => by rw [Nat.gcd_comm low, Nat.gcd_rec h low, Nat.gcd_comm]
  intro k
  induction k with
  | zero =>
    intro low high N h1 h2
    have : high = 0 := by omega
    subst this
    exact stop low N (by omega)
  | succ k ih =>
    intro low high N h1 h2
    by_cases h0 : high = 0
    · subst h0
      exact stop low N (by omega)
    · rw [turn low high N (by omega) (by omega)]
      by_cases h4 : low % high = 0
      · rw [h4, stop high (N - 1) (by omega), ← gr low high, h4]
      · have hm : low % high < high := Nat.mod_lt _ (by omega)
        rw [turn high (low % high) (N - 1) (by omega) (by omega)]
        have hm2 : high % (low % high) < low % high := Nat.mod_lt _ (by omega)
        have half : high % (low % high) < 2 ^ k := by
          rw [Nat.pow_succ] at h1
          by_cases h5 : low % high ≤ 2 ^ k
          · omega
          · have : high % (low % high) = high - low % high := by
              rw [Nat.mod_eq_sub_mod (by omega), Nat.mod_eq_of_lt (by omega)]
            omega
        rw [ih (low % high) (high % (low % high)) (N - 1 - 1) half (by omega), gr, gr]
theorem ratio_big {p q : Int} {k : Nat} (hq : 0 < q) (h2 : q.natAbs ≤ 2 ^ k) (hk : k ≤ 2500) {S : Store} : F__law_ratio [.d (.int p), .d (.int q)] S = .ok (.d (frD (nrm p q))) S := by
  have e := eucB (x := some (.d (.int p))) (y := some (.d (.int q))) (b0 := S.length) (S := S) (k + 1) p.natAbs q.natAbs fuelW (by rw [Nat.pow_succ]; have : 0 < 2 ^ k := Nat.two_pow_pos k; omega) (Nat.le_of_lt (fuel_big (by omega)))
  have hqa : ((q.natAbs : Nat) : Int) = q := by omega
  have hg : 0 < Nat.gcd p.natAbs q.natAbs := Nat.gcd_pos_of_pos_right _ (by omega)
  have hg2 : Nat.gcd p.natAbs q.natAbs ≤ q.natAbs := Nat.gcd_le_right _ (by omega)
  have hl : (Nat.gcd p.natAbs q.natAbs).log2 < 9000 := by
    have := log_pow (Nat.le_trans hg2 h2) hk
    omega
  rw [hqa] at e
  have hn : ¬ q < 0 := by omega
  have ha := abs_nat p
  unfold nrm
  generalize Nat.gcd p.natAbs q.natAbs = g at *
  have g0 : g ≠ 0 := by omega
  unfold F__law_ratio b__law_ratio
  simp [mkFn_eq, hn, ha, e, g0, hl, frD]
/-- the second one below 0 -/
theorem ratio_neg {p q : Int} {k : Nat} (hq : q < 0) (h2 : q.natAbs ≤ 2 ^ k) (hk : k ≤ 2500) {S : Store} : F__law_ratio [.d (.int p), .d (.int q)] S = .ok (.d (frD (nrm (0 - p) (0 - q)))) S := by
  have e := eucB (x := some (.d (.int (0 - p)))) (y := some (.d (.int (0 - q)))) (b0 := S.length) (S := S) (k + 1) (0 - p).natAbs (0 - q).natAbs fuelW (by rw [Nat.pow_succ]; have : 0 < 2 ^ k := Nat.two_pow_pos k; omega) (Nat.le_of_lt (fuel_big (by omega)))
  have hqa : (((0 - q).natAbs : Nat) : Int) = 0 - q := by omega
  have hg : 0 < Nat.gcd (0 - p).natAbs (0 - q).natAbs := Nat.gcd_pos_of_pos_right _ (by omega)
  have hg2 : Nat.gcd (0 - p).natAbs (0 - q).natAbs ≤ (0 - q).natAbs := Nat.gcd_le_right _ (by omega)
  have hl : (Nat.gcd (0 - p).natAbs (0 - q).natAbs).log2 < 9000 := by
    have := log_pow (k := k) (Nat.le_trans hg2 (by omega)) hk
    omega
  rw [hqa] at e
  have ha := abs_nat (0 - p)
  unfold nrm
  generalize hP : 0 - p = P at *
  generalize hQ : 0 - q = Q at *
  generalize Nat.gcd P.natAbs Q.natAbs = g at *
  have g0 : g ≠ 0 := by omega
  unfold F__law_ratio b__law_ratio
  simp [mkFn_eq, hq, hP, hQ, ha, e, g0, hl, frD]
theorem ltimes_ok {a b : Int × Int} {V B V' B' : Nat} (h : Sz V B a) (h' : Sz V' B' b) (hk : V + B + (V' + B') ≤ 2500) {S : Store} : F__law_times [.d (frD a), .d (frD b)] S = .ok (.d (frD (tmF a b))) S := by
  have o1 := mul_pow h.big h'.big (by omega) (by omega)
  have o2 := mul_pow h.den h'.den (by omega) (by omega)
  have f := fun S => ratio_big (p := a.1 * b.1) (q := a.2 * b.2) (k := B + B') (Int.mul_pos h.pos h'.pos) (by rw [Int.natAbs_mul, Nat.pow_add]; exact Nat.mul_le_mul h.den h'.den) (by omega) (S := S)
  unfold tmF
  generalize nrm (a.1 * b.1) (a.2 * b.2) = r at *
  unfold F__law_times b__law_times
  simp only [frD] at *
  simp [mkFn_eq, o1, o2, f]
theorem lplus_ok {a b : Int × Int} {V B V' B' : Nat} (h : Sz V B a) (h' : Sz V' B' b) (hk : V + B + (V' + B') ≤ 2500) {S : Store} : F__law_plus [.d (frD a), .d (frD b)] S = .ok (.d (frD (plF a b))) S := by
  have o1 := mul_pow h.big h'.den (by omega) (by omega)
  have o2 := mul_pow h'.big h.den (by omega) (by omega)
  have o3 := mul_pow h.den h'.den (by omega) (by omega)
  have f := fun S => ratio_big (p := a.1 * b.2 + b.1 * a.2) (q := a.2 * b.2) (k := B + B') (Int.mul_pos h.pos h'.pos) (by rw [Int.natAbs_mul, Nat.pow_add]; exact Nat.mul_le_mul h.den h'.den) (by omega) (S := S)
  unfold plF
  generalize nrm (a.1 * b.2 + b.1 * a.2) (a.2 * b.2) = r at *
  unfold F__law_plus b__law_plus
  simp only [frD] at *
  simp [mkFn_eq, o1, o2, o3, f]
end K15
end
section
/-! what a LINE is worth -/
namespace K15
open PySem PySem.Spec PyProof.Rows L2 Y
def foF (r : Int × Int) (zs : List ((Int × Int) × (Int × Int))) : Int × Int := zs.foldl (fun r z => plF r (tmF z.1 z.2)) r
def lastF (l : List (Int × Int)) : Int × Int := l.getLastD (0, 1)
theorem forN_next {g : GM} {f : SM} {b : Nat} {d : D} {ds : List D} {σ σ1 σ2 : Ev} {S S1 S2 : Store} (h1 : g (.d d) σ S = .ok σ1 S1) (h2 : f b σ1 S1 = .nx σ2 S2) : forN g f (d :: ds) b σ S = forN g f ds b σ2 S2 := by
  simp only [forN, h1, ok_toS, h2]
def lineF (l nu : List (Int × Int)) : Int × Int := foF (lastF l) (l.zip nu)
def zfD (z : (Int × Int) × (Int × Int)) : D := .tup [frD z.1, frD z.2]
theorem zip_fr : ∀ (l nu : List (Int × Int)), zipD (l.map frD) (nu.map frD) = (l.zip nu).map zfD
  | [], nu => by cases nu <;> rfl
  | a :: l, [] => rfl
  | a :: l, b :: nu => by
    show .tup [frD a, frD b] :: zipD (l.map frD) (nu.map frD) = _
    rw [zip_fr l nu]
    rfl
theorem at_end {l : List (Int × Int)} (hl : l ≠ []) : atI (l.map frD) (-1) = some (frD (lastF l)) := by
  have hp := List.length_pos_iff.mpr hl
  unfold atI ixN
  rw [if_neg (by decide), if_pos (by rw [List.length_map]; omega)]
  show (l.map frD)[((-1 : Int) + (l.map frD).length).toNat]? = _
  rw [List.length_map, show ((-1 : Int) + l.length).toNat = l.length - 1 by omega, List.getElem?_map, List.getElem?_eq_getElem (by omega)]
  show some (frD _) = _
  congr 2
  unfold lastF
  rw [← List.getLast_eq_getElem hl, List.getLastD_eq_getLast?, List.getLast?_eq_some_getLast hl]
  rfl
theorem fo_run {Vn Bn : Nat} (hV : Vn ≤ 80) (hB : Bn ≤ 180) {g : GM} {f : SM} {b : Nat} {S : Store} (mk : Int × Int → Option Wt → Option Wt → Ev)
    (step : ∀ (r a c : Int × Int) (d3 d4 : Option Wt) (V B : Nat), Sz V B r → Sz 2 2 a → Sz Vn Bn c → V ≤ 90 → B ≤ 1000 → ∃ σ1, g (.d (zfD (a, c))) (mk r d3 d4) S = .ok σ1 S ∧ f b σ1 S = .nx (mk (plF r (tmF a c)) (some (.d (frD a))) (some (.d (frD c)))) S) :
    ∀ (zs : List ((Int × Int) × (Int × Int))) (j : Nat) (r : Int × Int) (d3 d4 : Option Wt), j + zs.length ≤ 5 → (∀ z ∈ zs, Sz 2 2 z.1 ∧ Sz Vn Bn z.2) → Sz (Vn + 3 + j) (2 + j * (Bn + 2)) r →
    (∃ d3' d4', forN g f (zs.map zfD) b (mk r d3 d4) S = .nx (mk (foF r zs) d3' d4') S) ∧ Sz (Vn + 8) (2 + 5 * (Bn + 2)) (foF r zs)
  | [], j, r, d3, d4, hj, hz, hr => by
    refine ⟨⟨d3, d4, rfl⟩, hr.mono (by simp at hj; omega) ?_⟩
    have : j * (Bn + 2) ≤ 5 * (Bn + 2) := Nat.mul_le_mul_right _ (by simp at hj; omega)
    omega
  | (a, c) :: zs, j, r, d3, d4, hj, hz, hr => by
    obtain ⟨h1, h2⟩ := hz (a, c) (List.mem_cons_self ..)
    rw [List.length_cons] at hj
    have hB2 : j * (Bn + 2) ≤ 5 * 182 := Nat.mul_le_mul (by omega) (by omega)
    obtain ⟨σ1, e1, e2⟩ := step r a c d3 d4 _ _ hr h1 h2 (by omega) (by omega)
    have hr' : Sz (Vn + 3 + (j + 1)) (2 + (j + 1) * (Bn + 2)) (plF r (tmF a c)) := (hr.pl (h1.tm h2)).mono (by omega) (by rw [Nat.add_mul]; omega)
    obtain ⟨⟨d3', d4', e3⟩, e4⟩ := fo_run hV hB mk step zs (j + 1) _ (some (.d (frD a))) (some (.d (frD c))) (by omega) (fun z hz' => hz z (List.mem_cons_of_mem _ hz')) hr'
    refine ⟨⟨d3', d4', ?_⟩, e4⟩
    rw [List.map_cons, forN_next e1 e2]
    exact e3
/-- fit to be reckoned -/
structure LnOk (Vn Bn : Nat) (l nu : List (Int × Int)) : Prop where
  ne : l ≠ []
  l2 : ∀ p ∈ l, Sz 2 2 p
  n2 : ∀ p ∈ nu, Sz Vn Bn p
  len : nu.length ≤ 5
  hV : Vn ≤ 80
  hB : Bn ≤ 180
theorem LnOk.zs {Vn Bn : Nat} {l nu : List (Int × Int)} (h : LnOk Vn Bn l nu) : ∀ z ∈ l.zip nu, Sz 2 2 z.1 ∧ Sz Vn Bn z.2 := fun z hz => by
  have := List.of_mem_zip (a := z.1) (b := z.2) hz
  exact ⟨h.l2 _ this.1, h.n2 _ this.2⟩
theorem LnOk.zl {Vn Bn : Nat} {l nu : List (Int × Int)} (h : LnOk Vn Bn l nu) : 0 + (l.zip nu).length ≤ 5 := by
  have := h.len
  simp
  omega
theorem LnOk.r0 {Vn Bn : Nat} {l nu : List (Int × Int)} (h : LnOk Vn Bn l nu) : Sz (Vn + 3 + 0) (2 + 0 * (Bn + 2)) (lastF l) := by
  have : lastF l ∈ l := by
    unfold lastF
    rw [List.getLastD_eq_getLast?, List.getLast?_eq_some_getLast h.ne]
    exact List.getLast_mem h.ne
  exact (h.l2 _ this).mono (by omega) (by omega)
theorem worth_ok {Vn Bn : Nat} {l nu : List (Int × Int)} (h : LnOk Vn Bn l nu) {S : Store} : F_worth_of [.d (.tup (l.map frD)), .d (.tup (nu.map frD))] S = .ok (.d (frD (lineF l nu))) S := by
  obtain ⟨⟨d3, d4, e1⟩, _⟩ := fo_run h.hV h.hB (g := gT 2 (gN1 (gN 3) (gN1 (gN 4) (gN0)))) (b := S.length) (S := S) (f := (sSet 2 (eB F_sum_of (aCons (eVar 2) (aCons (eB F_times (aCons (eVar 3) (aCons (eVar 4) (aNil)))) (aNil))))))
    (fun r d3 d4 => [some (.d (.tup (l.map frD))), some (.d (.tup (nu.map frD))), some (.d (frD r)), d3, d4]) (by
      intro r a c d3 d4 V B hr ha hc hV hB
      have hVn := h.hV
      have hBn := h.hB
      have q1 := fun S => times_ok ha hc (by omega) (S := S)
      have q2 := fun S => sum_ok hr (ha.tm hc) (by omega) (S := S)
      generalize l.map frD = L at *
      generalize nu.map frD = N at *
      refine ⟨[some (.d (.tup L)), some (.d (.tup N)), some (.d (frD r)), some (.d (frD a)), some (.d (frD c))], by simp [zfD], ?_⟩
      generalize plF r (tmF a c) = x at *
      generalize tmF a c = y at *
      generalize frD a = A at *
      generalize frD c = C at *
      generalize frD r = R at *
      generalize frD y = Y' at *
      generalize frD x = X at *
      simp [q1, q2]) (l.zip nu) 0 (lastF l) none none h.zl h.zs h.r0
  rw [← zip_fr] at e1
  have a := at_end h.ne
  unfold F_worth_of b_worth_of
  generalize l.map frD = L at *
  generalize nu.map frD = N at *
  change forN _ _ (zipD L N) S.length _ S = .nx [some (.d (.tup L)), some (.d (.tup N)), some (.d (frD (lineF l nu))), d3, d4] S at e1
  generalize frD (lineF l nu) = R at *
  simp [mkFn_eq, a, iZipX, optZ3, e1]
theorem line_sz {Vn Bn : Nat} {l nu : List (Int × Int)} (h : LnOk Vn Bn l nu) : Sz (Vn + 8) (2 + 5 * (Bn + 2)) (lineF l nu) :=
  (fo_run (S := []) h.hV h.hB (g := fun _ σ S => .ok σ S) (b := 0) (f := fun _ σ S => .nx [] S) (fun _ _ _ => []) (fun r a c d3 d4 V B _ _ _ _ _ => ⟨[], rfl, rfl⟩) (l.zip nu) 0 (lastF l) none none h.zl h.zs h.r0).2
/-- the law's, of tuples and lists alike -/
theorem lline_ok {Vn Bn : Nat} {l nu : List (Int × Int)} (h : LnOk Vn Bn l nu) {A B : D} (hAB : (A = .tup (l.map frD) ∧ B = .tup (nu.map frD)) ∨ (A = .lst (l.map frD) ∧ B = .tup (nu.map frD)) ∨ (A = .lst (l.map frD) ∧ B = .lst (nu.map frD))) {S : Store} : F__law_line_at [.d A, .d B] S = .ok (.d (frD (lineF l nu))) S := by
  obtain ⟨⟨d3, d4, e1⟩, _⟩ := fo_run h.hV h.hB (g := gT 2 (gN1 (gN 3) (gN1 (gN 4) (gN0)))) (b := S.length) (S := S) (f := (sSet 2 (eB F__law_plus (aCons (eVar 2) (aCons (eB F__law_times (aCons (eVar 3) (aCons (eVar 4) (aNil)))) (aNil))))))
    (fun r d3 d4 => [some (.d A), some (.d B), some (.d (frD r)), d3, d4]) (by
      intro r a c d3 d4 V B' hr ha hc hV hB
      have hVn := h.hV
      have hBn := h.hB
      have q1 := fun S => ltimes_ok ha hc (by omega) (S := S)
      have q2 := fun S => lplus_ok hr (ha.tm hc) (by omega) (S := S)
      refine ⟨[some (.d A), some (.d B), some (.d (frD r)), some (.d (frD a)), some (.d (frD c))], by simp [zfD], ?_⟩
      generalize plF r (tmF a c) = x at *
      generalize tmF a c = y at *
      generalize frD a = A' at *
      generalize frD c = C at *
      generalize frD r = R at *
      generalize frD y = Y' at *
      generalize frD x = X at *
      simp [q1, q2]) (l.zip nu) 0 (lastF l) none none h.zl h.zs h.r0
  rw [← zip_fr] at e1
  have a := at_end h.ne
  unfold F__law_line_at b__law_line_at
  generalize l.map frD = L at *
  generalize nu.map frD = N at *
  change forN _ _ (zipD L N) S.length _ S = .nx [some (.d A), some (.d B), some (.d (frD (lineF l nu))), d3, d4] S at e1
  generalize frD (lineF l nu) = R at *
  rcases hAB with ⟨rfl, rfl⟩ | ⟨rfl, rfl⟩ | ⟨rfl, rfl⟩ <;> simp [mkFn_eq, a, iZipX, optZ3, e1]
end K15
end
section
/-! what a KINK is worth: both ways of going -/
namespace K15
open PySem PySem.Spec PyProof.Rows L2 Y
/-- a KINK that is right -/
structure K2 (m : Nat) (ns : List Nd) : Prop where
  pos : ns ≠ []
  each : ∀ i x, ns[i]? = some x → okN m i ns.length x
  perm : (ns.flatMap wy).Perm (upto ns.length)
theorem Kk.k2 {m : Nat} {ns : List Nd} (K : Kk m ns) : K2 m ns := ⟨K.pos, K.each, K.perm⟩
theorem kb_ok {ns : List Nd} {m : Nat} (K : K2 m ns) (hm : m ≤ 100) (h2 : ns.length ≤ 1000) {S : Store} : F_is_kink_by [.d (kD ns), .d (.int m)] S = .ok (.d (.bl true)) S := by
  rw [kb_ways (fun i x q => nv_good (K.each i x q) hm) (by have := List.length_pos_iff.mpr K.pos; omega) h2]
  have : isort (ns.flatMap wy) = upto ns.length := sorted_same ((isort_perm _).trans K.perm) (isort_sorted _) (pairwise_upto _)
  rw [decide_eq_true this]
theorem cm_ok {m : Nat} (h : m ≤ 5) {S : Store} : F_check_many [.d (.int m)] S = .ok (.d .non) S := by
  have b := fun S => between_int (x := (m : Int)) (lo := 0) (hi := 5) (S := S)
  have d : decide ((0 : Int) ≤ m ∧ (m : Int) ≤ 5) = true := decide_eq_true (by omega)
  unfold F_check_many b_check_many
  rw [d] at b
  simp [mkFn_eq, K_MOST_NUMBERS, b]
theorem ck_ok {g : D} {m : D} (h : ∀ S, F_is_kink_by [.d g, .d m] S = .ok (.d (.bl true)) S) {S : Store} : F_check_kink [.d g, .d m] S = .ok (.d .non) S := by
  unfold F_check_kink b_check_kink
  simp [mkFn_eq, h]
theorem isk_ok {ns : List Nd} {m : Nat} (K : K2 m ns) (hm : m ≤ 5) (h2 : ns.length ≤ 1000) {S : Store} : F_is_kink [.d (kD ns), .d (.int m)] S = .ok (.d (.bl true)) S := by
  have c := fun S => cm_ok hm (S := S)
  have k := fun S => kb_ok K (by omega) h2 (S := S)
  unfold F_is_kink b_is_kink
  generalize kD ns = Kd at *
  simp [mkFn_eq, c, k]
def wfF (x : Int) : Int × Int := (x, 1)
/-- numbers that are lawful -/
structure NuOk (Vn Bn m : Nat) (nu : List (Int × Int)) : Prop where
  len : nu.length = m
  sz : ∀ p ∈ nu, Sz Vn Bn p
  least : ∀ p ∈ nu, Nat.gcd p.1.natAbs p.2.natAbs = 1
  hm : m ≤ 5
  hV : Vn ≤ 80
  hB : Bn ≤ 180
theorem okP_sz {p : Int × Int} (h : okP p = true) : Sz 2 2 p := by
  unfold okP at h
  simp only [Bool.and_eq_true, decide_eq_true_eq] at h
  obtain ⟨⟨⟨h1, h2⟩, h3, h4⟩, h5⟩ := h
  exact ⟨by omega, by omega, by omega⟩
theorem wf_sz {x : Int} (h : -3 ≤ x ∧ x ≤ 3) : Sz 2 2 (wfF x) := ⟨by show (0 : Int) < 1; decide, by show x.natAbs ≤ 4 * 1; omega, by show 1 ≤ 4; decide⟩
theorem ln_l {Vn Bn m : Nat} {nu : List (Int × Int)} (h : NuOk Vn Bn m nu) {l : List (Int × Int)} (hl : OkL m l) : LnOk Vn Bn l nu :=
  ⟨fun e => by have := hl.len; rw [e] at this; simp at this, fun p hp => okP_sz (hl.each p hp), h.sz, by rw [h.len]; exact h.hm, h.hV, h.hB⟩
theorem ln_f {Vn Bn m : Nat} {nu : List (Int × Int)} (h : NuOk Vn Bn m nu) {f : List Int} (hf : OkF m f) : LnOk Vn Bn (f.map wfF) nu :=
  ⟨fun e => by have := congrArg List.length e; simp [hf.len] at this, fun p hp => by
    obtain ⟨x, hx, rfl⟩ := List.mem_map.mp hp
    exact wf_sz (hf.small x hx), h.sz, by rw [h.len]; exact h.hm, h.hV, h.hB⟩
/-- where a KINK goes, and what it is worth there -/
inductive Rch (ns : List Nd) (nu : List (Int × Int)) : Nat → Int × Int → Prop
  | ln {i : Nat} {l : List (Int × Int)} : ns[i]? = some (.ln l) → Rch ns nu i (lineF l nu)
  | lo {i : Nat} {f : List Int} {a b : Nat} {w : Int × Int} : ns[i]? = some (.cut f a b) → (lineF (f.map wfF) nu).1 ≤ 0 → Rch ns nu a w → Rch ns nu i w
  | hi {i : Nat} {f : List Int} {a b : Nat} {w : Int × Int} : ns[i]? = some (.cut f a b) → 0 < (lineF (f.map wfF) nu).1 → Rch ns nu b w → Rch ns nu i w
theorem Rch.one {ns : List Nd} {nu : List (Int × Int)} {i : Nat} {w w' : Int × Int} (h : Rch ns nu i w) (h' : Rch ns nu i w') : w = w' := by
  induction h with
  | ln e =>
    cases h' with
    | ln e' => rw [e] at e'; cases e'; rfl
    | lo e' _ _ => rw [e] at e'; cases e'
    | hi e' _ _ => rw [e] at e'; cases e'
  | lo e s _ ih =>
    cases h' with
    | ln e' => rw [e] at e'; cases e'
    | lo e' _ q => rw [e] at e'; cases e'; exact ih q
    | hi e' s' _ => rw [e] at e'; cases e'; omega
  | hi e s _ ih =>
    cases h' with
    | ln e' => rw [e] at e'; cases e'
    | lo e' s' _ => rw [e] at e'; cases e'; omega
    | hi e' _ q => rw [e] at e'; cases e'; exact ih q
theorem rch_some {m : Nat} {ns : List Nd} (K : K2 m ns) (nu : List (Int × Int)) : ∀ (k i : Nat), ns.length - i ≤ k → i < ns.length → ∃ w, Rch ns nu i w
  | 0, i, h, hi => by omega
  | k + 1, i, h, hi => by
    have q : ns[i]? = some ns[i] := List.getElem?_eq_getElem hi
    cases e : ns[i] with
    | ln l => exact ⟨_, .ln (by rw [q, e])⟩
    | cut f a b =>
      rw [e] at q
      obtain ⟨h1, h2, h3, h4, h5⟩ := K.each i _ q
      by_cases hs : (lineF (f.map wfF) nu).1 ≤ 0
      · obtain ⟨w, hw⟩ := rch_some K nu k a (by omega) h3
        exact ⟨w, .lo q hs hw⟩
      · obtain ⟨w, hw⟩ := rch_some K nu k b (by omega) h5
        exact ⟨w, .hi q (by omega) hw⟩
theorem kd_at {ns : List Nd} {i : Nat} {x : Nd} (h : ns[i]? = some x) {S : Store} : opIx (.d (kD ns)) (.d (.int i)) S = .ok (.d (nD x)) S := by
  show optR S (atI (ns.map nD) i) = _
  rw [atIn, List.getElem?_map, h]
  rfl
theorem wf_map (f : List Int) : (f.map wfF).map frD = f.map fun x => D.tup [.int x, .int 1] := by
  rw [List.map_map]
  rfl
theorem line_of_form {f : List Int} (hl : f.length ≤ 1000) {S : Store} : F_line_of_form [.d (.tup (f.map D.int))] S = .ok (.d (.tup ((f.map wfF).map frD))) S := by
  have := eLc_map (w := iVal (eVar 0)) (g := gN 1) (t := tYs) (e := eB F_whole (aCons (eVar 1) (aNil))) (vs := [1]) (σ := [some (.d (.tup (f.map D.int))), none]) (S := S) (ds := f.map D.int)
    (fun d => match d with | .int x => .tup [.int x, .int 1] | d => d) (by simp [itemsOf]) (by simp; omega) (by
      intro d hd acc
      obtain ⟨x, hx', rfl⟩ := List.mem_map.mp hd
      have wk : ∀ S, F_whole [.d (.int x)] S = .ok (.d (.tup [.int x, .int 1])) S := fun S => by simp [F_whole, b_whole, mkFn_eq]
      exact ⟨_, by simp [wipeD]; rfl, by simp, by simp [wipeD, wk]⟩)
  rw [List.map_map] at this
  have e : (f.map ((fun d => match d with | .int x => D.tup [.int x, .int 1] | d => d) ∘ D.int)) = (f.map wfF).map frD := by rw [wf_map]; rfl
  rw [e] at this
  unfold F_line_of_form b_line_of_form
  generalize (f.map wfF).map frD = W at *
  generalize f.map D.int = L at *
  simp [mkFn_eq, this]
theorem form_at {Vn Bn m : Nat} {nu : List (Int × Int)} (h : NuOk Vn Bn m nu) {f : List Int} (hf : OkF m f) {S : Store} : F_form_at [.d (.tup (f.map D.int)), .d (.tup (nu.map frD))] S = .ok (.d (frD (lineF (f.map wfF) nu))) S := by
  have e1 := fun S => line_of_form (f := f) (by rw [hf.len]; have := h.hm; omega) (S := S)
  have e2 := fun S => worth_ok (ln_f h hf) (S := S)
  unfold F_form_at b_form_at
  generalize frD (lineF (f.map wfF) nu) = R at *
  generalize (f.map wfF).map frD = W at *
  generalize f.map D.int = L at *
  generalize nu.map frD = N at *
  simp [mkFn_eq, e1, e2]
theorem str_dec : (("line" : Str) = "cut") = False := by simp; decide
theorem str_dec2 : (("cut" : Str) = "line") = False := by simp; decide
theorem line_loop {Vn Bn m : Nat} {ns : List Nd} {nu : List (Int × Int)} (K : K2 m ns) (hn : NuOk Vn Bn m nu) {b0 : Nat} {S : Store} {i : Nat} {w : Int × Int} (h : Rch ns nu i w) : ∀ (N : Nat), ns.length - i < N → ∃ (j : Nat) (l : List (Int × Int)),
    ns[j]? = some (.ln l) ∧ w = lineF l nu ∧ whileN (tBl (eOp (opEq false) (eOp opIx (eOp opIx (eVar 0) (eVar 2)) (eC (.int 0))) (eC K_CUT)))
  (sSet 2 (eIf (tBl (eOp opGt (eOp opIx (eB F_form_at (aCons (eOp opIx (eOp opIx (eVar 0) (eVar 2)) (eC (.int 1))) (aCons (eVar 1) (aNil)))) (eC (.int 0))) (eC (.int 0)))) (eOp opIx (eOp opIx (eVar 0) (eVar 2)) (eC (.int 3))) (eOp opIx (eOp opIx (eVar 0) (eVar 2)) (eC (.int 2)))))
      N b0 [some (.d (kD ns)), some (.d (.tup (nu.map frD))), some (.d (.int i))] S = .nx [some (.d (kD ns)), some (.d (.tup (nu.map frD))), some (.d (.int j))] S := by
  induction h with
  | @ln i l q =>
    intro N hN
    have ix := kd_at q (S := S)
    refine ⟨i, l, q, rfl, ?_⟩
    rw [while_turn (by omega)]
    generalize kD ns = Kd at *
    generalize nu.map frD = W at *
    simp [ix, nD, K_CUT, str_dec]
  | @lo i f x y w q s r ih =>
    intro N hN
    obtain ⟨h6, h7, h8, h9, h10⟩ := K.each i _ q
    have hi := (List.getElem?_eq_some_iff.mp q).1
    obtain ⟨j, l, k1, k2, k3⟩ := ih (N - 1) (by omega)
    have ix := fun S => kd_at q (S := S)
    have ef := fun S => form_at hn h6 (S := S)
    have i2 : ∀ l : List D, atI [D.str "cut", D.tup l, D.int (x : Int), D.int (y : Int)] 2 = some (.int x) := fun l => atIn (k := 2)
    refine ⟨j, l, k1, k2, ?_⟩
    rw [while_turn (by omega), ← k3]
    generalize kD ns = Kd at *
    generalize nu.map frD = W at *
    generalize lineF (f.map wfF) nu = v at *
    simp only [nD, frD] at ix ef
    generalize f.map D.int = L at *
    have s : ¬ v.1 > 0 := by omega
    simp [ix, K_CUT, ef, s, i2]
  | @hi i f x y w q s r ih =>
    intro N hN
    obtain ⟨h6, h7, h8, h9, h10⟩ := K.each i _ q
    have hi := (List.getElem?_eq_some_iff.mp q).1
    obtain ⟨j, l, k1, k2, k3⟩ := ih (N - 1) (by omega)
    have ix := fun S => kd_at q (S := S)
    have ef := fun S => form_at hn h6 (S := S)
    have i3 : ∀ l : List D, atI [D.str "cut", D.tup l, D.int (x : Int), D.int (y : Int)] 3 = some (.int y) := fun l => atIn (k := 3)
    refine ⟨j, l, k1, k2, ?_⟩
    rw [while_turn (by omega), ← k3]
    generalize kD ns = Kd at *
    generalize nu.map frD = W at *
    generalize lineF (f.map wfF) nu = v at *
    simp only [nD, frD] at ix ef
    generalize f.map D.int = L at *
    have s : v.1 > 0 := by omega
    simp [ix, K_CUT, ef, s, i3]
theorem nu_frac {Vn Bn m : Nat} {nu : List (Int × Int)} (h : NuOk Vn Bn m nu) {p : Int × Int} (hp : p ∈ nu) {S : Store} : F_is_fraction_by [.d (frD p)] S = .ok (.d (.bl true)) S := by
  have h0 : ¬ p.2 ≤ 0 := by have := (h.sz p hp).pos; omega
  have h5 := h.least p hp
  have t2 := fun S => tuple_of (l := [.int p.1, .int p.2]) (n := 2) (S := S)
  unfold F_is_fraction_by b_is_fraction_by
  simp [mkFn_eq, frD, t2, whole_int, h0, h5]
theorem kat_ok {Vn Bn m : Nat} {ns : List Nd} {nu : List (Int × Int)} (K : K2 m ns) (hl : ns.length ≤ 1000) (hn : NuOk Vn Bn m nu) {w : Int × Int} (h : Rch ns nu 0 w) {S : Store} : F_kink_at [.d (kD ns), .d (.int m), .d (.tup (nu.map frD))] S = .ok (.d (frD w)) S := by
  have hp := List.length_pos_iff.mpr K.pos
  obtain ⟨j, l, k1, rfl, k2⟩ := line_loop K hn (b0 := S.length) (S := S) h fuelW (fuel_big (by omega))
  have hol := K.each j _ k1
  have e2 := fun S => worth_ok (ln_l hn hol) (S := S)
  have ix := kd_at k1 (S := S)
  have la : F_line_at [.d (kD ns), .d (.tup (nu.map frD))] S = .ok (.d (.tup (l.map frD))) S := by
    unfold F_line_at b_line_at
    generalize kD ns = Kd at *
    simp only [nD] at ix
    generalize l.map frD = L at *
    generalize nu.map frD = W at *
    simp only [Int.ofNat_zero] at k2
    simp [mkFn_eq, k2, ix]
  have kw : F_kink_worth [.d (kD ns), .d (.tup (nu.map frD))] S = .ok (.d (frD (lineF l nu))) S := by
    unfold F_kink_worth b_kink_worth
    generalize frD (lineF l nu) = R at *
    generalize l.map frD = L at *
    generalize nu.map frD = W at *
    generalize kD ns = Kd at *
    simp [mkFn_eq, la, e2]
  have c := fun S => cm_ok hn.hm (S := S)
  have k := fun S => ck_ok (fun S => kb_ok K (by have := hn.hm; omega) hl (S := S)) (S := S)
  have t : ∀ S, F_is_tuple_of [.d (.tup (nu.map frD)), .d (.int m)] S = .ok (.d (.bl true)) S := fun S => by
    rw [tuple_of, List.length_map, hn.len]
    simp
  have e : ∀ (v0 v1 : Option Wt) (S : Store), eLc (iVal (eVar 2)) (gN 3) (tYs) (eB F_is_fraction_by (aCons (eVar 3) (aNil))) [3] [v0, v1, some (.d (.tup (nu.map frD))), none] S = .ok (.d (.lst ((nu.map frD).map fun _ => .bl true))) S := fun v0 v1 S => by
    refine eLc_map _ (by simp [itemsOf]) (by have := hn.len; have := hn.hm; simp; omega) ?_
    intro d hd acc
    obtain ⟨p, hp, rfl⟩ := List.mem_map.mp hd
    have := fun S => nu_frac hn hp (S := S)
    exact ⟨_, by simp [wipeD]; rfl, by simp, by simp [wipeD, this]⟩
  have ha := fun S : Store => all_ok (l := (nu.map frD).map fun _ => D.bl true) (S := S) (fun d h => by obtain ⟨_, _, rfl⟩ := List.mem_map.mp h; rfl)
  unfold F_kink_at b_kink_at
  generalize ((nu.map frD).map fun _ => D.bl true) = L at *
  generalize frD (lineF l nu) = R at *
  generalize kD ns = Kd at *
  generalize nu.map frD = W at *
  simp [mkFn_eq, c, k, t, e, ha, kw]
end K15
end
section
/-! the law's own going -/
namespace K15
open PySem PySem.Spec PyProof.Rows L2 Y
theorem forN_rt {g : GM} {f : SM} {b : Nat} {d : D} {ds : List D} {σ σ1 : Ev} {S S1 S2 : Store} {w : Wt} (h1 : g (.d d) σ S = .ok σ1 S1) (h2 : f b σ1 S1 = .rt w S2) : forN g f (d :: ds) b σ S = .rt w S2 := by
  simp only [forN, h1, ok_toS, h2]
theorem form_lc {f : List Int} (hf : f.length ≤ 1000) {k : Nat} {w : EM} {σ : Ev} {S : Store} (hw : iVal w σ S = .ok (f.map D.int) S) (hk : k < σ.length) : eLc (iVal w) (gN k) (tYs) (eTup (aCons (eVar k) (aCons (eC (.int 1)) (aNil)))) [k] σ S = .ok (.d (.lst ((f.map wfF).map frD))) S := by
  have := eLc_map (w := iVal w) (g := gN k) (t := tYs) (e := eTup (aCons (eVar k) (aCons (eC (.int 1)) (aNil)))) (vs := [k]) (σ := σ) (S := S) (ds := f.map D.int)
    (fun d => .tup [d, .int 1]) hw (by simp; omega) (by
      intro d hd acc
      obtain ⟨x, hx', rfl⟩ := List.mem_map.mp hd
      refine ⟨(wipeD σ [k]).set k (some (.d (.int x))), ?_, by simp, ?_⟩
      · have : (wipeD σ [k]).length = σ.length := by simp [wipeD]
        simp [this, hk]
      · have hl : (wipeD σ [k]).length = σ.length := by simp [wipeD]
        have : ((wipeD σ [k]).set k (some (Wt.d (.int x))))[k]? = some (some (.d (.int x))) := by rw [List.getElem?_set_self (by omega)]
        generalize (wipeD σ [k]).set k (some (.d (.int x))) = ρ at this
        simp [this])
  rw [this, wf_map, List.map_map]
  rfl
theorem lkat_loop {Vn Bn m : Nat} {ns : List Nd} {nu : List (Int × Int)} (K : K2 m ns) (hn : NuOk Vn Bn m nu) {b0 : Nat} {S : Store} {i : Nat} {w : Int × Int} (h : Rch ns nu i w) : ∀ (ds : List D) (v3 v4 : Option Wt), ns.length - i ≤ ds.length →
    forN (gN 3) (sSeq (sIf (tBl (eOp (opEq false) (eOp opIx (eOp opIx (eVar 0) (eVar 2)) (eC (.int 0))) (eC (.str "line"))))
  (sRet (eB F__law_line_at (aCons (eOp opIx (eOp opIx (eVar 0) (eVar 2)) (eC (.int 1))) (aCons (eVar 1) (aNil)))))
  (sNext))
  (sSeq (sSet 4 (eB F__law_line_at (aCons (eLc (iVal (eOp opIx (eOp opIx (eVar 0) (eVar 2)) (eC (.int 1)))) (gN 5) (tYs) (eTup (aCons (eVar 5) (aCons (eC (.int 1)) (aNil)))) [5]) (aCons (eVar 1) (aNil)))))
  (sSet 2 (eOp opIx (eOp opIx (eVar 0) (eVar 2)) (eIf (tBl (eOp opLe (eOp opIx (eVar 4) (eC (.int 0))) (eC (.int 0)))) (eC (.int 2)) (eC (.int 3))))))) ds b0 [some (.d (kD ns)), some (.d (.tup (nu.map frD))), some (.d (.int i)), v3, v4, none] S = .rt (.d (frD w)) S := by
  induction h with
  | @ln i l q =>
    intro ds v3 v4 hds
    have hi := (List.getElem?_eq_some_iff.mp q).1
    cases ds with
    | nil => simp at hds; omega
    | cons d ds =>
      have ix := kd_at q (S := S)
      have hol := K.each i _ q
      have e := lline_ok (ln_l hn hol) (.inl ⟨rfl, rfl⟩) (S := S)
      refine forN_rt (σ1 := [some (.d (kD ns)), some (.d (.tup (nu.map frD))), some (.d (.int i)), some (.d d), v4, none]) rfl ?_
      generalize kD ns = Kd at *
      generalize nu.map frD = W at *
      simp only [nD] at ix
      generalize frD (lineF l nu) = R at *
      generalize l.map frD = L at *
      simp [ix, e]
  | @lo i f x y w q s r ih =>
    intro ds v3 v4 hds
    have hi := (List.getElem?_eq_some_iff.mp q).1
    obtain ⟨h6, h7, h8, h9, h10⟩ := K.each i _ q
    cases ds with
    | nil => simp at hds; omega
    | cons d ds =>
      rw [List.length_cons] at hds
      have ix := fun S => kd_at q (S := S)
      have e := fun S => lline_ok (ln_f hn h6) (.inr (.inl ⟨rfl, rfl⟩)) (S := S)
      have lc := form_lc (f := f) (k := 5) (w := eOp opIx (eOp opIx (eVar 0) (eVar 2)) (eC (.int 1))) (σ := [some (.d (kD ns)), some (.d (.tup (nu.map frD))), some (.d (.int i)), some (.d d), v4, none]) (S := S) (by rw [h6.len]; have := hn.hm; omega) (by
        generalize kD ns = Kd at *
        simp only [nD] at ix
        simp [ix, itemsOf]) (by simp)
      have i2 : ∀ l : List D, atI [D.str "cut", D.tup l, D.int (x : Int), D.int (y : Int)] 2 = some (.int x) := fun l => atIn (k := 2)
      have ih := ih ds (some (.d d)) (some (.d (frD (lineF (f.map wfF) nu)))) (by omega)
      rw [← ih]
      refine forN_next (σ1 := [some (.d (kD ns)), some (.d (.tup (nu.map frD))), some (.d (.int i)), some (.d d), v4, none]) rfl ?_
      generalize kD ns = Kd at *
      generalize nu.map frD = W at *
      generalize lineF (f.map wfF) nu = v at *
      simp only [nD, frD] at ix e ⊢
      generalize (f.map wfF).map frD = L' at *
      generalize f.map D.int = L at *
      simp [ix, e, lc, s, i2, str_dec2]
  | @hi i f x y w q s r ih =>
    intro ds v3 v4 hds
    have hi := (List.getElem?_eq_some_iff.mp q).1
    obtain ⟨h6, h7, h8, h9, h10⟩ := K.each i _ q
    cases ds with
    | nil => simp at hds; omega
    | cons d ds =>
      rw [List.length_cons] at hds
      have ix := fun S => kd_at q (S := S)
      have e := fun S => lline_ok (ln_f hn h6) (.inr (.inl ⟨rfl, rfl⟩)) (S := S)
      have lc := form_lc (f := f) (k := 5) (w := eOp opIx (eOp opIx (eVar 0) (eVar 2)) (eC (.int 1))) (σ := [some (.d (kD ns)), some (.d (.tup (nu.map frD))), some (.d (.int i)), some (.d d), v4, none]) (S := S) (by rw [h6.len]; have := hn.hm; omega) (by
        generalize kD ns = Kd at *
        simp only [nD] at ix
        simp [ix, itemsOf]) (by simp)
      have i3 : ∀ l : List D, atI [D.str "cut", D.tup l, D.int (x : Int), D.int (y : Int)] 3 = some (.int y) := fun l => atIn (k := 3)
      have ih := ih ds (some (.d d)) (some (.d (frD (lineF (f.map wfF) nu)))) (by omega)
      rw [← ih]
      refine forN_next (σ1 := [some (.d (kD ns)), some (.d (.tup (nu.map frD))), some (.d (.int i)), some (.d d), v4, none]) rfl ?_
      generalize kD ns = Kd at *
      generalize nu.map frD = W at *
      generalize lineF (f.map wfF) nu = v at *
      have s : ¬ v.1 ≤ 0 := by omega
      simp only [nD, frD] at ix e ⊢
      generalize (f.map wfF).map frD = L' at *
      generalize f.map D.int = L at *
      simp [ix, e, lc, s, i3, str_dec2]
theorem lkat_ok {Vn Bn m : Nat} {ns : List Nd} {nu : List (Int × Int)} (K : K2 m ns) (hl : ns.length ≤ 1000) (hn : NuOk Vn Bn m nu) {w : Int × Int} (h : Rch ns nu 0 w) {S : Store} : F__law_kink_at [.d (kD ns), .d (.tup (nu.map frD))] S = .ok (.d (frD w)) S := by
  have e := lkat_loop K hn (b0 := S.length) (S := S) h (rng 0 ns.length) none none (by rw [rng_length]; omega)
  have r := rg1_nat (S := S) (j := ns.length) (by omega)
  have lk : bLen [.d (kD ns)] S = .ok (.d (.int ns.length)) S := by simp [kD]
  unfold F__law_kink_at b__law_kink_at
  generalize kD ns = Kd at *
  generalize nu.map frD = W at *
  generalize frD w = R at *
  simp only [Int.ofNat_zero] at e
  simp [mkFn_eq, lk, r, e]
end K15
end
section
/-! the numbers that are drawn -/
namespace Y
open PySem PySem.Spec PyProof.Rows L2
theorem eLcL_run {g : GM} {t : TM} {e : EM} {w : IM} {vs : List Nat} {σ : Ev} {S0 S : Store} {ds : List D} (I : Store → Prop) (P : D → Prop) (hw : w σ S0 = .ok ds S) (hI : I S) (hl : ds.length ≤ lim)
    (hd : ∀ d ∈ ds, ∀ acc' S', S'.length = S.length → I S' → ∃ σ2 y S'' J, g (.d d) (wipeD σ vs) (S' ++ [.lst acc']) = .ok σ2 (S' ++ [.lst acc']) ∧ t σ2 (S' ++ [.lst acc']) = .ok true (S' ++ [.lst acc']) ∧ e σ2 (S' ++ [.lst acc']) = .ok (.d y) (S'' ++ .lst acc' :: J) ∧ S''.length = S.length ∧ I S'' ∧ P y) :
    ∃ ys S', eLcL w g t e vs σ S0 = .ok (.loc S.length) (S' ++ [.lst ys]) ∧ S'.length = S.length ∧ I S' ∧ ys.length = ds.length ∧ ∀ y ∈ ys, P y := by
  obtain ⟨ys, S', e2, q1, q2, q3, q4⟩ := lc_run I P ds [] S rfl hI hd (by simpa using hl)
  refine ⟨ys, S', ?_, q1, q2, q3, q4⟩
  show (w σ S0).bind _ = _
  rw [hw, ok_bind, e2]
  simp [optS, finL]
theorem sl_loc {N : Nat} {l : List D} {lo hi : Option Int} {S : Store} (e : S[N]? = some (.lst l)) : opSl (.loc N) lo hi S = .ok (.d (.lst (cutD l lo hi))) S := by simp [opSl, deref, e, cellD]
theorem cut_take (l : List D) (k : Nat) : cutD l none (some (k : Int)) = l.take k := by
  unfold cutD
  rw [HT.sIx_none, HT.sIx_nat]
  rw [Nat.sub_zero, List.drop_zero]
  by_cases h : k ≤ l.length
  · rw [Nat.min_eq_left h]
  · rw [Nat.min_eq_right (by omega), List.take_of_length_le (Nat.le_refl _), List.take_of_length_le (by omega)]
end Y
namespace K15
open PySem PySem.Spec PyProof.Rows L2 Y
theorem nrm_least {p q : Int} (hq : 0 < q) : Nat.gcd (nrm p q).1.natAbs (nrm p q).2.natAbs = 1 := by
  obtain ⟨g, a, b, hg, rfl, rfl, hb, e, hgg⟩ := nrm_parts (p := p) hq
  rw [e]
  rw [Int.natAbs_mul, Int.natAbs_mul, Int.natAbs_natCast, Nat.gcd_mul_left] at hgg
  show Nat.gcd a.natAbs b.natAbs = 1
  have h1 : g * Nat.gcd a.natAbs b.natAbs = g * 1 := by omega
  exact Nat.eq_of_mul_eq_mul_left hg h1
theorem one_lst {n : Nat} {S : Store} (hp : Pl n S) {l : List D} (h1 : l ≠ []) (h2 : l.length ≤ 50000000) :
    ∃ d ∈ l, ∃ S', F__law_one [.loc n, .d (.lst l)] S = .ok (.d d) S' ∧ Mv n S S' := by
  have hl : 0 < l.length := List.length_pos_iff.mpr h1
  obtain ⟨r, S', e, mv, r1, r2⟩ := take_ok hp (many := l.length) (by omega) (by omega)
  have hr : r.toNat < l.length := by omega
  refine ⟨l[r.toNat], List.getElem_mem hr, S', ?_, mv⟩
  have : atI l r = some l[r.toNat] := by
    have := atIn (l := l) (k := r.toNat)
    rw [show ((r.toNat : Nat) : Int) = r by omega] at this
    rw [this, List.getElem?_eq_getElem hr]
  unfold F__law_one b__law_one
  simp [mkFn_eq, e, this, ← mv.length]
def NA : List D := [.int 0, .int 1, .int (-1), .int 2, .int 5, .int (-7), .int 100000000000000000000]
def NB : List D := [.int 1, .int 1, .int 2, .int 3, .int 1000000000]
theorem na_ok {d : D} (h : d ∈ NA) : ∃ a : Int, d = .int a ∧ a.natAbs ≤ 100000000000000000000 := by
  simp only [NA, List.mem_cons, List.not_mem_nil, or_false] at h
  rcases h with rfl | rfl | rfl | rfl | rfl | rfl | rfl <;> exact ⟨_, rfl, by decide⟩
theorem nb_ok {d : D} (h : d ∈ NB) : ∃ a : Int, d = .int a ∧ 0 < a ∧ a.natAbs ≤ 1000000000 := by
  simp only [NB, List.mem_cons, List.not_mem_nil, or_false] at h
  rcases h with rfl | rfl | rfl | rfl | rfl <;> exact ⟨_, rfl, by decide, by decide⟩
theorem pow20 {S : Store} : opPow (.d (.int 10)) (.d (.int 20)) S = .ok (.d (.int 100000000000000000000)) S := by simp [opPow]
theorem pow9 {S : Store} : opPow (.d (.int 10)) (.d (.int 9)) S = .ok (.d (.int 1000000000)) S := by simp [opPow]
theorem ratio_any {q : Int} (h0 : q ≠ 0) (h : -3 ≤ q ∧ q ≤ 3) : ∃ p : Int × Int, Sz 0 2 p ∧ ∀ S, F__law_ratio [.d (.int (-1)), .d (.int q)] S = .ok (.d (frD p)) S := by
  by_cases hq : 0 < q
  · exact ⟨nrm (-1) q, sz_nrm hq (by omega) (by omega), fun S => ratio_big (k := 2) hq (by omega) (by omega)⟩
  · exact ⟨nrm (0 - (-1)) (0 - q), sz_nrm (by omega) (by omega) (by omega), fun S => ratio_neg (k := 2) (by omega) (by omega) (by omega)⟩
theorem all_fr {P : Int × Int → Prop} : ∀ {ys : List D}, (∀ y ∈ ys, ∃ p, y = frD p ∧ P p) → ∃ xs : List (Int × Int), ys = xs.map frD ∧ ∀ x ∈ xs, P x
  | [], _ => ⟨[], rfl, fun _ h => nomatch h⟩
  | y :: ys, h => by
    obtain ⟨i, rfl, hi⟩ := h y (List.mem_cons_self ..)
    obtain ⟨xs, rfl, hx⟩ := all_fr fun z hz => h z (List.mem_cons_of_mem _ hz)
    exact ⟨i :: xs, rfl, fun x hx' => (List.mem_cons.mp hx').elim (fun e => e ▸ hi) (hx x)⟩
/-- the forms of a KINK's cuts -/
def fmsD (d : D) : D := match d with
  | .tup (_ :: x :: _) => x
  | d => d
def isCut (d : D) : Bool := match d with
  | .tup (.str s :: _) => decide (s = "cut")
  | _ => false
theorem forms_lc {m : Nat} {ns : List Nd} (K : K2 m ns) (hl : ns.length ≤ 1000) {σ : Ev} (h1 : σ[1]? = some (some (.d (kD ns)))) (h6 : 6 < σ.length) {S : Store} :
    ∃ Fs : List (List Int), (∀ f ∈ Fs, OkF m f) ∧ Fs.length ≤ 1000 ∧ eLc (iVal (eVar 1)) (gN 6) (tBl (eOp (opEq false) (eOp opIx (eVar 6) (eC (.int 0))) (eC (.str "cut")))) (eOp opIx (eVar 6) (eC (.int 1))) [6] σ S = .ok (.d (.lst (Fs.map fun f => D.tup (f.map D.int)))) S := by
  have e := eLc_filter (w := iVal (eVar 1)) (g := gN 6) (t := tBl (eOp (opEq false) (eOp opIx (eVar 6) (eC (.int 0))) (eC (.str "cut")))) (e := eOp opIx (eVar 6) (eC (.int 1))) (vs := [6]) (σ := σ) (S := S) (ds := ns.map nD) fmsD isCut (by simp [h1, kD, itemsOf]) (by simp; omega) (by
    intro d hd acc
    obtain ⟨x, hx, rfl⟩ := List.mem_map.mp hd
    have hw : (wipeD σ [6]).length = σ.length := by simp [wipeD]
    refine ⟨(wipeD σ [6]).set 6 (some (.d (nD x))), by simp [hw, h6], ?_, fun hc => ?_⟩
    · have : ((wipeD σ [6]).set 6 (some (Wt.d (nD x))))[6]? = some (some (.d (nD x))) := by rw [List.getElem?_set_self (by omega)]
      generalize (wipeD σ [6]).set 6 (some (.d (nD x))) = ρ at this
      cases x with
      | cut f a b => simp [this, nD, isCut]
      | ln l => simp [this, nD, isCut, str_dec]
    · have : ((wipeD σ [6]).set 6 (some (Wt.d (nD x))))[6]? = some (some (.d (nD x))) := by rw [List.getElem?_set_self (by omega)]
      generalize (wipeD σ [6]).set 6 (some (.d (nD x))) = ρ at this
      cases x with
      | cut f a b => simp [this, nD, fmsD]
      | ln l => simp [nD, isCut, str_dec] at hc)
  have : ∃ Fs : List (List Int), (∀ f ∈ Fs, OkF m f) ∧ Fs.length ≤ 1000 ∧ ((ns.map nD).filter isCut).map fmsD = Fs.map fun f => D.tup (f.map D.int) := by
    have hk : ∀ x ∈ ns, ∃ i, okN m i ns.length x := fun x hx => by
      obtain ⟨i, hi⟩ := List.mem_iff_getElem?.mp hx
      exact ⟨i, K.each i x hi⟩
    have key : ∀ (N : Nat) (xs : List Nd), (∀ x ∈ xs, ∃ i, okN m i N x) → ∃ Fs : List (List Int), (∀ f ∈ Fs, OkF m f) ∧ Fs.length ≤ xs.length ∧ ((xs.map nD).filter isCut).map fmsD = Fs.map fun f => D.tup (f.map D.int) := by
      intro N xs
      induction xs with
      | nil =>
        intro _
        exact ⟨[], ⟨fun f hf => (nomatch hf), Nat.le_refl _, rfl⟩⟩
      | cons x xs ih =>
        intro h
        obtain ⟨Fs, q1, q2, q3⟩ := ih fun y hy => h y (List.mem_cons_of_mem _ hy)
        obtain ⟨i, hi⟩ := h x (List.mem_cons_self ..)
        cases x with
        | cut f a b =>
          refine ⟨f :: Fs, fun g hg => ?_, by simp; omega, ?_⟩
          · rcases List.mem_cons.mp hg with rfl | hg
            · exact hi.1
            · exact q1 g hg
          · rw [List.map_cons, List.filter_cons_of_pos (by simp [nD, isCut]), List.map_cons, q3]
            rfl
        | ln l =>
          refine ⟨Fs, q1, by simp; omega, ?_⟩
          rw [List.map_cons, List.filter_cons_of_neg (by simp [nD, isCut, str_dec]), q3]
    obtain ⟨Fs, q1, q2, q3⟩ := key ns.length ns hk
    exact ⟨Fs, q1, by omega, q3⟩
  obtain ⟨Fs, q1, q2, q3⟩ := this
  rw [q3] at e
  exact ⟨Fs, q1, q2, e⟩
end K15
end
section
/-! the numbers that are drawn, whole -/
namespace K15
open PySem PySem.Spec PyProof.Rows L2 Y
def mixZ (zs : List (Int × Int)) (k : Nat) : List (Int × Int) := zs.take k ++ [(0, 1)] ++ zs.drop (k + 1)
def ED : List D := [.tup [.int 0, .int 1], .tup [.int 0, .int 1], .tup [.int 1, .int 1000], .tup [.int (-1), .int 1000]]
theorem ed_ok {d : D} (h : d ∈ ED) : ∃ p, d = frD p ∧ Sz 0 10 p := by
  simp only [ED, List.mem_cons, List.not_mem_nil, or_false] at h
  rcases h with rfl | rfl | rfl | rfl
  · exact ⟨(0, 1), rfl, by decide, by decide, by decide⟩
  · exact ⟨(0, 1), rfl, by decide, by decide, by decide⟩
  · exact ⟨(1, 1000), rfl, by decide, by decide, by decide⟩
  · exact ⟨(-1, 1000), rfl, by decide, by decide, by decide⟩
theorem count_lc {m : Nat} (hm : m ≤ 5) {f : List Int} (hf : OkF m f) {σ : Ev} (h2 : σ[2]? = some (some (.d (.int m)))) (h7 : σ[7]? = some (some (.d (.tup (f.map D.int))))) (hl : σ.length = 11) {S : Store} : ∃ (k : Nat) (rest : List D), k < m ∧ f.getD k 0 ≠ 0 ∧
    (eLc (iRng1 (aCons (eVar 2) (aNil))) (gN 4) (tBl (eOp (opEq true) (eOp opIx (eVar 7) (eVar 4)) (eC (.int 0)))) (eVar 4) [4]) σ S = .ok (.d (.lst (.int k :: rest))) S := by
  have e := eLc_filter (w := iRng1 (aCons (eVar 2) (aNil))) (g := gN 4) (t := tBl (eOp (opEq true) (eOp opIx (eVar 7) (eVar 4)) (eC (.int 0)))) (e := eVar 4) (vs := [4]) (σ := σ) (S := S) (ds := rng 0 m) (fun d => d) (fun d => match d with | .int i => decide (f.getD i.toNat 0 ≠ 0) | _ => false) (by
      have := rg1_nat (S := S) (j := m) (by omega)
      simp [h2, this]) (by rw [rng_length, lim_eq]; omega) (by
      intro d hd acc
      obtain ⟨i, hi, rfl⟩ := rng_mem hd
      have e0 : (0 : Int) + (i : Int) = (i : Nat) := by omega
      rw [e0]
      have hw : (wipeD σ [4]).length = 11 := by simp [wipeD, hl]
      have w7 : (wipeD σ [4])[7]? = some (some (.d (.tup (f.map D.int)))) := by simp [wipeD, h7]
      have hi2 : i < f.length := by rw [hf.len]; omega
      have gi : f.getD i 0 = f[i] := by rw [List.getD_eq_getElem?_getD, List.getElem?_eq_getElem hi2]; rfl
      refine ⟨(wipeD σ [4]).set 4 (some (.d (.int i))), by simp [hw], ?_, fun _ => ?_⟩
      · have q4 : ((wipeD σ [4]).set 4 (some (Wt.d (.int i))))[4]? = some (some (.d (.int i))) := by rw [List.getElem?_set_self (by omega)]
        have q7 : ((wipeD σ [4]).set 4 (some (Wt.d (.int i))))[7]? = some (some (.d (.tup (f.map D.int)))) := by rw [List.getElem?_set_ne (by decide)]; exact w7
        have ai : atI (f.map D.int) (i : Int) = some (.int f[i]) := by rw [atIn, List.getElem?_map, List.getElem?_eq_getElem hi2]; rfl
        generalize (wipeD σ [4]).set 4 (some (.d (.int i))) = ρ at q4 q7
        generalize f.map D.int = L at *
        simp only [Int.toNat_natCast, gi]
        simp [q4, q7, ai]
      · have q4 : ((wipeD σ [4]).set 4 (some (Wt.d (.int i))))[4]? = some (some (.d (.int i))) := by rw [List.getElem?_set_self (by omega)]
        generalize (wipeD σ [4]).set 4 (some (.d (.int i))) = ρ at q4
        simp [q4])
  rw [List.map_id''] at e
  · cases q : (rng 0 m).filter (fun d => match d with | .int i => decide (f.getD i.toNat 0 ≠ 0) | _ => false) with
    | nil =>
      exfalso
      obtain ⟨x, hx, hx0⟩ := hf.some_
      obtain ⟨j, hj⟩ := List.mem_iff_getElem?.mp hx
      rw [List.getElem?_dropLast] at hj
      by_cases hjl : j < f.length - 1
      · rw [if_pos hjl] at hj
        have hjm : j < m := by have := hf.len; omega
        have hin : D.int (j : Int) ∈ rng 0 m := by
          unfold rng
          exact List.mem_map.mpr ⟨j, List.mem_range.mpr hjm, by simp⟩
        have := List.filter_eq_nil_iff.mp q _ hin
        change ¬ decide (f.getD ((j : Int).toNat) 0 ≠ 0) = true at this
        rw [Int.toNat_natCast, List.getD_eq_getElem?_getD, hj] at this
        exact this (decide_eq_true hx0)
      · rw [if_neg hjl] at hj
        cases hj
    | cons d rest =>
      have hd : d ∈ (rng 0 m).filter (fun d => match d with | .int i => decide (f.getD i.toNat 0 ≠ 0) | _ => false) := by rw [q]; exact List.mem_cons_self ..
      obtain ⟨h1, h3⟩ := List.mem_filter.mp hd
      obtain ⟨i, hi, rfl⟩ := rng_mem h1
      have e0 : (0 : Int) + (i : Int) = (i : Nat) := by omega
      rw [e0] at h3 q
      rw [q] at e
      refine ⟨i, rest, hi, ?_, e⟩
      change decide (f.getD ((i : Int).toNat) 0 ≠ 0) = true at h3
      rw [Int.toNat_natCast] at h3
      exact of_decide_eq_true h3
  · intro d; rfl
theorem edge_ok {n : Nat} {S S1 : Store} (mv : Mv n S S1) {m : Nat} {ns : List Nd} (hm : m ≤ 5) {zs : List (Int × Int)} (hz : zs.length = m) (h67 : ∀ p ∈ zs, Sz 67 30 p ∧ Nat.gcd p.1.natAbs p.2.natAbs = 1) {Fs : List (List Int)} (hF : ∀ f ∈ Fs, OkF m f) (hne : Fs ≠ []) (hFl : Fs.length ≤ 1000) {b0 : Nat} :
    ∃ (S2 : Store) (zs2 : List (Int × Int)) (d7 d8 d9 : Option Wt), (sSeq (sSet 7 (eB F__law_one (aCons (eVar 0) (aCons (eVar 5) (aNil)))))
  (sSeq (sSet 8 (eOp opIx (eLc (iRng1 (aCons (eVar 2) (aNil))) (gN 4) (tBl (eOp (opEq true) (eOp opIx (eVar 7) (eVar 4)) (eC (.int 0)))) (eVar 4) [4]) (eC (.int 0))))
  (sSeq (sSet 9 (eB F__law_line_at (aCons (eLc (iVal (eVar 7)) (gN 10) (tYs) (eTup (aCons (eVar 10) (aCons (eC (.int 1)) (aNil)))) [10]) (aCons (eOp opAdd (eOp opAdd (eSl opSl (eVar 3) (oNone) (oSome (eVar 8))) (eLst (aCons (eTup (aCons (eC (.int 0)) (aCons (eC (.int 1)) (aNil)))) (aNil)))) (eSl opSl (eVar 3) (oSome (eOp opAdd (eVar 8) (eC (.int 1)))) (oNone))) (aNil)))))
  (sAsg (gSb (eVar 3) (eVar 8)) (eB F__law_plus (aCons (eB F__law_times (aCons (eVar 9) (aCons (eB F__law_ratio (aCons (eUn opNeg (eC (.int 1))) (aCons (eOp opIx (eVar 7) (eVar 8)) (aNil)))) (aNil)))) (aCons (eB F__law_one (aCons (eVar 0) (aCons (eTup (aCons (eTup (aCons (eC (.int 0)) (aCons (eC (.int 1)) (aNil)))) (aCons (eTup (aCons (eC (.int 0)) (aCons (eC (.int 1)) (aNil)))) (aCons (eTup (aCons (eC (.int 1)) (aCons (eC (.int 1000)) (aNil)))) (aCons (eTup (aCons (eUn opNeg (eC (.int 1))) (aCons (eC (.int 1000)) (aNil)))) (aNil)))))) (aNil)))) (aNil)))))))) b0 [some (.loc n), some (.d (kD ns)), some (.d (.int m)), some (.loc S1.length), none, some (.d (.lst (Fs.map fun f => D.tup (f.map D.int)))), none, none, none, none, none] (S1 ++ [.lst (zs.map frD)]) = .nx [some (.loc n), some (.d (kD ns)), some (.d (.int m)), some (.loc S1.length), none, some (.d (.lst (Fs.map fun f => D.tup (f.map D.int)))), none, d7, d8, d9, none] (S2 ++ [.lst (zs2.map frD)]) ∧ Mv n S S2 ∧ zs2.length = m ∧ ∀ p ∈ zs2, Sz 76 174 p ∧ Nat.gcd p.1.natAbs p.2.natAbs = 1 := by
  obtain ⟨d, hd, T1, q1, w1⟩ := one_lst (mv.pl.app (T := [.lst (zs.map frD)])) (l := Fs.map fun f => D.tup (f.map D.int)) (by simpa using hne) (by simp; omega)
  obtain ⟨f, hf, rfl⟩ := List.mem_map.mp hd
  have hf := hF f hf
  obtain ⟨S3, rfl, mv3⟩ := w1.back mv.pl.lt
  have mv03 := mv.trans mv3
  have l3 : S3.length = S1.length := by rw [mv03.length, mv.length]
  have cell : ∀ X : Store, X.length = S1.length → ∀ l : List D, (X ++ [Cell.lst l])[S1.length]? = some (.lst l) := fun X hX l => by
    rw [List.getElem?_append_right (by omega), hX, Nat.sub_self]
    rfl
  have c3 := cell S3 l3 (zs.map frD)
  obtain ⟨k, rest, hk, hfk, e8⟩ := count_lc hm hf (σ := [some (.loc n), some (.d (kD ns)), some (.d (.int m)), some (.loc S1.length), none, some (.d (.lst (Fs.map fun f => D.tup (f.map D.int)))), none, some (.d (.tup (f.map D.int))), none, none, none]) rfl rfl rfl (S := S3 ++ [.lst (zs.map frD)])
  have hkf : k < f.length := by rw [hf.len]; omega
  have gk : f.getD k 0 = f[k] := by rw [List.getD_eq_getElem?_getD, List.getElem?_eq_getElem hkf]; rfl
  rw [gk] at hfk
  have lnk : LnOk 67 30 (f.map wfF) (mixZ zs k) := ⟨fun e => by have := congrArg List.length e; simp [hf.len] at this, fun p hp => by
    obtain ⟨x, hx, rfl⟩ := List.mem_map.mp hp
    exact wf_sz (hf.small x hx), fun p hp => by
    simp only [mixZ, List.mem_append, List.mem_cons, List.not_mem_nil, or_false] at hp
    rcases hp with (hp | rfl) | hp
    · exact (h67 p (List.mem_of_mem_take hp)).1
    · exact ⟨by decide, by decide, by decide⟩
    · exact (h67 p (List.mem_of_mem_drop hp)).1, by simp [mixZ, hz]; omega, by decide, by decide⟩
  have e9 := fun S => lline_ok lnk (.inr (.inr ⟨rfl, rfl⟩)) (S := S)
  have s9 := line_sz lnk
  have lc9 := form_lc (f := f) (k := 10) (w := eVar 7) (σ := [some (.loc n), some (.d (kD ns)), some (.d (.int m)), some (.loc S1.length), none, some (.d (.lst (Fs.map fun f => D.tup (f.map D.int)))), none, some (.d (.tup (f.map D.int))), some (.d (.int k)), none, none]) (S := S3 ++ [.lst (zs.map frD)]) (by rw [hf.len]; omega) (by simp [itemsOf]) (by simp)
  have sm := hf.small f[k] (List.getElem_mem hkf)
  obtain ⟨p, sp, ep⟩ := ratio_any hfk sm
  obtain ⟨o, ho, T4, q4, w4⟩ := one_ok (mv03.pl.app (T := [.lst (zs.map frD)])) (l := ED) (by simp [ED]) (by simp [ED])
  obtain ⟨o, rfl, so⟩ := ed_ok ho
  obtain ⟨S4, rfl, mv4⟩ := w4.back mv03.pl.lt
  have mv04 := mv03.trans mv4
  have l4 : S4.length = S1.length := by rw [mv04.length, mv.length]
  have et := fun S => ltimes_ok s9 sp (by decide) (S := S)
  have st := s9.tm sp
  have epl := fun S => lplus_ok st so (by decide) (S := S)
  have spl : Sz 76 174 (plF (tmF (lineF (f.map wfF) (mixZ zs k)) p) o) := (st.pl so).mono (by decide) (by decide)
  have lst : Nat.gcd (plF (tmF (lineF (f.map wfF) (mixZ zs k)) p) o).1.natAbs (plF (tmF (lineF (f.map wfF) (mixZ zs k)) p) o).2.natAbs = 1 := nrm_least (Int.mul_pos st.pos so.pos)
  refine ⟨S4, zs.set k (plF (tmF (lineF (f.map wfF) (mixZ zs k)) p) o), some (.d (.tup (f.map D.int))), some (.d (.int k)), some (.d (frD (lineF (f.map wfF) (mixZ zs k)))), ?_, mv04, by simp [hz], fun x hx => ?_⟩
  · have h7 : (sSet 7 (eB F__law_one (aCons (eVar 0) (aCons (eVar 5) (aNil))))) b0 [some (.loc n), some (.d (kD ns)), some (.d (.int m)), some (.loc S1.length), none, some (.d (.lst (Fs.map fun f => D.tup (f.map D.int)))), none, none, none, none, none] (S1 ++ [.lst (zs.map frD)]) = .nx [some (.loc n), some (.d (kD ns)), some (.d (.int m)), some (.loc S1.length), none, some (.d (.lst (Fs.map fun f => D.tup (f.map D.int)))), none, some (.d (.tup (f.map D.int))), none, none, none] (S3 ++ [.lst (zs.map frD)]) := by
      generalize (Fs.map fun f => D.tup (f.map D.int)) = FL at *
      generalize f.map D.int = L at *
      generalize kD ns = Kd at *
      generalize zs.map frD = Z at *
      simp [q1]
    have h8 : (sSet 8 (eOp opIx (eLc (iRng1 (aCons (eVar 2) (aNil))) (gN 4) (tBl (eOp (opEq true) (eOp opIx (eVar 7) (eVar 4)) (eC (.int 0)))) (eVar 4) [4]) (eC (.int 0)))) b0 [some (.loc n), some (.d (kD ns)), some (.d (.int m)), some (.loc S1.length), none, some (.d (.lst (Fs.map fun f => D.tup (f.map D.int)))), none, some (.d (.tup (f.map D.int))), none, none, none] (S3 ++ [.lst (zs.map frD)]) = .nx [some (.loc n), some (.d (kD ns)), some (.d (.int m)), some (.loc S1.length), none, some (.d (.lst (Fs.map fun f => D.tup (f.map D.int)))), none, some (.d (.tup (f.map D.int))), some (.d (.int k)), none, none] (S3 ++ [.lst (zs.map frD)]) := by
      generalize (Fs.map fun f => D.tup (f.map D.int)) = FL at *
      generalize f.map D.int = L at *
      generalize kD ns = Kd at *
      generalize zs.map frD = Z at *
      simp [e8]
    have t1 : cutD (zs.map frD) none (some (k : Int)) = (zs.take k).map frD := by rw [cut_take, List.map_take]
    have t2 : cutD (zs.map frD) (some ((k : Int) + 1)) none = (zs.drop (k + 1)).map frD := by
      have := cut_from (zs.map frD) (k + 1)
      rw [List.map_drop]
      exact this
    have sl1 := sl_loc (lo := none) (hi := some (k : Int)) c3
    have sl2 := sl_loc (lo := some ((k : Int) + 1)) (hi := none) c3
    rw [t1] at sl1
    rw [t2] at sl2
    have mz : (zs.take k).map frD ++ (D.tup [.int 0, .int 1] :: (zs.drop (k + 1)).map frD) = (mixZ zs k).map frD := by simp [mixZ, frD]
    have k1 : ((zs.take k).map frD).length + 1 ≤ lim := by rw [lim_eq]; simp; omega
    have k2 : ((zs.take k).map frD).length + 1 + ((zs.drop (k + 1)).map frD).length ≤ lim := by rw [lim_eq]; simp; omega
    have h9 : (sSet 9 (eB F__law_line_at (aCons (eLc (iVal (eVar 7)) (gN 10) (tYs) (eTup (aCons (eVar 10) (aCons (eC (.int 1)) (aNil)))) [10]) (aCons (eOp opAdd (eOp opAdd (eSl opSl (eVar 3) (oNone) (oSome (eVar 8))) (eLst (aCons (eTup (aCons (eC (.int 0)) (aCons (eC (.int 1)) (aNil)))) (aNil)))) (eSl opSl (eVar 3) (oSome (eOp opAdd (eVar 8) (eC (.int 1)))) (oNone))) (aNil))))) b0 [some (.loc n), some (.d (kD ns)), some (.d (.int m)), some (.loc S1.length), none, some (.d (.lst (Fs.map fun f => D.tup (f.map D.int)))), none, some (.d (.tup (f.map D.int))), some (.d (.int k)), none, none] (S3 ++ [.lst (zs.map frD)]) = .nx [some (.loc n), some (.d (kD ns)), some (.d (.int m)), some (.loc S1.length), none, some (.d (.lst (Fs.map fun f => D.tup (f.map D.int)))), none, some (.d (.tup (f.map D.int))), some (.d (.int k)), some (.d (frD (lineF (f.map wfF) (mixZ zs k)))), none] (S3 ++ [.lst (zs.map frD)]) := by
      rw [← mz] at e9
      generalize (Fs.map fun f => D.tup (f.map D.int)) = FL at *
      generalize frD (lineF (f.map wfF) (mixZ zs k)) = R at *
      generalize (f.map wfF).map frD = W at *
      generalize f.map D.int = L at *
      generalize kD ns = Kd at *
      generalize (zs.take k).map frD = Z1 at *
      generalize (zs.drop (k + 1)).map frD = Z2 at *
      generalize zs.map frD = Z at *
      simp [lc9, sl1, sl2, k1, k2, e9]
    have ak : atI (f.map D.int) (k : Int) = some (.int f[k]) := by rw [atIn, List.getElem?_map, List.getElem?_eq_getElem hkf]; rfl
    have c4 := cell S4 l4 (zs.map frD)
    have sc := set_loc (d := frD (plF (tmF (lineF (f.map wfF) (mixZ zs k)) p) o)) (k := (k : Int)) (j := k) c4 (ixN_nat (by simp; omega))
    have se : (S4 ++ [Cell.lst (zs.map frD)]).set S1.length (.lst ((zs.map frD).set k (frD (plF (tmF (lineF (f.map wfF) (mixZ zs k)) p) o)))) = S4 ++ [.lst ((zs.set k (plF (tmF (lineF (f.map wfF) (mixZ zs k)) p) o)).map frD)] := by
      rw [List.set_append_right _ _ (by omega), l4, Nat.sub_self, List.map_set]
      rfl
    rw [se] at sc
    have h10 : (sAsg (gSb (eVar 3) (eVar 8)) (eB F__law_plus (aCons (eB F__law_times (aCons (eVar 9) (aCons (eB F__law_ratio (aCons (eUn opNeg (eC (.int 1))) (aCons (eOp opIx (eVar 7) (eVar 8)) (aNil)))) (aNil)))) (aCons (eB F__law_one (aCons (eVar 0) (aCons (eTup (aCons (eTup (aCons (eC (.int 0)) (aCons (eC (.int 1)) (aNil)))) (aCons (eTup (aCons (eC (.int 0)) (aCons (eC (.int 1)) (aNil)))) (aCons (eTup (aCons (eC (.int 1)) (aCons (eC (.int 1000)) (aNil)))) (aCons (eTup (aCons (eUn opNeg (eC (.int 1))) (aCons (eC (.int 1000)) (aNil)))) (aNil)))))) (aNil)))) (aNil))))) b0 [some (.loc n), some (.d (kD ns)), some (.d (.int m)), some (.loc S1.length), none, some (.d (.lst (Fs.map fun f => D.tup (f.map D.int)))), none, some (.d (.tup (f.map D.int))), some (.d (.int k)), some (.d (frD (lineF (f.map wfF) (mixZ zs k)))), none] (S3 ++ [.lst (zs.map frD)]) = .nx [some (.loc n), some (.d (kD ns)), some (.d (.int m)), some (.loc S1.length), none, some (.d (.lst (Fs.map fun f => D.tup (f.map D.int)))), none, some (.d (.tup (f.map D.int))), some (.d (.int k)), some (.d (frD (lineF (f.map wfF) (mixZ zs k)))), none] (S4 ++ [.lst ((zs.set k (plF (tmF (lineF (f.map wfF) (mixZ zs k)) p) o)).map frD)]) := by
      simp only [ED] at q4
      generalize (zs.set k (plF (tmF (lineF (f.map wfF) (mixZ zs k)) p) o)).map frD = Z3 at *
      generalize plF (tmF (lineF (f.map wfF) (mixZ zs k)) p) o = v1 at *
      generalize tmF (lineF (f.map wfF) (mixZ zs k)) p = v2 at *
      generalize lineF (f.map wfF) (mixZ zs k) = v3 at *
      generalize frD v1 = V1 at *
      generalize frD v2 = V2 at *
      generalize frD v3 = V3 at *
      generalize frD p = P at *
      generalize frD o = O at *
      generalize (Fs.map fun f => D.tup (f.map D.int)) = FL at *
      generalize f.map D.int = L at *
      generalize kD ns = Kd at *
      generalize zs.map frD = Z at *
      simp [ep, et, q4, epl, ak, sc]
    simp only [sSeq_ap, h7, h8, h9, h10]
  · rcases List.mem_or_eq_of_mem_set hx with hx | rfl
    · exact ⟨(h67 x hx).1.mono (by decide) (by decide), (h67 x hx).2⟩
    · exact ⟨spl, lst⟩
theorem numbers_ok {n : Nat} {S : Store} (hp : Pl n S) {m : Nat} {ns : List Nd} (K : K2 m ns) (hl : ns.length ≤ 1000) (hm : m ≤ 5) : ∃ nu S', F__law_numbers [.loc n, .d (kD ns), .d (.int m)] S = .ok (.d (.tup (nu.map frD))) S' ∧ Mv n S S' ∧ NuOk 76 174 m nu := by
  obtain ⟨ys, S1, e1, l1, mv, l2, hP⟩ := eLcL_run (w := iRng1 (aCons (eVar 2) (aNil))) (g := gN 4) (t := tYs) (e := (eB F__law_ratio (aCons (eB F__law_one (aCons (eVar 0) (aCons (eTup (aCons (eC (.int 0)) (aCons (eC (.int 1)) (aCons (eUn opNeg (eC (.int 1))) (aCons (eC (.int 2)) (aCons (eC (.int 5)) (aCons (eUn opNeg (eC (.int 7))) (aCons (eOp opPow (eC (.int 10)) (eC (.int 20))) (aNil))))))))) (aNil)))) (aCons (eB F__law_one (aCons (eVar 0) (aCons (eTup (aCons (eC (.int 1)) (aCons (eC (.int 1)) (aCons (eC (.int 2)) (aCons (eC (.int 3)) (aCons (eOp opPow (eC (.int 10)) (eC (.int 9))) (aNil))))))) (aNil)))) (aNil))))) (vs := [4])
    (σ := [some (.loc n), some (.d (kD ns)), some (.d (.int m)), none, none, none, none, none, none, none, none]) (S0 := S) (S := S) (ds := rng 0 m) (fun S' => Mv n S S') (fun y => ∃ p, y = frD p ∧ (Sz 67 30 p ∧ Nat.gcd p.1.natAbs p.2.natAbs = 1)) (by
      have := rg1_nat (S := S) (j := m) (by omega)
      generalize kD ns = Kd
      simp [this]) hp.mv (by rw [rng_length, lim_eq]; omega) (by
      intro d hd acc S' hl hI
      obtain ⟨a, ha, T1, q1, w1⟩ := one_ok (hI.pl.app (T := [.lst acc])) (l := NA) (by simp [NA]) (by simp [NA])
      obtain ⟨a, rfl, ha2⟩ := na_ok ha
      obtain ⟨S3, rfl, mv3⟩ := w1.back hI.pl.lt
      have hI3 := hI.trans mv3
      obtain ⟨b, hb, T2, q2, w2⟩ := one_ok (hI3.pl.app (T := [.lst acc])) (l := NB) (by simp [NB]) (by simp [NB])
      obtain ⟨b, rfl, hb2, hb3⟩ := nb_ok hb
      obtain ⟨S4, rfl, mv4⟩ := w2.back hI3.pl.lt
      have hI4 := hI3.trans mv4
      have rb := fun S => ratio_big (p := a) (q := b) (k := 30) hb2 (by omega) (by decide) (S := S)
      refine ⟨_, frD (nrm a b), S4, [], by simp [wipeD]; rfl, by simp, ?_, hI4.length, hI4, nrm a b, rfl, sz_nrm hb2 (by omega) (by omega), nrm_least hb2⟩
      simp only [NA] at q1
      simp only [NB] at q2
      generalize frD (nrm a b) = R at *
      generalize kD ns = Kd at *
      simp [wipeD, pow20, pow9, q1, q2, rb])
  obtain ⟨zs, rfl, hz⟩ := all_fr hP
  rw [rng_length, List.length_map] at l2
  obtain ⟨Fs, hF, hFl, e2⟩ := forms_lc K hl (σ := [some (.loc n), some (.d (kD ns)), some (.d (.int m)), some (.loc S1.length), none, none, none, none, none, none, none]) rfl (by simp) (S := S1 ++ [.lst (zs.map frD)])
  have cell : ∀ X : Store, X.length = S1.length → ∀ l : List D, (X ++ [Cell.lst l])[S1.length]? = some (.lst l) := fun X hX l => by
    rw [List.getElem?_append_right (by omega), hX, Nat.sub_self]
    rfl
  have a1 : (sSet 3 (eLcL (iRng1 (aCons (eVar 2) (aNil))) (gN 4) (tYs) (eB F__law_ratio (aCons (eB F__law_one (aCons (eVar 0) (aCons (eTup (aCons (eC (.int 0)) (aCons (eC (.int 1)) (aCons (eUn opNeg (eC (.int 1))) (aCons (eC (.int 2)) (aCons (eC (.int 5)) (aCons (eUn opNeg (eC (.int 7))) (aCons (eOp opPow (eC (.int 10)) (eC (.int 20))) (aNil))))))))) (aNil)))) (aCons (eB F__law_one (aCons (eVar 0) (aCons (eTup (aCons (eC (.int 1)) (aCons (eC (.int 1)) (aCons (eC (.int 2)) (aCons (eC (.int 3)) (aCons (eOp opPow (eC (.int 10)) (eC (.int 9))) (aNil))))))) (aNil)))) (aNil)))) [4])) S.length [some (.loc n), some (.d (kD ns)), some (.d (.int m)), none, none, none, none, none, none, none, none] S = .nx [some (.loc n), some (.d (kD ns)), some (.d (.int m)), some (.loc S1.length), none, none, none, none, none, none, none] (S1 ++ [.lst (zs.map frD)]) := by
    rw [← l1] at e1
    generalize kD ns = Kd at *
    generalize zs.map frD = Z at *
    simp [e1]
  have a2 : (sSet 5 (eLc (iVal (eVar 1)) (gN 6) (tBl (eOp (opEq false) (eOp opIx (eVar 6) (eC (.int 0))) (eC (.str "cut")))) (eOp opIx (eVar 6) (eC (.int 1))) [6])) S.length [some (.loc n), some (.d (kD ns)), some (.d (.int m)), some (.loc S1.length), none, none, none, none, none, none, none] (S1 ++ [.lst (zs.map frD)]) = .nx [some (.loc n), some (.d (kD ns)), some (.d (.int m)), some (.loc S1.length), none, some (.d (.lst (Fs.map fun f => D.tup (f.map D.int)))), none, none, none, none, none] (S1 ++ [.lst (zs.map frD)]) := by
    generalize (Fs.map fun f => D.tup (f.map D.int)) = FL at *
    generalize kD ns = Kd at *
    generalize zs.map frD = Z at *
    simp [e2]
  have en := fun S => eq_nil (k := 2) (l := Fs.map fun f => D.tup (f.map D.int)) (by
    show (Fs.map fun f => D.tup (f.map D.int)).all (pl 1) = true
    rw [List.all_map]
    exact List.all_eq_true.mpr fun f _ => pl_intsT f) (by decide) (neg := true) (S := S)
  have fin : ∀ (S2 : Store) (zs2 : List (Int × Int)) (d7 d8 d9 : Option Wt), Mv n S S2 → zs2.length = m → (∀ p ∈ zs2, Sz 76 174 p ∧ Nat.gcd p.1.natAbs p.2.natAbs = 1) →
      ((sIf (tAnd (tBl (eOp (opEq true) (eVar 5) (eLst (aNil)))) (tBl (eOp (opEq false) (eB F__law_take (aCons (eVar 0) (aCons (eC (.int 2)) (aNil)))) (eC (.int 0)))))
  (sSeq (sSet 7 (eB F__law_one (aCons (eVar 0) (aCons (eVar 5) (aNil)))))
  (sSeq (sSet 8 (eOp opIx (eLc (iRng1 (aCons (eVar 2) (aNil))) (gN 4) (tBl (eOp (opEq true) (eOp opIx (eVar 7) (eVar 4)) (eC (.int 0)))) (eVar 4) [4]) (eC (.int 0))))
  (sSeq (sSet 9 (eB F__law_line_at (aCons (eLc (iVal (eVar 7)) (gN 10) (tYs) (eTup (aCons (eVar 10) (aCons (eC (.int 1)) (aNil)))) [10]) (aCons (eOp opAdd (eOp opAdd (eSl opSl (eVar 3) (oNone) (oSome (eVar 8))) (eLst (aCons (eTup (aCons (eC (.int 0)) (aCons (eC (.int 1)) (aNil)))) (aNil)))) (eSl opSl (eVar 3) (oSome (eOp opAdd (eVar 8) (eC (.int 1)))) (oNone))) (aNil)))))
  (sAsg (gSb (eVar 3) (eVar 8)) (eB F__law_plus (aCons (eB F__law_times (aCons (eVar 9) (aCons (eB F__law_ratio (aCons (eUn opNeg (eC (.int 1))) (aCons (eOp opIx (eVar 7) (eVar 8)) (aNil)))) (aNil)))) (aCons (eB F__law_one (aCons (eVar 0) (aCons (eTup (aCons (eTup (aCons (eC (.int 0)) (aCons (eC (.int 1)) (aNil)))) (aCons (eTup (aCons (eC (.int 0)) (aCons (eC (.int 1)) (aNil)))) (aCons (eTup (aCons (eC (.int 1)) (aCons (eC (.int 1000)) (aNil)))) (aCons (eTup (aCons (eUn opNeg (eC (.int 1))) (aCons (eC (.int 1000)) (aNil)))) (aNil)))))) (aNil)))) (aNil))))))))
  (sNext)) S.length [some (.loc n), some (.d (kD ns)), some (.d (.int m)), some (.loc S1.length), none, some (.d (.lst (Fs.map fun f => D.tup (f.map D.int)))), none, none, none, none, none] (S1 ++ [.lst (zs.map frD)]) = .nx [some (.loc n), some (.d (kD ns)), some (.d (.int m)), some (.loc S1.length), none, some (.d (.lst (Fs.map fun f => D.tup (f.map D.int)))), none, d7, d8, d9, none] (S2 ++ [.lst (zs2.map frD)])) →
      ∃ nu S', F__law_numbers [.loc n, .d (kD ns), .d (.int m)] S = .ok (.d (.tup (nu.map frD))) S' ∧ Mv n S S' ∧ NuOk 76 174 m nu := by
    intro S2 zs2 d7 d8 d9 mv2 hz2 hp2 a3
    refine ⟨zs2, S2, ?_, mv2, hz2, fun p hp => (hp2 p hp).1, fun p hp => (hp2 p hp).2, hm, by decide, by decide⟩
    have tl := tuple_loc (cell S2 (by rw [mv2.length, mv.length]) (zs2.map frD))
    have a4 : (sRet (eB bTuple (aCons (eVar 3) (aNil)))) S.length [some (.loc n), some (.d (kD ns)), some (.d (.int m)), some (.loc S1.length), none, some (.d (.lst (Fs.map fun f => D.tup (f.map D.int)))), none, d7, d8, d9, none] (S2 ++ [.lst (zs2.map frD)]) = .rt (.d (.tup (zs2.map frD))) (S2 ++ [.lst (zs2.map frD)]) := by
      generalize (Fs.map fun f => D.tup (f.map D.int)) = FL at *
      generalize kD ns = Kd at *
      generalize zs2.map frD = Z2 at *
      simp [tl]
    have tk : (S2 ++ [Cell.lst (zs2.map frD)]).take S.length = S2 := by rw [← mv2.length, List.take_left' rfl]
    unfold F__law_numbers b__law_numbers
    rw [mkFn_eq]
    refine (if_pos (by rfl)).trans ?_
    show finish S.length (sSeq _ _ S.length [some (.loc n), some (.d (kD ns)), some (.d (.int m)), none, none, none, none, none, none, none, none] S) = _
    simp only [sSeq_ap, a1, a2, a3, a4, fin_d, tk]
  by_cases h0 : Fs = []
  · refine fin S1 zs none none none mv (by omega) (fun p hp => ⟨(hz p hp).1.mono (by decide) (by decide), (hz p hp).2⟩) ?_
    subst h0
    generalize kD ns = Kd at *
    generalize zs.map frD = Z at *
    simp only [List.map_nil] at en ⊢
    simp [en]
  · have he : (Fs.map fun f => D.tup (f.map D.int)).isEmpty = false := by
      cases Fs with
      | nil => exact absurd rfl h0
      | cons _ _ => rfl
    rw [he] at en
    obtain ⟨r, T2, q2, w2, r1, r2⟩ := take_ok (mv.pl.app (T := [.lst (zs.map frD)])) (many := 2) (by decide) (by decide)
    obtain ⟨S2, rfl, mv2⟩ := w2.back mv.pl.lt
    have mv02 := mv.trans mv2
    have l2' : S2.length = S1.length := by rw [mv02.length, mv.length]
    by_cases hr : r = 0
    · obtain ⟨S3, zs3, d7, d8, d9, q3, mv3, hz3, hp3⟩ := edge_ok mv02 (ns := ns) hm (show zs.length = m by omega) hz hF h0 hFl (b0 := S.length)
      rw [l2'] at q3
      refine fin S3 zs3 d7 d8 d9 mv3 hz3 hp3 ?_
      rw [← q3]
      generalize (Fs.map fun f => D.tup (f.map D.int)) = FL at *
      generalize kD ns = Kd at *
      generalize zs.map frD = Z at *
      generalize zs3.map frD = Z3 at *
      have c : tAnd (tBl (eOp (opEq true) (eVar 5) (eLst (aNil)))) (tBl (eOp (opEq false) (eB F__law_take (aCons (eVar 0) (aCons (eC (.int 2)) (aNil)))) (eC (.int 0)))) [some (.loc n), some (.d Kd), some (.d (.int m)), some (.loc S1.length), none, some (.d (.lst FL)), none, none, none, none, none] (S1 ++ [.lst Z]) = .ok true (S2 ++ [.lst Z]) := by
        simp [en, q2, hr]
      rw [sIf_ap, c]
      rfl
    · refine fin S2 zs none none none mv02 (by omega) (fun p hp => ⟨(hz p hp).1.mono (by decide) (by decide), (hz p hp).2⟩) ?_
      generalize (Fs.map fun f => D.tup (f.map D.int)) = FL at *
      generalize kD ns = Kd at *
      generalize zs.map frD = Z at *
      simp [en, q2, hr]
end K15
end
section
/-! nodes in another order -/
namespace Y
theorem nodup_sub {α : Type} [BEq α] [LawfulBEq α] : ∀ (l m : List α), l.Nodup → (∀ x ∈ l, x ∈ m) → l.length ≤ m.length
  | [], m, _, _ => Nat.zero_le _
  | a :: l, m, hn, h => by
    have ha := h a (List.mem_cons_self ..)
    rw [List.nodup_cons] at hn
    have ih := nodup_sub l (m.erase a) hn.2 fun x hx => by
      have hx2 := h x (List.mem_cons_of_mem _ hx)
      have hne : x ≠ a := fun e => hn.1 (e ▸ hx)
      exact (List.mem_erase_of_ne hne).mpr hx2
    have hl := List.length_erase_of_mem ha
    have : 0 < m.length := List.length_pos_of_mem ha
    rw [List.length_cons]
    omega
theorem erase_perm {α : Type} : ∀ {l : List α} {q : Nat} {k : α}, l[q]? = some k → l.Perm (k :: l.eraseIdx q)
  | [], q, k, h => by simp at h
  | a :: l, 0, k, h => by
    have : a = k := by simpa using h
    subst this
    exact .refl _
  | a :: l, q + 1, k, h => by
    have h2 : l[q]? = some k := by simpa using h
    exact ((erase_perm h2).cons a).trans (.swap ..)
theorem uniq_flat {α β : Type} {f : α → List β} {c : β} : ∀ {l : List α} {i j : Nat} {x y : α}, (l.flatMap f).Nodup → l[i]? = some x → l[j]? = some y → c ∈ f x → c ∈ f y → i = j
  | [], i, j, x, y, _, h, _, _, _ => by simp at h
  | a :: l, 0, 0, x, y, hn, h1, h2, h3, h4 => rfl
  | a :: l, 0, j + 1, x, y, hn, h1, h2, h3, h4 => by
    exfalso
    rw [List.flatMap_cons, List.nodup_append] at hn
    have : a = x := by simpa using h1
    subst this
    have h2 : l[j]? = some y := by simpa using h2
    exact hn.2.2 c h3 c (List.mem_flatMap.mpr ⟨y, List.mem_of_getElem? h2, h4⟩) rfl
  | a :: l, i + 1, 0, x, y, hn, h1, h2, h3, h4 => by
    exfalso
    rw [List.flatMap_cons, List.nodup_append] at hn
    have : a = y := by simpa using h2
    subst this
    have h1 : l[i]? = some x := by simpa using h1
    exact hn.2.2 c h4 c (List.mem_flatMap.mpr ⟨x, List.mem_of_getElem? h1, h3⟩) rfl
  | a :: l, i + 1, j + 1, x, y, hn, h1, h2, h3, h4 => by
    rw [List.flatMap_cons, List.nodup_append] at hn
    have h1 : l[i]? = some x := by simpa using h1
    have h2 : l[j]? = some y := by simpa using h2
    rw [uniq_flat hn.2.1 h1 h2 h3 h4]
theorem nodup_flat {α β : Type} {f : α → List β} : ∀ {l : List α} {x : α}, (l.flatMap f).Nodup → x ∈ l → (f x).Nodup
  | a :: l, x, hn, h => by
    rw [List.flatMap_cons, List.nodup_append] at hn
    rcases List.mem_cons.mp h with rfl | h
    · exact hn.1
    · exact nodup_flat hn.2.1 h
end Y
namespace K15
open PySem PySem.Spec PyProof.Rows L2 Y
def kid : Nd → List Nat
  | .cut _ a b => [a, b]
  | .ln _ => []
def kids (ns : List Nd) (p : Nat) : List Nat := match ns[p]? with
  | some x => kid x
  | none => []
theorem wy_kid (x : Nd) : wy x = (kid x).map fun (k : Nat) => (k : Int) := by cases x <;> rfl
def up1 (n : Nat) : List Nat := (List.range (n - 1)).map fun i => i + 1
theorem upto_up (n : Nat) : upto n = (up1 n).map fun (k : Nat) => (k : Int) := by
  unfold upto up1
  rw [List.map_map]
  rfl
theorem perm_nat {ns : List Nd} {n : Nat} : (ns.flatMap wy).Perm (upto n) ↔ (ns.flatMap kid).Perm (up1 n) := by
  have e1 : ns.flatMap wy = (ns.flatMap kid).map fun (k : Nat) => (k : Int) := by
    rw [List.map_flatMap]
    congr 1
    funext x
    exact wy_kid x
  rw [e1, upto_up]
  refine ⟨fun h => ?_, fun h => h.map _⟩
  have := h.map Int.toNat
  rw [List.map_map, List.map_map] at this
  have e : (Int.toNat ∘ fun (k : Nat) => (k : Int)) = id := by funext k; simp
  rw [e, List.map_id, List.map_id] at this
  exact this
theorem up1_nodup (n : Nat) : (up1 n).Nodup := by
  unfold up1
  rw [List.nodup_iff_pairwise_ne, List.pairwise_map]
  exact (List.nodup_iff_pairwise_ne.mp List.nodup_range).imp fun h e => h (by omega)
theorem K2.nd {m : Nat} {ns : List Nd} (K : K2 m ns) : (ns.flatMap kid).Nodup := (perm_nat.mp K.perm).nodup_iff.mpr (up1_nodup _)
theorem kids_some {ns : List Nd} {p c : Nat} (h : c ∈ kids ns p) : ∃ x, ns[p]? = some x ∧ c ∈ kid x := by
  unfold kids at h
  cases q : ns[p]? with
  | none => rw [q] at h; cases h
  | some x => rw [q] at h; exact ⟨x, rfl, h⟩
theorem K2.kid_lt {m : Nat} {ns : List Nd} (K : K2 m ns) {p c : Nat} (h : c ∈ kids ns p) : p < c ∧ c < ns.length := by
  obtain ⟨x, q, hc⟩ := kids_some h
  have hk := K.each p x q
  cases x with
  | ln l => cases hc
  | cut f a b =>
    obtain ⟨_, h1, h2, h3, h4⟩ := hk
    simp only [kid, List.mem_cons, List.not_mem_nil, or_false] at hc
    rcases hc with rfl | rfl
    · exact ⟨h1, h2⟩
    · exact ⟨h3, h4⟩
theorem K2.kid_one {m : Nat} {ns : List Nd} (K : K2 m ns) {p q c : Nat} (h : c ∈ kids ns p) (h' : c ∈ kids ns q) : p = q := by
  obtain ⟨x, e1, h1⟩ := kids_some h
  obtain ⟨y, e2, h2⟩ := kids_some h'
  exact uniq_flat K.nd e1 e2 h1 h2
theorem K2.kid_nd {m : Nat} {ns : List Nd} (K : K2 m ns) (p : Nat) : (kids ns p).Nodup := by
  unfold kids
  cases q : ns[p]? with
  | none => exact List.nodup_nil
  | some x =>
    show (kid x).Nodup
    exact nodup_flat (f := kid) K.nd (List.mem_of_getElem? q)
theorem K2.par {m : Nat} {ns : List Nd} (K : K2 m ns) {c : Nat} (h1 : 1 ≤ c) (h2 : c < ns.length) : ∃ p, c ∈ kids ns p := by
  have : c ∈ up1 ns.length := List.mem_map.mpr ⟨c - 1, List.mem_range.mpr (by omega), by omega⟩
  have := (perm_nat.mp K.perm).symm.subset this
  obtain ⟨x, hx, hc⟩ := List.mem_flatMap.mp this
  obtain ⟨i, hi⟩ := List.mem_iff_getElem?.mp hx
  refine ⟨i, ?_⟩
  unfold kids
  rw [hi]
  exact hc
/-- an order that is being told; w: what waits -/
structure Ro (ns : List Nd) (o w : List Nat) : Prop where
  nd : (o ++ w).Nodup
  lt : ∀ k ∈ o ++ w, k < ns.length
  zero : 0 ∈ o ++ w
  par : ∀ k ∈ o ++ w, k = 0 ∨ ∃ p ∈ o, k ∈ kids ns p
  cl : ∀ p ∈ o, ∀ c ∈ kids ns p, c ∈ o ++ w
  ord : ∀ (j j' p c : Nat), o[j]? = some p → o[j']? = some c → c ∈ kids ns p → j < j'
  hd : (o = [] ∧ w = [0]) ∨ o[0]? = some 0
theorem ro_start {m : Nat} {ns : List Nd} (K : K2 m ns) : Ro ns [] [0] := by
  have hp := List.length_pos_iff.mpr K.pos
  refine ⟨by simp, fun k hk => ?_, by simp, fun k hk => ?_, fun p hp => (nomatch hp), fun j j' p c h => by simp at h, .inl ⟨rfl, rfl⟩⟩
  · simp at hk
    subst hk
    exact hp
  · simp at hk
    exact .inl hk
theorem ro_step {m : Nat} {ns : List Nd} (K : K2 m ns) {o w : List Nat} (R : Ro ns o w) {q k : Nat} (hq : w[q]? = some k) : Ro ns (o ++ [k]) (w.eraseIdx q ++ kids ns k) := by
  have pw := erase_perm hq
  have pm : ((o ++ [k]) ++ (w.eraseIdx q ++ kids ns k)).Perm ((o ++ w) ++ kids ns k) := by
    have e : (o ++ [k]) ++ (w.eraseIdx q ++ kids ns k) = (o ++ (k :: w.eraseIdx q)) ++ kids ns k := by simp
    rw [e]
    exact (pw.symm.append_left o).append_right _
  have hkw : k ∈ w := List.mem_of_getElem? hq
  have hk : k ∈ o ++ w := List.mem_append_right _ hkw
  have hko : k ∉ o := fun h => (List.nodup_append.mp R.nd).2.2 k h k hkw rfl
  have dis : ∀ c, c ∈ o ++ w → c ∈ kids ns k → False := fun c h1 h2 => by
    have h3 := K.kid_lt h2
    rcases R.par c h1 with rfl | ⟨p, hp, h4⟩
    · omega
    · have := K.kid_one h4 h2
      subst this
      exact hko hp
  have mem : ∀ c, c ∈ (o ++ [k]) ++ (w.eraseIdx q ++ kids ns k) ↔ c ∈ (o ++ w) ++ kids ns k := fun c => pm.mem_iff
  refine ⟨pm.nodup_iff.mpr (List.nodup_append.mpr ⟨R.nd, K.kid_nd k, fun a ha b hb e => dis a ha (e ▸ hb)⟩), fun c hc => ?_, ?_, fun c hc => ?_, fun p hp c hc => ?_, ?_, ?_⟩
  · rw [mem, List.mem_append] at hc
    rcases hc with hc | hc
    · exact R.lt c hc
    · exact (K.kid_lt hc).2
  · rw [mem]
    exact List.mem_append_left _ R.zero
  · rw [mem, List.mem_append] at hc
    rcases hc with hc | hc
    · rcases R.par c hc with rfl | ⟨p, hp, h⟩
      · exact .inl rfl
      · exact .inr ⟨p, List.mem_append_left _ hp, h⟩
    · exact .inr ⟨k, by simp, hc⟩
  · rw [mem]
    rcases List.mem_append.mp hp with hp | hp
    · exact List.mem_append_left _ (R.cl p hp c hc)
    · simp only [List.mem_cons, List.not_mem_nil, or_false] at hp
      subst hp
      exact List.mem_append_right _ hc
  · intro j j' p c h1 h2 h3
    by_cases hj : j < o.length
    · rw [List.getElem?_append_left hj] at h1
      by_cases hj' : j' < o.length
      · rw [List.getElem?_append_left hj'] at h2
        exact R.ord j j' p c h1 h2 h3
      · omega
    · rw [List.getElem?_append_right (by omega)] at h1
      have hp : p ∈ [k] := List.mem_of_getElem? h1
      simp only [List.mem_cons, List.not_mem_nil, or_false] at hp
      subst hp
      by_cases hj' : j' < o.length
      · rw [List.getElem?_append_left hj'] at h2
        exact (dis c (List.mem_append_left _ (List.mem_of_getElem? h2)) h3).elim
      · rw [List.getElem?_append_right (by omega)] at h2
        have hc := List.mem_of_getElem? h2
        simp only [List.mem_cons, List.not_mem_nil, or_false] at hc
        have := (K.kid_lt h3).1
        omega
  · refine .inr ?_
    rcases R.hd with ⟨rfl, rfl⟩ | h
    · have : q = 0 := by
        have := (List.getElem?_eq_some_iff.mp hq).1
        simp at this
        exact this
      subst this
      simpa using hq.symm
    · rw [List.getElem?_append_left (List.getElem?_eq_some_iff.mp h).1]
      exact h
theorem ro_more {m : Nat} {ns : List Nd} (K : K2 m ns) {o w : List Nat} (R : Ro ns o w) (h : o.length < ns.length) : w ≠ [] := by
  rintro rfl
  have all : ∀ k, k < ns.length → k ∈ o := by
    intro k
    induction k using Nat.strongRecOn with
    | ind k ih =>
      intro hk
      by_cases h0 : k = 0
      · subst h0
        simpa using R.zero
      · obtain ⟨p, hp⟩ := K.par (show 1 ≤ k by omega) hk
        have hlt := (K.kid_lt hp).1
        have := R.cl p (ih p hlt (by omega)) k hp
        simpa using this
  have := nodup_sub (List.range ns.length) o List.nodup_range fun k hk => all k (List.mem_range.mp hk)
  rw [List.length_range] at this
  omega
theorem ro_done {ns : List Nd} {o w : List Nat} (R : Ro ns o w) (h : o.length = ns.length) : w = [] := by
  have := nodup_sub (o ++ w) (List.range ns.length) R.nd fun k hk => List.mem_range.mpr (R.lt k hk)
  rw [List.length_range, List.length_append] at this
  exact List.length_eq_zero_iff.mp (by omega)
def mxN (ns : List Nd) (o : List Nat) (k : Nat) : Nd := match ns[k]? with
  | some (.cut f a b) => .cut f (o.idxOf a) (o.idxOf b)
  | some (.ln l) => .ln l
  | none => .ln []
def mx (ns : List Nd) (o : List Nat) : List Nd := o.map (mxN ns o)
theorem kid_mx {ns : List Nd} {o : List Nat} (k : Nat) : kid (mxN ns o k) = (kids ns k).map fun c => o.idxOf c := by
  unfold mxN kids
  cases ns[k]? with
  | none => rfl
  | some x => cases x <;> rfl
theorem ro_k2 {m : Nat} {ns : List Nd} (K : K2 m ns) {o : List Nat} (R : Ro ns o []) (h : o.length = ns.length) : K2 m (mx ns o) := by
  have hp := List.length_pos_iff.mpr K.pos
  have nd : o.Nodup := by simpa using R.nd
  have lt : ∀ k ∈ o, k < ns.length := by simpa using R.lt
  have hlen : (mx ns o).length = ns.length := by rw [mx, List.length_map, h]
  have at0 : o[0]? = some 0 := by
    rcases R.hd with ⟨rfl, e⟩ | e
    · cases e
    · exact e
  have pr : o.Perm (List.range ns.length) := (List.perm_ext_iff_of_nodup nd List.nodup_range).mpr fun k => by
    rw [List.mem_range]
    refine ⟨fun hk => lt k hk, fun hk => ?_⟩
    refine Classical.byContradiction fun hn => ?_
    have := nodup_sub (k :: o) (List.range ns.length) (List.nodup_cons.mpr ⟨hn, nd⟩) fun x hx => by
      rcases List.mem_cons.mp hx with rfl | hx
      · exact List.mem_range.mpr hk
      · exact List.mem_range.mpr (lt x hx)
    rw [List.length_range, List.length_cons] at this
    omega
  refine ⟨fun e => by rw [e] at hlen; simp at hlen; omega, fun i x q => ?_, ?_⟩
  · rw [hlen]
    unfold mx at q
    rw [List.getElem?_map] at q
    cases qk : o[i]? with
    | none => rw [qk] at q; cases q
    | some k =>
      rw [qk] at q
      have q : some (mxN ns o k) = some x := q
      obtain rfl := Option.some.inj q
      have hk := lt k (List.mem_of_getElem? qk)
      have qn : ns[k]? = some ns[k] := List.getElem?_eq_getElem hk
      have ok := K.each k _ qn
      unfold mxN
      cases e : ns[k] with
      | ln l =>
        rw [e] at qn ok
        rw [qn]
        exact ok
      | cut f a b =>
        rw [e] at qn ok
        rw [qn]
        have ka : a ∈ kids ns k := by unfold kids; rw [qn]; simp [kid]
        have kb : b ∈ kids ns k := by unfold kids; rw [qn]; simp [kid]
        have ha : a ∈ o := by simpa using R.cl k (List.mem_of_getElem? qk) a ka
        have hb : b ∈ o := by simpa using R.cl k (List.mem_of_getElem? qk) b kb
        have la := List.idxOf_lt_length_of_mem ha
        have lb := List.idxOf_lt_length_of_mem hb
        have ga : o[o.idxOf a]? = some a := by rw [List.getElem?_eq_getElem la, List.getElem_idxOf la]
        have gb : o[o.idxOf b]? = some b := by rw [List.getElem?_eq_getElem lb, List.getElem_idxOf lb]
        exact ⟨ok.1, R.ord i _ k a qk ga ka, by omega, R.ord i _ k b qk gb kb, by omega⟩
  · rw [hlen]
    refine perm_nat.mpr ?_
    have e1 : (mx ns o).flatMap kid = (o.flatMap (kids ns)).map fun c => o.idxOf c := by
      unfold mx
      rw [List.flatMap_map, List.map_flatMap]
      congr 1
      funext k
      exact kid_mx k
    have e2 : (List.range ns.length).flatMap (kids ns) = ns.flatMap kid := by
      have : ns = (List.range ns.length).map fun k => ns.getD k (.ln []) := by
        refine List.ext_getElem (by simp) fun i h1 h2 => ?_
        rw [List.getElem_map, List.getElem_range, List.getD_eq_getElem?_getD, List.getElem?_eq_getElem h1]
        rfl
      conv => rhs; rw [this]
      rw [List.flatMap_map, List.flatMap_def, List.flatMap_def]
      congr 1
      refine List.map_congr_left fun k hk => ?_
      have hk := List.mem_range.mp hk
      unfold kids
      rw [List.getD_eq_getElem?_getD, List.getElem?_eq_getElem hk]
      rfl
    have p1 : (o.flatMap (kids ns)).Perm (up1 ns.length) := by
      refine (pr.flatMap_right _).trans ?_
      rw [e2]
      exact perm_nat.mp K.perm
    rw [e1]
    refine (p1.map _).trans ?_
    have e3 : o.map (fun c => o.idxOf c) = List.range ns.length := by
      refine List.ext_getElem (by simp [h]) fun i h1 h2 => ?_
      rw [List.getElem_map, List.getElem_range]
      exact nd.idxOf_getElem i (by simpa using h1)
    have p2 : ((List.range ns.length).map fun c => o.idxOf c).Perm (List.range ns.length) := by
      have := (pr.map fun c => o.idxOf c).symm
      rwa [e3] at this
    have e4 : List.range ns.length = 0 :: up1 ns.length := by
      unfold up1
      conv => lhs; rw [show ns.length = (ns.length - 1) + 1 by omega]
      rw [List.range_succ_eq_map]
    rw [e4, List.map_cons] at p2
    have i0 : o.idxOf 0 = 0 := by
      have hl := (List.getElem?_eq_some_iff.mp at0).1
      have := nd.idxOf_getElem 0 hl
      rwa [(List.getElem?_eq_some_iff.mp at0).2] at this
    rw [i0] at p2
    exact p2.cons_inv
theorem ro_rch {m : Nat} {ns : List Nd} (K : K2 m ns) {o : List Nat} (R : Ro ns o []) {nu : List (Int × Int)} {k : Nat} {w : Int × Int} (h : Rch ns nu k w) : ∀ j, o[j]? = some k → Rch (mx ns o) nu j w := by
  have at_ : ∀ {k : Nat} {x : Nd} (j : Nat), ns[k]? = some x → o[j]? = some k → (mx ns o)[j]? = some (mxN ns o k) := fun j h1 h2 => by
    unfold mx
    rw [List.getElem?_map, h2]
    rfl
  have kidx : ∀ {k c : Nat} {j : Nat}, o[j]? = some k → c ∈ kids ns k → o[o.idxOf c]? = some c := fun h1 h2 => by
    have hc := R.cl _ (List.mem_of_getElem? h1) _ h2
    rw [List.append_nil] at hc
    have la := List.idxOf_lt_length_of_mem hc
    rw [List.getElem?_eq_getElem la, List.getElem_idxOf la]
  induction h with
  | @ln i l q =>
    intro j hj
    have e := at_ j q hj
    unfold mxN at e
    rw [q] at e
    exact .ln e
  | @lo i f a b w q s r ih =>
    intro j hj
    have e := at_ j q hj
    unfold mxN at e
    rw [q] at e
    exact .lo e s (ih _ (kidx hj (by unfold kids; rw [q]; simp [kid])))
  | @hi i f a b w q s r ih =>
    intro j hj
    have e := at_ j q hj
    unfold mxN at e
    rw [q] at e
    exact .hi e s (ih _ (kidx hj (by unfold kids; rw [q]; simp [kid])))
end K15
end
section
/-! nodes in another order: the code -/
namespace K15
open PySem PySem.Spec PyProof.Rows L2 Y
theorem flat_nats (o : List Nat) : (o.map natD).all D.flat = true := by simp [natD, D.flat]
theorem idx_nats {c : Nat} : ∀ {o : List Nat}, c ∈ o → idxOf (natD c) (o.map natD) = some (o.idxOf c)
  | [], h => nomatch h
  | a :: o, h => by
    show (if deq (natD a) (natD c) = true then some 0 else Option.map (· + 1) (idxOf (natD c) (o.map natD))) = _
    unfold natD
    rw [deq_int]
    by_cases e : a = c
    · subst e
      simp
    · have hm : c ∈ o := by
        rcases List.mem_cons.mp h with rfl | h
        · exact absurd rfl e
        · exact h
      have ih := idx_nats hm
      unfold natD at ih
      have e2 : ¬ ((a : Int) = (c : Int)) := by omega
      have e3 : (a == c) = false := by simpa using e
      rw [if_neg (by simpa using e2), ih, List.idxOf_cons, e3]
      rfl
theorem eLc_map2 {g : GM} {t : TM} {e : EM} {w : IM} {vs : List Nat} {σ : Ev} {S0 S : Store} {ds : List D} (h : D → D) (hw : w σ S0 = .ok ds S) (hl : ds.length ≤ lim)
    (hd : ∀ d ∈ ds, ∀ acc', ∃ σ2, g (.d d) (wipeD σ vs) (S ++ [.lst acc']) = .ok σ2 (S ++ [.lst acc']) ∧ t σ2 (S ++ [.lst acc']) = .ok true (S ++ [.lst acc']) ∧ e σ2 (S ++ [.lst acc']) = .ok (.d (h d)) (S ++ [.lst acc'])) :
    eLc w g t e vs σ S0 = .ok (.d (.lst (ds.map h))) S := by
  show (w σ S0).bind _ = _
  rw [hw, ok_bind, lc_map h ds [] S rfl hd (by simpa using hl)]
  simp [optS, finV]
theorem mIndex_nats {N : Nat} {o : List Nat} {S : Store} (e : S[N]? = some (.frz (.lst (o.map natD)))) {c : Nat} (h : c ∈ o) : mIndex (.loc N) [.d (.int c)] S = .ok (.d (.int (o.idxOf c : Nat))) S := by
  have q : deref S (.loc N) = some (.lst (o.map natD)) := by simp [deref, e, cellD]
  have f := flat_nats o
  have i := idx_nats h
  unfold natD at i
  simp only [mIndex, q, deref_d]
  rw [if_pos (by rw [show (o.map natD).all D.flat = true from f]; rfl)]
  show isIx (idxOf (.int c) (o.map natD)) S = _
  unfold natD
  rw [i]
  rfl
theorem cat_loc0 {S : Store} {N : Nat} {l l' : List D} (e : S[N]? = some (.lst l)) (h : l.length + l'.length ≤ 10000000) : opCatL (.loc N) (.d (.lst l')) S = .ok (.loc S.length) (S ++ [.lst (l ++ l')]) := catL_loc e h
theorem kidD {ns : List Nd} {k : Nat} {x : Nd} (h : ns[k]? = some x) : (kids ns k).map natD = (kid x).map natD := by
  unfold kids
  rw [h]
theorem reordered_ok {n : Nat} {S : Store} (hp : Pl n S) {m : Nat} {ns : List Nd} (K : K2 m ns) (hl : ns.length ≤ 1000) : ∃ ms S', F__law_reordered [.loc n, .d (kD ns)] S = .ok (.d (kD ms)) S' ∧ Mv n S S' ∧ K2 m ms ∧ ms.length = ns.length ∧ ∀ nu w, Rch ns nu 0 w → Rch ms nu 0 w := by
  obtain ⟨σ1, Sa, h1, S1, T, o, ws, i2, d4, d5, rfl, mv1, c1, c2, hi, rfl, R, hlen⟩ := for_run (g := gN 4) (b := S.length) (f := (sSeq (sSet 5 (eM isLst mPopAt (eVar 3) (aCons (eB F__law_take (aCons (eVar 0) (aCons (eB bLen (aCons (eVar 3) (aNil))) (aNil)))) aNil)))
  (sSeq (sExpr (eM isLst mApp (eVar 2) (aCons (eVar 5) aNil)))
  (sSet 3 (eOp opCatL (eVar 3) (eIf (tBl (eOp (opEq false) (eOp opIx (eOp opIx (eVar 1) (eVar 5)) (eC (.int 0))) (eC (.str "cut")))) (eB bList (aCons (eSl opSl (eOp opIx (eVar 1) (eVar 5)) (oSome (eC (.int 2))) (oNone)) (aNil))) (eLst (aNil)))))))) (fun ds σ S' => ∃ (S1 T : Store) (o ws : List Nat) (i2 : Nat) (d4 d5 : Option Wt), S' = S1 ++ T ∧ Mv n S S1 ∧ T[0]? = some (.lst (o.map natD)) ∧ T[i2]? = some (.lst (ws.map natD)) ∧ i2 ≠ 0 ∧
      σ = [some (.loc n), some (.d (kD ns)), some (.loc S.length), some (.loc (S.length + i2)), d4, d5] ∧ Ro ns o ws ∧ o.length + ds.length = ns.length)
    (rng 0 ns.length) [some (.loc n), some (.d (kD ns)), some (.loc S.length), some (.loc (S.length + 1)), none, none] (S ++ [.lst [], .lst [.int 0]])
    ⟨S, [.lst [], .lst [.int 0]], [], [0], 1, none, none, rfl, hp.mv, rfl, rfl, by decide, rfl, ro_start K, by rw [rng_length]; simp⟩ (by
      rintro d ds σ S' ⟨S1, T, o, ws, i2, d4, d5, rfl, mv, c1, c2, hi, rfl, R, hlen⟩
      rw [List.length_cons] at hlen
      have lS1 := mv.length
      have lT1 := (List.getElem?_eq_some_iff.mp c1).1
      have lT2 := (List.getElem?_eq_some_iff.mp c2).1
      have hws := ro_more K R (by omega)
      have hw0 : 0 < ws.length := List.length_pos_iff.mpr hws
      have hwl : ws.length ≤ 1000 := by
        have := nodup_sub (o ++ ws) (List.range ns.length) R.nd fun k hk => List.mem_range.mpr (R.lt k hk)
        rw [List.length_range, List.length_append] at this
        omega
      obtain ⟨r, S'', e1, mvr, r1, r2⟩ := take_ok (mv.pl.app (T := T)) (many := ws.length) (by omega) (by omega)
      obtain ⟨S2, rfl, mv2⟩ := mvr.back mv.pl.lt
      have lS2 : S2.length = S.length := by rw [mv2.length, lS1]
      obtain ⟨q, rfl⟩ : ∃ q : Nat, r = (q : Int) := ⟨r.toNat, by omega⟩
      have hq : q < ws.length := by omega
      have qk : ws[q]? = some ws[q] := List.getElem?_eq_getElem hq
      have b1 : bLen [.loc (S.length + i2)] (S1 ++ T) = .ok (.d (.int ws.length)) (S1 ++ T) := by
        rw [len_loc (by rw [app_at lS1]; exact c2), List.length_map]
      have il : isLst (.loc (S.length + i2)) (S1 ++ T) = true := isLst_loc (by rw [app_at lS1]; exact c2)
      have pp : mPopAt (.loc (S.length + i2)) [.d (.int q)] (S2 ++ T) = .ok (.d (natD ws[q])) (S2 ++ T.set i2 (.lst ((ws.eraseIdx q).map natD))) := by
        rw [pop_loc (k := q) (d := natD ws[q]) (by rw [app_at lS2]; exact c2) (by rw [List.length_map]; exact ixN_nat hq) (by rw [List.getElem?_map, qk]; rfl), app_set lS2, map_erase]
      generalize hT1 : T.set i2 (.lst ((ws.eraseIdx q).map natD)) = T1 at pp
      have c1' : T1[0]? = some (.lst (o.map natD)) := by rw [← hT1, List.getElem?_set_ne hi]; exact c1
      have c2' : T1[i2]? = some (.lst ((ws.eraseIdx q).map natD)) := by rw [← hT1, List.getElem?_set_self lT2]
      have lT1' := (List.getElem?_eq_some_iff.mp c1').1
      have il2 : isLst (.loc S.length) (S2 ++ T1) = true := isLst_loc (by have := app_at (T := T1) (i := 0) lS2; rw [Nat.add_zero] at this; rw [this]; exact c1')
      have ap : mApp (.loc S.length) [.d (natD ws[q])] (S2 ++ T1) = .ok (.d .non) (S2 ++ T1.set 0 (.lst ((o ++ [ws[q]]).map natD))) := by
        have a := app_at (T := T1) (i := 0) lS2
        rw [Nat.add_zero] at a
        rw [app_loc (l := o.map natD) (by rw [a]; exact c1') (by rw [lim_eq, List.length_map]; omega)]
        have := app_set (T := T1) (i := 0) (c := .lst (o.map natD ++ [natD ws[q]])) lS2
        rw [Nat.add_zero] at this
        rw [this, List.map_append]
        rfl
      generalize hT2 : T1.set 0 (.lst ((o ++ [ws[q]]).map natD)) = T2 at ap
      have c1'' : T2[0]? = some (.lst ((o ++ [ws[q]]).map natD)) := by rw [← hT2, List.getElem?_set_self lT1']
      have c2'' : T2[i2]? = some (.lst ((ws.eraseIdx q).map natD)) := by rw [← hT2, List.getElem?_set_ne (Ne.symm hi)]; exact c2'
      have lT2' := (List.getElem?_eq_some_iff.mp c1'').1
      have hk : ws[q] < ns.length := R.lt _ (List.mem_append_right _ (List.getElem_mem hq))
      have kn : ns[ws[q]]? = some ns[ws[q]] := List.getElem?_eq_getElem hk
      have R2 := ro_step K R qk
      have ele : (ws.eraseIdx q).length ≤ ws.length := (List.eraseIdx_sublist ..).length_le
      have kl : (kids ns ws[q]).length ≤ 2 := by
        unfold kids
        rw [kn]
        show (kid ns[ws[q]]).length ≤ 2
        cases ns[ws[q]] <;> simp [kid]
      have cat : opCatL (.loc (S.length + i2)) (.d (.lst ((kids ns ws[q]).map natD))) (S2 ++ T2) = .ok (.loc (S.length + T2.length)) (S2 ++ (T2 ++ [.lst ((ws.eraseIdx q ++ kids ns ws[q]).map natD)])) := by
        rw [cat_loc0 (by rw [app_at lS2]; exact c2'') (by rw [List.length_map, List.length_map]; omega), List.map_append, List.length_append, lS2, List.append_assoc]
      have ix := fun S => kd_at kn (S := S)
      refine ⟨[some (.loc n), some (.d (kD ns)), some (.loc S.length), some (.loc (S.length + i2)), some (.d d), d5], S1 ++ T, [some (.loc n), some (.d (kD ns)), some (.loc S.length), some (.loc (S.length + T2.length)), some (.d d), some (.d (natD ws[q]))], S2 ++ (T2 ++ [.lst ((ws.eraseIdx q ++ kids ns ws[q]).map natD)]), rfl, ?_, S2, T2 ++ [.lst ((ws.eraseIdx q ++ kids ns ws[q]).map natD)], o ++ [ws[q]], ws.eraseIdx q ++ kids ns ws[q], T2.length, some (.d d), some (.d (natD ws[q])), rfl, mv.trans mv2, ?_, ?_, by omega, rfl, R2, by simp; omega⟩
      · have x1 : (sSet 5 (eM isLst mPopAt (eVar 3) (aCons (eB F__law_take (aCons (eVar 0) (aCons (eB bLen (aCons (eVar 3) (aNil))) (aNil)))) aNil))) S.length [some (.loc n), some (.d (kD ns)), some (.loc S.length), some (.loc (S.length + i2)), some (.d d), d5] (S1 ++ T) = .nx [some (.loc n), some (.d (kD ns)), some (.loc S.length), some (.loc (S.length + i2)), some (.d d), some (.d (natD ws[q]))] (S2 ++ T1) := by
          generalize kD ns = Kd at *
          simp [il, b1, e1, pp]
        have x2 : (sExpr (eM isLst mApp (eVar 2) (aCons (eVar 5) aNil))) S.length [some (.loc n), some (.d (kD ns)), some (.loc S.length), some (.loc (S.length + i2)), some (.d d), some (.d (natD ws[q]))] (S2 ++ T1) = .nx [some (.loc n), some (.d (kD ns)), some (.loc S.length), some (.loc (S.length + i2)), some (.d d), some (.d (natD ws[q]))] (S2 ++ T2) := by
          generalize kD ns = Kd at *
          generalize natD ws[q] = kv at *
          simp [il2, ap]
        have x3 : (sSet 3 (eOp opCatL (eVar 3) (eIf (tBl (eOp (opEq false) (eOp opIx (eOp opIx (eVar 1) (eVar 5)) (eC (.int 0))) (eC (.str "cut")))) (eB bList (aCons (eSl opSl (eOp opIx (eVar 1) (eVar 5)) (oSome (eC (.int 2))) (oNone)) (aNil))) (eLst (aNil))))) S.length [some (.loc n), some (.d (kD ns)), some (.loc S.length), some (.loc (S.length + i2)), some (.d d), some (.d (natD ws[q]))] (S2 ++ T2) = .nx [some (.loc n), some (.d (kD ns)), some (.loc S.length), some (.loc (S.length + T2.length)), some (.d d), some (.d (natD ws[q]))] (S2 ++ (T2 ++ [.lst ((ws.eraseIdx q ++ kids ns ws[q]).map natD)])) := by
          have kd := kidD kn
          generalize kids ns ws[q] = kk at *
          generalize (ws.eraseIdx q ++ kk).map natD = W at *
          unfold natD at *
          cases e : ns[ws[q]] with
          | cut f a b =>
            rw [e] at kd ix
            rw [kd] at cat
            simp only [kid, List.map_cons, List.map_nil] at cat
            generalize kD ns = Kd at *
            simp only [nD] at ix
            simp [ix, cut_2, cat]
          | ln l =>
            rw [e] at kd ix
            rw [kd] at cat
            simp only [kid, List.map_cons, List.map_nil] at cat
            generalize kD ns = Kd at *
            simp only [nD] at ix
            simp [ix, str_dec, cat]
        simp only [sSeq_ap, x1, x2, x3]
      · rw [List.getElem?_append_left lT2']
        exact c1''
      · rw [List.getElem?_append_right (Nat.le_refl _), Nat.sub_self]
        rfl)
  simp only [List.length_nil, Nat.add_zero] at hlen
  obtain rfl := ro_done R hlen
  have lS1 := mv1.length
  have co : (S1 ++ T)[S.length]? = some (.lst (o.map natD)) := by
    have := app_at (T := T) (i := 0) lS1
    rw [Nat.add_zero] at this
    rw [this]
    exact c1
  have K' := ro_k2 K R hlen
  have at0 : o[0]? = some 0 := by
    rcases R.hd with ⟨_, e⟩ | e
    · cases e
    · exact e
  refine ⟨mx ns o, S1, ?_, mv1, K', by rw [mx, List.length_map, hlen], fun nu w h => ro_rch K R h 0 at0⟩
  have lT1 := (List.getElem?_eq_some_iff.mp c1).1
  have sf : (S1 ++ T).set S.length (.frz (.lst (o.map natD))) = S1 ++ T.set 0 (.frz (.lst (o.map natD))) := by
    have := app_set (T := T) (i := 0) (c := .frz (.lst (o.map natD))) lS1
    rw [Nat.add_zero] at this
    exact this
  have cof : (S1 ++ T.set 0 (.frz (.lst (o.map natD))))[S.length]? = some (.frz (.lst (o.map natD))) := by
    have := app_at (T := T.set 0 (.frz (.lst (o.map natD)))) (i := 0) lS1
    rw [Nat.add_zero] at this
    rw [this, List.getElem?_set_self lT1]
  have ivc : iVal (eVar 2) [some (.loc n), some (.d (kD ns)), some (.loc S.length), some (.loc (S.length + i2)), d4, d5] (S1 ++ T) = .ok (o.map natD) (S1 ++ T.set 0 (.frz (.lst (o.map natD)))) := by
    rw [← sf]
    simp [fz1, fzC, co, itemsOf]
  generalize hTF : T.set 0 (.frz (.lst (o.map natD))) = TF at sf cof ivc
  have lc : (eLc (iVal (eVar 2)) (gN 5) (tYs) (eIf (tBl (eOp (opEq false) (eOp opIx (eOp opIx (eVar 1) (eVar 5)) (eC (.int 0))) (eC (.str "line")))) (eOp opIx (eVar 1) (eVar 5)) (eOp opAdd (eSl opSl (eOp opIx (eVar 1) (eVar 5)) (oNone) (oSome (eC (.int 2)))) (eTup (aCons (eM isLst mIndex (eVar 2) (aCons (eOp opIx (eOp opIx (eVar 1) (eVar 5)) (eC (.int 2))) aNil)) (aCons (eM isLst mIndex (eVar 2) (aCons (eOp opIx (eOp opIx (eVar 1) (eVar 5)) (eC (.int 3))) aNil)) (aNil)))))) [5]) [some (.loc n), some (.d (kD ns)), some (.loc S.length), some (.loc (S.length + i2)), d4, d5] (S1 ++ T) = .ok (.d (.lst ((mx ns o).map nD))) (S1 ++ TF) := by
    have := eLc_map2 (w := iVal (eVar 2)) (g := gN 5) (t := tYs) (e := (eIf (tBl (eOp (opEq false) (eOp opIx (eOp opIx (eVar 1) (eVar 5)) (eC (.int 0))) (eC (.str "line")))) (eOp opIx (eVar 1) (eVar 5)) (eOp opAdd (eSl opSl (eOp opIx (eVar 1) (eVar 5)) (oNone) (oSome (eC (.int 2)))) (eTup (aCons (eM isLst mIndex (eVar 2) (aCons (eOp opIx (eOp opIx (eVar 1) (eVar 5)) (eC (.int 2))) aNil)) (aCons (eM isLst mIndex (eVar 2) (aCons (eOp opIx (eOp opIx (eVar 1) (eVar 5)) (eC (.int 3))) aNil)) (aNil))))))) (vs := [5]) (σ := [some (.loc n), some (.d (kD ns)), some (.loc S.length), some (.loc (S.length + i2)), d4, d5]) (S0 := S1 ++ T) (S := S1 ++ TF) (ds := o.map natD)
      (fun d => match d with | .int c => nD (mxN ns o c.toNat) | d => d) ivc (by rw [List.length_map, lim_eq]; omega) (by
        intro d hd acc
        obtain ⟨k, hk, rfl⟩ := List.mem_map.mp hd
        have hkl : k < ns.length := by
          have := R.lt k (List.mem_append_left _ hk)
          exact this
        have kn : ns[k]? = some ns[k] := List.getElem?_eq_getElem hkl
        have ix := fun S => kd_at kn (S := S)
        have co2 : (S1 ++ TF ++ [Cell.lst acc])[S.length]? = some (.frz (.lst (o.map natD))) := by
          rw [List.getElem?_append_left (List.getElem?_eq_some_iff.mp cof).1]
          exact cof
        have il : isLst (.loc S.length) (S1 ++ TF ++ [Cell.lst acc]) = true := by simp only [isLst, deref, co2, cellD]
        have mi := fun c (hc : c ∈ o) => mIndex_nats co2 hc
        have kc : ∀ c ∈ kids ns k, c ∈ o := fun c hc => by
          have := R.cl k hk c hc
          simpa using this
        refine ⟨[some (.loc n), some (.d (kD ns)), some (.loc S.length), some (.loc (S.length + i2)), d4, some (.d (natD k))], by simp [wipeD], by simp, ?_⟩
        simp only [natD, Int.toNat_natCast]
        unfold mxN
        rw [kn]
        cases e : ns[k] with
        | cut f a b =>
          rw [e] at ix kn
          have ka : a ∈ o := kc a (by unfold kids; rw [kn]; simp [kid])
          have kb : b ∈ o := kc b (by unfold kids; rw [kn]; simp [kid])
          have ma := mi a ka
          have mb := mi b kb
          have i2 : ∀ l : List D, atI [D.str "cut", D.tup l, D.int (a : Int), D.int (b : Int)] 2 = some (.int a) := fun l => atIn (k := 2)
          have i3 : ∀ l : List D, atI [D.str "cut", D.tup l, D.int (a : Int), D.int (b : Int)] 3 = some (.int b) := fun l => atIn (k := 3)
          have ct : ∀ l : List D, cutD [D.str "cut", D.tup l, D.int (a : Int), D.int (b : Int)] none (some 2) = [D.str "cut", D.tup l] := fun l => cut_take _ 2
          generalize kD ns = Kd at *
          simp only [nD] at ix ⊢
          generalize f.map D.int = L at *
          generalize ((o.idxOf a : Nat) : Int) = xa at *
          generalize ((o.idxOf b : Nat) : Int) = xb at *
          generalize S1 ++ TF ++ [Cell.lst acc] = X at *
          simp [ix, il, ma, mb, i2, i3, ct, str_dec2]
        | ln l =>
          rw [e] at ix
          generalize kD ns = Kd at *
          simp only [nD] at ix ⊢
          generalize l.map frD = L at *
          simp [ix])
    rw [this, List.map_map, mx, List.map_map]
    rfl
  have a0 : (sAsgT 2 (gN1 (gN 2) (gN1 (gN 3) (gN0))) (aCons (eLstL (aNil)) (aCons (eLstL (aCons (eC (.int 0)) (aNil))) (aNil)))) S.length [some (.loc n), some (.d (kD ns)), none, none, none, none] S = .nx [some (.loc n), some (.d (kD ns)), some (.loc S.length), some (.loc (S.length + 1)), none, none] (S ++ [.lst [], .lst [.int 0]]) := by
    generalize kD ns = Kd at *
    simp
  have r := rg1_nat (S := S ++ [.lst [], .lst [.int 0]]) (j := ns.length) (by omega)
  have lk : ∀ S, bLen [.d (kD ns)] S = .ok (.d (.int ns.length)) S := fun S => by simp [kD]
  have a1 : (sFor (iRng1 (aCons (eB bLen (aCons (eVar 1) (aNil))) (aNil))) (gN 4)
  (sSeq (sSet 5 (eM isLst mPopAt (eVar 3) (aCons (eB F__law_take (aCons (eVar 0) (aCons (eB bLen (aCons (eVar 3) (aNil))) (aNil)))) aNil)))
  (sSeq (sExpr (eM isLst mApp (eVar 2) (aCons (eVar 5) aNil)))
  (sSet 3 (eOp opCatL (eVar 3) (eIf (tBl (eOp (opEq false) (eOp opIx (eOp opIx (eVar 1) (eVar 5)) (eC (.int 0))) (eC (.str "cut")))) (eB bList (aCons (eSl opSl (eOp opIx (eVar 1) (eVar 5)) (oSome (eC (.int 2))) (oNone)) (aNil))) (eLst (aNil)))))))) S.length [some (.loc n), some (.d (kD ns)), some (.loc S.length), some (.loc (S.length + 1)), none, none] (S ++ [.lst [], .lst [.int 0]]) = .nx [some (.loc n), some (.d (kD ns)), some (.loc S.length), some (.loc (S.length + i2)), d4, d5] (S1 ++ T) := by
    rw [sFor_ap]
    have iv : (iRng1 (aCons (eB bLen (aCons (eVar 1) (aNil))) (aNil))) [some (.loc n), some (.d (kD ns)), some (.loc S.length), some (.loc (S.length + 1)), none, none] (S ++ [.lst [], .lst [.int 0]]) = .ok (rng 0 ns.length) (S ++ [.lst [], .lst [.int 0]]) := by
      generalize kD ns = Kd at *
      simp [lk, r]
    rw [iv, ok_toS]
    exact h1
  have a2 : (sRet (eB bTuple (aCons (eLc (iVal (eVar 2)) (gN 5) (tYs) (eIf (tBl (eOp (opEq false) (eOp opIx (eOp opIx (eVar 1) (eVar 5)) (eC (.int 0))) (eC (.str "line")))) (eOp opIx (eVar 1) (eVar 5)) (eOp opAdd (eSl opSl (eOp opIx (eVar 1) (eVar 5)) (oNone) (oSome (eC (.int 2)))) (eTup (aCons (eM isLst mIndex (eVar 2) (aCons (eOp opIx (eOp opIx (eVar 1) (eVar 5)) (eC (.int 2))) aNil)) (aCons (eM isLst mIndex (eVar 2) (aCons (eOp opIx (eOp opIx (eVar 1) (eVar 5)) (eC (.int 3))) aNil)) (aNil)))))) [5]) (aNil)))) S.length [some (.loc n), some (.d (kD ns)), some (.loc S.length), some (.loc (S.length + i2)), d4, d5] (S1 ++ T) = .rt (.d (kD (mx ns o))) (S1 ++ TF) := by
    unfold kD
    generalize (mx ns o).map nD = M at *
    simp only [kD] at lc
    generalize ns.map nD = Kd at *
    simp [lc]
  have tk : (S1 ++ TF).take S.length = S1 := by rw [← lS1, List.take_left' rfl]
  unfold F__law_reordered b__law_reordered
  rw [mkFn_eq]
  refine (if_pos (by rfl)).trans ?_
  show finish S.length (sSeq _ _ S.length [some (.loc n), some (.d (kD ns)), none, none, none, none] S) = _
  simp only [sSeq_ap, a0, a1, a2, fin_d, tk]
end K15
end
section
/-! indexes so much greater, a cut more, a FORM turned round -/
namespace K15
open PySem PySem.Spec PyProof.Rows L2 Y
def shN (by_ : Nat) : Nd → Nd
  | .cut f a b => .cut f (a + by_) (b + by_)
  | .ln l => .ln l
theorem shifted_ok {ns : List Nd} {by_ : Nat} (hl : ns.length ≤ 1000) {S : Store} : F__law_shifted [.d (kD ns), .d (.int by_)] S = .ok (.d (kD (ns.map (shN by_)))) S := by
  have hn : ∀ d ∈ ns.map nD, ∃ x ∈ ns, nD x = d := fun d hd => List.mem_map.mp hd
  have key : ∀ (xs : List Nd) (acc : List D), acc.length + xs.length ≤ 10000000 → lcN (gN 2) tYs (eIf (tBl (eOp (opEq false) (eOp opIx (eVar 2) (eC (.int 0))) (eC (.str "line")))) (eVar 2) (eOp opAdd (eSl opSl (eVar 2) (oNone) (oSome (eC (.int 2)))) (eTup (aCons (eOp opAdd (eOp opIx (eVar 2) (eC (.int 2))) (eVar 1)) (aCons (eOp opAdd (eOp opIx (eVar 2) (eC (.int 3))) (eVar 1)) (aNil)))))) (wipeD [some (.d (kD ns)), some (.d (.int by_)), none] [2]) S.length (xs.map nD) (S ++ [.lst acc]) = some (S ++ [.lst (acc ++ (xs.map (shN by_)).map nD)]) := by
    intro xs
    induction xs with
    | nil => intro acc _; simp [lcN]
    | cons x xs ih =>
      intro acc hz
      rw [List.length_cons] at hz
      have t : (eIf (tBl (eOp (opEq false) (eOp opIx (eVar 2) (eC (.int 0))) (eC (.str "line")))) (eVar 2) (eOp opAdd (eSl opSl (eVar 2) (oNone) (oSome (eC (.int 2)))) (eTup (aCons (eOp opAdd (eOp opIx (eVar 2) (eC (.int 2))) (eVar 1)) (aCons (eOp opAdd (eOp opIx (eVar 2) (eC (.int 3))) (eVar 1)) (aNil)))))) [some (.d (kD ns)), some (.d (.int by_)), some (.d (nD x))] (S ++ [.lst acc]) = .ok (.d (nD (shN by_ x))) (S ++ [.lst acc]) := by
        generalize kD ns = Kd
        cases x with
        | cut f a b =>
          have i2 : ∀ l : List D, atI [D.str "cut", D.tup l, D.int (a : Int), D.int (b : Int)] 2 = some (.int a) := fun l => atIn (k := 2)
          have i3 : ∀ l : List D, atI [D.str "cut", D.tup l, D.int (a : Int), D.int (b : Int)] 3 = some (.int b) := fun l => atIn (k := 3)
          have ct : ∀ l : List D, cutD [D.str "cut", D.tup l, D.int (a : Int), D.int (b : Int)] none (some 2) = [D.str "cut", D.tup l] := fun l => cut_take _ 2
          simp only [nD, shN]
          generalize f.map D.int = L at *
          simp [i2, i3, ct, str_dec2]
        | ln l =>
          simp only [nD, shN]
          generalize l.map frD = L at *
          simp
      rw [List.map_cons, lcN_keep (S' := S) (acc := acc) (y := nD (shN by_ x)) (J := []) rfl (S2 := S ++ [.lst acc]) (S3 := S ++ [.lst acc]) (σ2 := [some (.d (kD ns)), some (.d (.int by_)), some (.d (nD x))]) (by simp [wipeD]) (by simp) t (by rw [lim_eq]; omega), ih _ (by rw [List.length_append, List.length_singleton]; omega)]
      simp
  have e : (eLc (iVal (eVar 0)) (gN 2) (tYs) (eIf (tBl (eOp (opEq false) (eOp opIx (eVar 2) (eC (.int 0))) (eC (.str "line")))) (eVar 2) (eOp opAdd (eSl opSl (eVar 2) (oNone) (oSome (eC (.int 2)))) (eTup (aCons (eOp opAdd (eOp opIx (eVar 2) (eC (.int 2))) (eVar 1)) (aCons (eOp opAdd (eOp opIx (eVar 2) (eC (.int 3))) (eVar 1)) (aNil)))))) [2]) [some (.d (kD ns)), some (.d (.int by_)), none] S = .ok (.d (.lst ((ns.map (shN by_)).map nD))) S := by
    have hw : iVal (eVar 0) [some (.d (kD ns)), some (.d (.int by_)), none] S = .ok (ns.map nD) S := by simp [kD, itemsOf]
    show (iVal (eVar 0) [some (.d (kD ns)), some (.d (.int by_)), none] S).bind _ = _
    rw [hw, ok_bind, key ns [] (by simp; omega)]
    simp [optS, finV]
  unfold F__law_shifted b__law_shifted
  unfold kD at *
  generalize (ns.map (shN by_)).map nD = M at *
  generalize ns.map nD = L at *
  simp [mkFn_eq, e]
theorem rch_shift {ns nt : List Nd} {nu : List (Int × Int)} {by_ : Nat} (h : ∀ i x, ns[i]? = some x → nt[i + by_]? = some (shN by_ x)) {i : Nat} {w : Int × Int} (r : Rch ns nu i w) : Rch nt nu (i + by_) w := by
  induction r with
  | @ln i l q => exact .ln (h i _ q)
  | @lo i f a b w q s r ih => exact .lo (h i _ q) s ih
  | @hi i f a b w q s r ih => exact .hi (h i _ q) s ih
theorem kid_sh (by_ : Nat) (x : Nd) : kid (shN by_ x) = (kid x).map fun k => k + by_ := by cases x <;> rfl
theorem flat_sh (by_ : Nat) (ns : List Nd) : (ns.map (shN by_)).flatMap kid = (ns.flatMap kid).map fun k => k + by_ := by
  rw [List.flatMap_map, List.map_flatMap]
  congr 1
  funext x
  exact kid_sh by_ x
theorem okN_sh {m i n by_ n' : Nat} {x : Nd} (h : okN m i n x) (hn : n + by_ ≤ n') : okN m (i + by_) n' (shN by_ x) := by
  cases x with
  | ln l => exact h
  | cut f a b => exact ⟨h.1, by have := h.2.1; omega, by have := h.2.2.1; omega, by have := h.2.2.2.1; omega, by have := h.2.2.2.2; omega⟩
theorem range_up {s : Nat} (h : 1 ≤ s) : List.range s = 0 :: up1 s := by
  unfold up1
  conv => lhs; rw [show s = (s - 1) + 1 by omega]
  rw [List.range_succ_eq_map]
/-- one cut more, both ways alike -/
def twin (f : List Int) (ns ms : List Nd) : List Nd := (.cut f 1 (1 + ns.length) :: ns.map (shN 1)) ++ ms.map (shN (1 + ns.length))
theorem twin_len {f : List Int} {ns ms : List Nd} (hl : ms.length = ns.length) : (twin f ns ms).length = 1 + 2 * ns.length := by
  simp [twin, hl]
  omega
theorem twin_a {f : List Int} {ns ms : List Nd} {i : Nat} {x : Nd} (h : ns[i]? = some x) : (twin f ns ms)[i + 1]? = some (shN 1 x) := by
  have hi := (List.getElem?_eq_some_iff.mp h).1
  unfold twin
  rw [List.getElem?_append_left (by simp; omega), List.getElem?_cons_succ, List.getElem?_map, h]
  rfl
theorem twin_b {f : List Int} {ns ms : List Nd} {i : Nat} {x : Nd} (h : ms[i]? = some x) : (twin f ns ms)[i + (1 + ns.length)]? = some (shN (1 + ns.length) x) := by
  unfold twin
  rw [List.getElem?_append_right (by simp; omega)]
  have : i + (1 + ns.length) - (Nd.cut f 1 (1 + ns.length) :: ns.map (shN 1)).length = i := by simp; omega
  rw [this, List.getElem?_map, h]
  rfl
theorem twin_k2 {m : Nat} {f : List Int} (hf : OkF m f) {ns ms : List Nd} (K : K2 m ns) (K' : K2 m ms) (hl : ms.length = ns.length) : K2 m (twin f ns ms) := by
  have hp := List.length_pos_iff.mpr K.pos
  have hlen := twin_len (f := f) hl
  refine ⟨by simp [twin], fun i x q => ?_, perm_nat.mpr ?_⟩
  · rw [hlen]
    by_cases h0 : i = 0
    · subst h0
      have : x = .cut f 1 (1 + ns.length) := by
        have : (twin f ns ms)[0]? = some (.cut f 1 (1 + ns.length)) := rfl
        rw [q] at this
        exact Option.some.inj this
      subst this
      exact ⟨hf, by omega, by omega, by omega, by omega⟩
    · by_cases h1 : i - 1 < ns.length
      · have e : ns[i - 1]? = some ns[i - 1] := List.getElem?_eq_getElem h1
        have := twin_a (f := f) (ms := ms) e
        rw [show i - 1 + 1 = i by omega, q] at this
        obtain rfl := Option.some.inj this
        have := okN_sh (by_ := 1) (n' := 1 + 2 * ns.length) (K.each _ _ e) (by omega)
        rwa [show i - 1 + 1 = i by omega] at this
      · have hi := (List.getElem?_eq_some_iff.mp q).1
        rw [hlen] at hi
        have h2 : i - (1 + ns.length) < ms.length := by omega
        have e : ms[i - (1 + ns.length)]? = some ms[i - (1 + ns.length)] := List.getElem?_eq_getElem h2
        have := twin_b (f := f) (ns := ns) e
        rw [show i - (1 + ns.length) + (1 + ns.length) = i by omega, q] at this
        obtain rfl := Option.some.inj this
        have := okN_sh (by_ := 1 + ns.length) (n' := 1 + 2 * ns.length) (K'.each _ _ e) (by omega)
        rwa [show i - (1 + ns.length) + (1 + ns.length) = i by omega] at this
  · rw [hlen]
    have e1 : (twin f ns ms).flatMap kid = 1 :: (1 + ns.length) :: ((ns.flatMap kid).map (fun k => k + 1) ++ (ms.flatMap kid).map (fun k => k + (1 + ns.length))) := by
      unfold twin
      rw [List.flatMap_append, List.flatMap_cons, flat_sh, flat_sh]
      rfl
    have p1 := (perm_nat.mp K.perm).map (fun k => k + 1)
    have p2 := (perm_nat.mp K'.perm).map (fun k => k + (1 + ns.length))
    rw [hl] at p2
    have e2 : up1 (1 + 2 * ns.length) = 1 :: ((up1 ns.length).map (fun k => k + 1) ++ (1 + ns.length) :: (up1 ns.length).map (fun k => k + (1 + ns.length))) := by
      show (List.range (1 + 2 * ns.length - 1)).map (fun i => i + 1) = _
      rw [show 1 + 2 * ns.length - 1 = ns.length + ns.length by omega, List.range_add, range_up hp, List.map_append, List.map_cons, List.map_map, List.map_cons]
      simp only [List.cons_append, Function.comp, Nat.zero_add, Nat.add_zero]
      congr 3
      · omega
      · refine List.map_congr_left fun k _ => ?_
        show ns.length + k + 1 = _
        omega
    rw [e1, e2]
    exact (((p1.append p2).cons _).trans List.perm_middle.symm).cons _
theorem twin_rch {f : List Int} {ns ms : List Nd} {nu : List (Int × Int)} {w : Int × Int} (h : Rch ns nu 0 w) (h' : Rch ms nu 0 w) : Rch (twin f ns ms) nu 0 w := by
  have a := rch_shift (nt := twin f ns ms) (by_ := 1) (fun i x q => twin_a q) h
  have b := rch_shift (nt := twin f ns ms) (by_ := 1 + ns.length) (fun i x q => twin_b q) h'
  rw [Nat.zero_add] at a b
  have e : (twin f ns ms)[0]? = some (.cut f 1 (1 + ns.length)) := rfl
  by_cases s : (lineF (f.map wfF) nu).1 ≤ 0
  · exact .lo e s a
  · exact .hi e (by omega) b
/-! the first FORM turned round -/
def ngF (p : Int × Int) : Int × Int := (0 - p.1, p.2)
def ngI (x : Int) : Int := 0 - x
theorem nrm_neg (p q : Int) : nrm (0 - p) q = ngF (nrm p q) := by
  unfold nrm ngF
  have e : (0 - p).natAbs = p.natAbs := by omega
  rw [e]
  by_cases hg : Nat.gcd p.natAbs q.natAbs = 0
  · rw [hg]
    have : p = 0 := by
      have := Nat.eq_zero_of_gcd_eq_zero_left hg
      omega
    subst this
    simp
  · obtain ⟨c, e1, e2⟩ := fdiv_parts (p := p) (Nat.pos_of_ne_zero hg) (Nat.gcd_dvd_left _ _)
    have e3 : 0 - p = (Nat.gcd p.natAbs q.natAbs : Nat) * (0 - c) := by
      rw [Int.mul_sub, Int.mul_zero]
      omega
    have e4 : (0 - p).fdiv (Nat.gcd p.natAbs q.natAbs : Nat) = 0 - c := by
      rw [e3, fdiv_ediv (by omega), Int.mul_ediv_cancel_left _ (by omega)]
    rw [e4, e2]
theorem pl_neg (a b : Int × Int) : plF (ngF a) (ngF b) = ngF (plF a b) := by
  unfold plF
  rw [← nrm_neg]
  congr 1
  show (0 - a.1) * b.2 + (0 - b.1) * a.2 = 0 - (a.1 * b.2 + b.1 * a.2)
  rw [Int.sub_mul, Int.sub_mul]
  omega
theorem tm_neg (a b : Int × Int) : tmF (ngF a) b = ngF (tmF a b) := by
  unfold tmF
  rw [← nrm_neg]
  congr 1
  show (0 - a.1) * b.1 = 0 - a.1 * b.1
  rw [Int.sub_mul, Int.zero_mul]
theorem fo_neg : ∀ (zs : List ((Int × Int) × (Int × Int))) (r : Int × Int), foF (ngF r) (zs.map (Prod.map ngF id)) = ngF (foF r zs)
  | [], r => rfl
  | z :: zs, r => by
    show foF (plF (ngF r) (tmF (ngF z.1) z.2)) (zs.map (Prod.map ngF id)) = ngF (foF (plF r (tmF z.1 z.2)) zs)
    rw [tm_neg, pl_neg, fo_neg zs]
theorem wf_neg (f : List Int) : (f.map ngI).map wfF = (f.map wfF).map ngF := by
  rw [List.map_map, List.map_map]
  rfl
theorem line_neg {f : List Int} (hf : f ≠ []) (nu : List (Int × Int)) : lineF ((f.map ngI).map wfF) nu = ngF (lineF (f.map wfF) nu) := by
  unfold lineF
  rw [wf_neg, List.zip_map_left, ← fo_neg]
  congr 1
  have hne : f.map wfF ≠ [] := by simpa using hf
  unfold lastF
  rw [List.getLastD_eq_getLast?, List.getLastD_eq_getLast?, List.getLast?_map, List.getLast?_eq_some_getLast hne]
  rfl
theorem foF_least : ∀ (zs : List ((Int × Int) × (Int × Int))) (r : Int × Int), 0 < r.2 → (∀ z ∈ zs, 0 < z.1.2 ∧ 0 < z.2.2) → zs ≠ [] → Nat.gcd (foF r zs).1.natAbs (foF r zs).2.natAbs = 1 ∧ 0 < (foF r zs).2
  | [], r, _, _, h => absurd rfl h
  | z :: zs, r, hr, hz, _ => by
    obtain ⟨h1, h2⟩ := hz z (List.mem_cons_self ..)
    have pos : ∀ p q : Int, 0 < q → 0 < (nrm p q).2 := fun p q hq => by
      obtain ⟨g, a, b, _, _, _, hb, e, _⟩ := nrm_parts (p := p) hq
      rw [e]
      exact hb
    have ht : 0 < (tmF z.1 z.2).2 := pos _ _ (Int.mul_pos h1 h2)
    have hq : 0 < (plF r (tmF z.1 z.2)).2 := pos _ _ (Int.mul_pos hr ht)
    show Nat.gcd (foF (plF r (tmF z.1 z.2)) zs).1.natAbs _ = 1 ∧ _
    by_cases e : zs = []
    · subst e
      exact ⟨nrm_least (Int.mul_pos hr ht), hq⟩
    · exact foF_least zs _ hq (fun y hy => hz y (List.mem_cons_of_mem _ hy)) e
/-- no worth but nought is 0 -/
theorem line_nought {Vn Bn m : Nat} {nu : List (Int × Int)} (h : NuOk Vn Bn m nu) {f : List Int} (hf : OkF m f) (h0 : (lineF (f.map wfF) nu).1 = 0) : lineF (f.map wfF) nu = (0, 1) := by
  have L := ln_f h hf
  have hm : 1 ≤ m := by
    obtain ⟨x, hx, _⟩ := hf.some_
    have := List.length_pos_of_mem hx
    rw [List.length_dropLast, hf.len] at this
    omega
  obtain ⟨h1, h2⟩ := foF_least ((f.map wfF).zip nu) (lastF (f.map wfF)) L.r0.pos (fun z hz => ⟨(L.zs z hz).1.pos, (L.zs z hz).2.pos⟩) (by
    intro e
    have := congrArg List.length e
    simp [hf.len, h.len] at this
    omega)
  have h1 : Nat.gcd (lineF (f.map wfF) nu).1.natAbs (lineF (f.map wfF) nu).2.natAbs = 1 := h1
  have h2 : 0 < (lineF (f.map wfF) nu).2 := h2
  rw [h0] at h1
  simp at h1
  exact Prod.ext h0 (by show (lineF (f.map wfF) nu).2 = 1; omega)
theorem okF_neg {m : Nat} {f : List Int} (h : OkF m f) : OkF m (f.map ngI) := by
  refine ⟨by rw [List.length_map]; exact h.len, ?_, ?_, fun x hx => ?_⟩
  · obtain ⟨x, h1, h2⟩ := h.some_
    exact ⟨ngI x, by rw [← List.map_dropLast]; exact List.mem_map.mpr ⟨x, h1, rfl⟩, by unfold ngI; omega⟩
  · have : ∀ (l : List Int) (g : Nat), gF g (l.map ngI) = gF g l := by
      intro l
      induction l with
      | nil => intro g; rfl
      | cons x l ih =>
        intro g
        show gF (Nat.gcd g (ngI x).natAbs) (l.map ngI) = gF (Nat.gcd g x.natAbs) l
        rw [ih]
        have : (ngI x).natAbs = x.natAbs := by unfold ngI; omega
        rw [this]
    rw [this]
    exact h.gcd
  · obtain ⟨y, hy, rfl⟩ := List.mem_map.mp hx
    have := h.small y hy
    unfold ngI
    omega
def turned (f : List Int) (a b : Nat) (r : List Nd) : List Nd := .cut (f.map ngI) b a :: r
theorem turned_k2 {m : Nat} {f : List Int} {a b : Nat} {r : List Nd} (K : K2 m (.cut f a b :: r)) : K2 m (turned f a b r) := by
  have h0 := K.each 0 _ rfl
  obtain ⟨h1, h2, h3, h4, h5⟩ := h0
  refine ⟨by simp [turned], fun i x q => ?_, ?_⟩
  · cases i with
    | zero =>
      cases q
      exact ⟨okF_neg h1, h4, h5, h2, h3⟩
    | succ i => exact K.each (i + 1) x q
  · have := K.perm
    refine .trans ?_ this
    show ((b : Int) :: (a : Int) :: r.flatMap wy).Perm ((a : Int) :: (b : Int) :: r.flatMap wy)
    exact .swap ..
theorem rch_tail {x y : Nd} {r : List Nd} {m : Nat} (K : K2 m (x :: r)) {nu : List (Int × Int)} {i : Nat} {w : Int × Int} (h : Rch (x :: r) nu i w) : 1 ≤ i → Rch (y :: r) nu i w := by
  induction h with
  | @ln i l q =>
    intro hi
    obtain ⟨i, rfl⟩ : ∃ j, i = j + 1 := ⟨i - 1, by omega⟩
    exact .ln q
  | @lo i f a b w q s r ih =>
    intro hi
    have := (K.each i _ q).2.1
    obtain ⟨i, rfl⟩ : ∃ j, i = j + 1 := ⟨i - 1, by omega⟩
    exact .lo q s (ih (by omega))
  | @hi i f a b w q s r ih =>
    intro hi
    have := (K.each i _ q).2.2.2.1
    obtain ⟨i, rfl⟩ : ∃ j, i = j + 1 := ⟨i - 1, by omega⟩
    exact .hi q s (ih (by omega))
theorem turned_rch {Vn Bn m : Nat} {f : List Int} {a b : Nat} {r : List Nd} (K : K2 m (.cut f a b :: r)) {nu : List (Int × Int)} (hn : NuOk Vn Bn m nu) (hne : lineF (f.map wfF) nu ≠ (0, 1)) {w : Int × Int} (h : Rch (.cut f a b :: r) nu 0 w) : Rch (turned f a b r) nu 0 w := by
  obtain ⟨h1, h2, h3, h4, h5⟩ := K.each 0 _ rfl
  have hv : (lineF (f.map wfF) nu).1 ≠ 0 := fun e => hne (line_nought hn h1 e)
  have ng := line_neg (f := f) (fun e => by have := h1.len; rw [e] at this; simp at this) nu
  have n1 : (lineF ((f.map ngI).map wfF) nu).1 = 0 - (lineF (f.map wfF) nu).1 := by rw [ng]; rfl
  have e0 : (turned f a b r)[0]? = some (.cut (f.map ngI) b a) := rfl
  cases h with
  | ln q => cases q
  | lo q s r' =>
    cases q
    exact .hi e0 (by rw [n1]; omega) (rch_tail K r' (by omega))
  | hi q s r' =>
    cases q
    exact .lo e0 (by rw [n1]; omega) (rch_tail K r' (by omega))
theorem pl_fr (p : Int × Int) : pl 2 (frD p) = true := by
  show (pl 1 (.int p.1) && (pl 1 (.int p.2) && true)) = true
  rfl
theorem eq_fr {p q : Int × Int} {neg : Bool} {S : Store} : opEq neg (.d (frD p)) (.d (frD q)) S = .ok (.d (.bl (if neg then !decide (p = q) else decide (p = q)))) S :=
  eq_of (pl_eqOk (pl_fr p) (pl_fr q) (by decide)) (by
    have h1 : toPys [.int p.1, .int p.2] = some [.int p.1, .int p.2] := toPys_ints [p.1, p.2]
    have h2 : toPys [.int q.1, .int q.2] = some [.int q.1, .int q.2] := toPys_ints [q.1, q.2]
    simp only [frD, deq, toPy, h1, h2]
    have := eqv_ints [p.1, p.2] [q.1, q.2]
    refine Eq.trans this ?_
    by_cases e : p = q
    · subst e
      simp
    · rw [decide_eq_false e, decide_eq_false]
      intro z
      apply e
      simp at z
      exact Prod.ext z.1 z.2)
end K15
end
section
/-! alike, of what is given -/
namespace K15
open PySem PySem.Spec PyProof.Rows L2 Y
/-- alike itself -/
def Al (k : Nat) (d : D) : Prop := ∀ S, F__law_alike k [.d d, .d d] S = .ok (.d (.bl true)) S
theorem al_non {k : Nat} : Al (k + 1) .non := fun S => by
  unfold F__law_alike b__law_alike
  simp [mkFn_eq]
theorem al_bl {k : Nat} {b : Bool} : Al (k + 1) (.bl b) := fun S => by
  unfold F__law_alike b__law_alike
  simp [mkFn_eq]
theorem al_int {k : Nat} {b : Int} : Al (k + 1) (.int b) := fun S => by
  unfold F__law_alike b__law_alike
  simp [mkFn_eq]
theorem al_str {k : Nat} {b : Str} : Al (k + 1) (.str b) := fun S => by
  unfold F__law_alike b__law_alike
  simp [mkFn_eq]
theorem len_dct {ks : List Key} {l : List D} {S : Store} : bLen [.d (.dct ks l)] S = .ok (.d (.int ks.length)) S := rfl
theorem al_dct {k : Nat} : Al (k + 1) (.dct [] []) := fun S => by
  unfold F__law_alike b__law_alike
  simp [mkFn_eq, len_dct]
theorem alike_sub {k : Nat} {l : List D} (ih : ∀ d ∈ l, Al (k + 1) d) (hl : l.length ≤ 1000) {σ : Ev} {S : Store} {q : D} (hq : q = .tup l ∨ q = .lst l) (e : σ = [some (.d q), some (.d q), none]) :
    eLc (iRng1 (aCons (eB bLen (aCons (eVar 0) (aNil))) (aNil))) (gN 2) (tYs) (eB (F__law_alike (k + 1)) (aCons (eOp opIx (eVar 0) (eVar 2)) (aCons (eOp opIx (eVar 1) (eVar 2)) (aNil)))) [2] σ S = .ok (.d (.lst ((rng 0 l.length).map fun _ => .bl true))) S := by
  subst e
  have h1 : (iRng1 (aCons (eB bLen (aCons (eVar 0) (aNil))) (aNil))) [some (.d q), some (.d q), none] S = .ok (rng 0 l.length) S := by
    rcases hq with rfl | rfl <;> simp [rg1_nat (show l.length ≤ 100000000 by omega)]
  refine eLc_map _ h1 (by simp; omega) ?_
  intro d hd acc
  obtain ⟨i, hi, rfl⟩ := rng_mem hd
  have e1 : ((0 : Int) + i) = (i : Nat) := by omega
  refine ⟨_, by simp [wipeD]; rfl, by simp, ?_⟩
  have := ih _ (List.getElem_mem hi) (S ++ [.lst acc])
  rcases hq with rfl | rfl <;> simp [wipeD, atIn, hi, this]
theorem al_tup {k : Nat} {l : List D} (ih : ∀ d ∈ l, Al (k + 1) d) (hl : l.length ≤ 1000) : Al (k + 2) (.tup l) := fun S => by
  have hc := fun S => alike_sub ih hl (S := S) (.inl rfl) rfl
  have ha := fun S : Store => all_ok (l := (rng 0 l.length).map fun _ => D.bl true) (S := S) (by simp)
  unfold F__law_alike b__law_alike
  simp [mkFn_eq, hc, ha]
theorem al_lst {k : Nat} {l : List D} (ih : ∀ d ∈ l, Al (k + 1) d) (hl : l.length ≤ 1000) : Al (k + 2) (.lst l) := fun S => by
  have hc := fun S => alike_sub ih hl (S := S) (.inr rfl) rfl
  have ha := fun S : Store => all_ok (l := (rng 0 l.length).map fun _ => D.bl true) (S := S) (by simp)
  unfold F__law_alike b__law_alike
  simp [mkFn_eq, hc, ha]
/-- how deep a value goes, for alike -/
def ad : Nat → D → Bool
  | 0, _ => false
  | _ + 1, .non => true
  | _ + 1, .bl _ => true
  | _ + 1, .int _ => true
  | _ + 1, .str _ => true
  | k + 2, .tup l => decide (l.length ≤ 1000) && l.all (ad (k + 1))
  | k + 2, .lst l => decide (l.length ≤ 1000) && l.all (ad (k + 1))
  | _, _ => false
theorem al_of : ∀ (k : Nat) (d : D), ad k d = true → Al k d
  | 0, d, h => by unfold ad at h; cases h
  | k + 1, .non, h => al_non
  | k + 1, .bl _, h => al_bl
  | k + 1, .int _, h => al_int
  | k + 1, .str _, h => al_str
  | 1, .tup l, h => by unfold ad at h; cases h
  | 1, .lst l, h => by unfold ad at h; cases h
  | k + 2, .tup l, h => by
    unfold ad at h
    simp only [Bool.and_eq_true, decide_eq_true_eq] at h
    exact al_tup (fun d hd => al_of (k + 1) d (List.all_eq_true.mp h.2 d hd)) h.1
  | k + 2, .lst l, h => by
    unfold ad at h
    simp only [Bool.and_eq_true, decide_eq_true_eq] at h
    exact al_lst (fun d hd => al_of (k + 1) d (List.all_eq_true.mp h.2 d hd)) h.1
theorem ad_up : ∀ (k : Nat) (d : D), ad k d = true → ad (k + 1) d = true
  | 0, d, h => by unfold ad at h; cases h
  | k + 1, .non, h => rfl
  | k + 1, .bl _, h => rfl
  | k + 1, .int _, h => rfl
  | k + 1, .str _, h => rfl
  | 1, .tup l, h => by unfold ad at h; cases h
  | 1, .lst l, h => by unfold ad at h; cases h
  | k + 2, .tup l, h => by
    unfold ad at h ⊢
    simp only [Bool.and_eq_true, decide_eq_true_eq] at h ⊢
    exact ⟨h.1, List.all_eq_true.mpr fun d hd => ad_up (k + 1) d (List.all_eq_true.mp h.2 d hd)⟩
  | k + 2, .lst l, h => by
    unfold ad at h ⊢
    simp only [Bool.and_eq_true, decide_eq_true_eq] at h ⊢
    exact ⟨h.1, List.all_eq_true.mpr fun d hd => ad_up (k + 1) d (List.all_eq_true.mp h.2 d hd)⟩
theorem ad_tup {k : Nat} {l : List D} (h : ∀ d ∈ l, ad (k + 1) d = true) (hl : l.length ≤ 1000) : ad (k + 2) (.tup l) = true := by
  unfold ad
  simp only [Bool.and_eq_true, decide_eq_true_eq]
  exact ⟨hl, List.all_eq_true.mpr h⟩
theorem ad_lst {k : Nat} {l : List D} (h : ∀ d ∈ l, ad (k + 1) d = true) (hl : l.length ≤ 1000) : ad (k + 2) (.lst l) = true := by
  unfold ad
  simp only [Bool.and_eq_true, decide_eq_true_eq]
  exact ⟨hl, List.all_eq_true.mpr h⟩
theorem ad_nd {m i n : Nat} {x : Nd} (h : okN m i n x) (hm : m ≤ 50) : ad 4 (nD x) = true := by
  cases x with
  | ln l =>
    have h : OkL m l := h
    refine ad_tup (fun d hd => ?_) (by simp)
    simp only [List.mem_cons, List.not_mem_nil, or_false] at hd
    rcases hd with rfl | rfl
    · rfl
    · refine ad_tup (fun d hd => ?_) (by rw [List.length_map, h.len]; omega)
      obtain ⟨p, _, rfl⟩ := List.mem_map.mp hd
      rfl
  | cut f a b =>
    obtain ⟨h1, _⟩ := h
    refine ad_tup (fun d hd => ?_) (by simp)
    simp only [List.mem_cons, List.not_mem_nil, or_false] at hd
    rcases hd with rfl | rfl | rfl | rfl
    · rfl
    · refine ad_tup (fun d hd => ?_) (by rw [List.length_map, h1.len]; omega)
      obtain ⟨p, _, rfl⟩ := List.mem_map.mp hd
      rfl
    · rfl
    · rfl
theorem ad_kds {m : Nat} {ns : List Nd} (K : Kk m ns) (hm : m ≤ 50) : ∀ d ∈ ns.map nD, ad 4 d = true := fun d hd => by
  obtain ⟨x, hx, rfl⟩ := List.mem_map.mp hd
  obtain ⟨i, hi⟩ := List.mem_iff_getElem?.mp hx
  exact ad_nd (K.each i x hi) hm
/-- what is told of the refusals -/
theorem alike3 {w : Str} {d : D} (h : ad 6 d = true) {n : Nat} (hn : n ≤ 10) {S : Store} : F__law_alike 8 [.d (.lst (List.replicate n (.lst [.str w, d]))), .d (.lst (List.replicate n (.lst [.str w, d])))] S = .ok (.d (.bl true)) S := by
  refine al_of 8 _ (ad_lst (fun e he => ?_) (by simp; omega)) S
  obtain ⟨_, rfl⟩ := List.mem_replicate.mp he
  refine ad_lst (fun e he => ?_) (by simp)
  simp only [List.mem_cons, List.not_mem_nil, or_false] at he
  rcases he with rfl | rfl
  · rfl
  · exact h
end K15
end
section
/-! the first FORM turned round: the code -/
namespace K15
open PySem PySem.Spec PyProof.Rows L2 Y
theorem neg_lc {f : List Int} (hf : f.length ≤ 1000) {σ : Ev} {S : Store} (h10 : σ[10]? = some (some (.d (.tup (f.map D.int))))) (hk : 12 < σ.length) : (eLc (iVal (eVar 10)) (gN 12) (tYs) (eOp opSub (eC (.int 0)) (eVar 12)) [12]) σ S = .ok (.d (.lst ((f.map ngI).map D.int))) S := by
  have := eLc_map (w := iVal (eVar 10)) (g := gN 12) (t := tYs) (e := (eOp opSub (eC (.int 0)) (eVar 12))) (vs := [12]) (σ := σ) (S := S) (ds := f.map D.int)
    (fun d => match d with | .int x => .int (ngI x) | d => d) (by simp [h10, itemsOf]) (by simp; omega) (by
      intro d hd acc
      obtain ⟨x, hx', rfl⟩ := List.mem_map.mp hd
      have hl : (wipeD σ [12]).length = σ.length := by simp [wipeD]
      refine ⟨(wipeD σ [12]).set 12 (some (.d (.int x))), by simp [hl, hk], by simp, ?_⟩
      have : ((wipeD σ [12]).set 12 (some (Wt.d (.int x))))[12]? = some (some (.d (.int x))) := by rw [List.getElem?_set_self (by omega)]
      generalize (wipeD σ [12]).set 12 (some (.d (.int x))) = ρ at this
      simp [this, ngI])
  rw [this, List.map_map, List.map_map]
  rfl
theorem turn_ok {Vn Bn n m b0 : Nat} {f : List Int} {a b : Nat} {r : List Nd} (K : K2 m (.cut f a b :: r)) (hl : r.length ≤ 900) {nu : List (Int × Int)} (hn : NuOk Vn Bn m nu) {w : Int × Int} (hw : Rch (.cut f a b :: r) nu 0 w) {M T : D} {z : Int} {d6 d9 d10 d11 d13 : Option Wt} {S : Store} :
    ∃ d10' d11' d13', (sSeq (sSet 10 (eOp opIx (eOp opIx (eVar 2) (eC (.int 0))) (eC (.int 1))))
  (sSeq (sSet 11 (eOp opAdd (eTup (aCons (eTup (aCons (eC (.str "cut")) (aCons (eB bTuple (aCons (eLc (iVal (eVar 10)) (gN 12) (tYs) (eOp opSub (eC (.int 0)) (eVar 12)) [12]) (aNil))) (aCons (eOp opIx (eOp opIx (eVar 2) (eC (.int 0))) (eC (.int 3))) (aCons (eOp opIx (eOp opIx (eVar 2) (eC (.int 0))) (eC (.int 2))) (aNil)))))) (aNil))) (eSl opSl (eVar 2) (oSome (eC (.int 1))) (oNone))))
  (sSeq (sSet 13 (eOp (opEq false) (eB F__law_line_at (aCons (eLc (iVal (eVar 10)) (gN 12) (tYs) (eTup (aCons (eVar 12) (aCons (eC (.int 1)) (aNil)))) [12]) (aCons (eVar 7) (aNil)))) (eTup (aCons (eC (.int 0)) (aCons (eC (.int 1)) (aNil))))))
  (sIf (tOr (tBl (eOp (opIs true) (eB F_is_kink (aCons (eVar 11) (aCons (eVar 1) (aNil)))) (eC (.bl true)))) (tOr (tBl (eOp (opEq true) (eB F_kink_at (aCons (eVar 11) (aCons (eVar 1) (aCons (eVar 7) (aNil))))) (eB F__law_kink_at (aCons (eVar 11) (aCons (eVar 7) (aNil)))))) (tAnd (tNot (tTru (eVar 13))) (tBl (eOp (opEq true) (eB F__law_kink_at (aCons (eVar 11) (aCons (eVar 7) (aNil)))) (eVar 8))))))
  (sRet (eC (.bl false)))
  (sNext))))) b0 ([some (.loc n), some (.d (.int m)), some (.d (kD (.cut f a b :: r))), some (.d M), some (.d (.int z)), some (.d T), d6, some (.d (.tup (nu.map frD))), some (.d (frD w)), d9, d10, d11, none, d13] : Ev) S = .nx ([some (.loc n), some (.d (.int m)), some (.d (kD (.cut f a b :: r))), some (.d M), some (.d (.int z)), some (.d T), d6, some (.d (.tup (nu.map frD))), some (.d (frD w)), d9, d10', d11', none, d13'] : Ev) S := by
  obtain ⟨hf, ha1, ha2, hb1, hb2⟩ := K.each 0 _ rfl
  have hfl : f.length ≤ 1000 := by rw [hf.len]; have := hn.hm; omega
  have K' := turned_k2 K
  have hl' : (turned f a b r).length ≤ 1000 := by simp [turned]; omega
  obtain ⟨w', hw'⟩ := rch_some K' nu (turned f a b r).length 0 (by omega) (by simp [turned])
  have ik := fun S => isk_ok K' hn.hm hl' (S := S)
  have ka := fun S => kat_ok K' hl' hn hw' (S := S)
  have la := fun S => lkat_ok K' hl' hn hw' (S := S)
  have eqw := fun S => eq_self (pl_fr w') (by decide) (neg := true) (S := S)
  have eqd := fun S => eq_fr (p := w') (q := w) (neg := true) (S := S)
  have eq0 := fun S => eq_fr (p := lineF (f.map wfF) nu) (q := (0, 1)) (neg := false) (S := S)
  have ll := fun S => lline_ok (ln_f hn hf) (.inr (.inl ⟨rfl, rfl⟩)) (S := S)
  have hne : lineF (f.map wfF) nu ≠ (0, 1) → w' = w := fun h => hw'.one (turned_rch K hn h hw)
  have c0 : (sSet 10 (eOp opIx (eOp opIx (eVar 2) (eC (.int 0))) (eC (.int 1)))) b0 ([some (.loc n), some (.d (.int m)), some (.d (kD (.cut f a b :: r))), some (.d M), some (.d (.int z)), some (.d T), d6, some (.d (.tup (nu.map frD))), some (.d (frD w)), d9, d10, d11, none, d13] : Ev) S = .nx ([some (.loc n), some (.d (.int m)), some (.d (kD (.cut f a b :: r))), some (.d M), some (.d (.int z)), some (.d T), d6, some (.d (.tup (nu.map frD))), some (.d (frD w)), d9, some (.d (.tup (f.map D.int))), d11, none, d13] : Ev) S := by
    unfold kD
    simp only [List.map_cons, nD]
    generalize r.map nD = L at *
    generalize f.map D.int = fi at *
    generalize nu.map frD = N at *
    simp
  have nl := neg_lc hfl (σ := ([some (.loc n), some (.d (.int m)), some (.d (kD (.cut f a b :: r))), some (.d M), some (.d (.int z)), some (.d T), d6, some (.d (.tup (nu.map frD))), some (.d (frD w)), d9, some (.d (.tup (f.map D.int))), d11, none, d13] : Ev)) (S := S) rfl (by simp)
  have kt : (D.tup (.tup [.str "cut", .tup ((f.map ngI).map D.int), .int b, .int a] :: r.map nD)) = kD (turned f a b r) := rfl
  have c1 : (sSet 11 (eOp opAdd (eTup (aCons (eTup (aCons (eC (.str "cut")) (aCons (eB bTuple (aCons (eLc (iVal (eVar 10)) (gN 12) (tYs) (eOp opSub (eC (.int 0)) (eVar 12)) [12]) (aNil))) (aCons (eOp opIx (eOp opIx (eVar 2) (eC (.int 0))) (eC (.int 3))) (aCons (eOp opIx (eOp opIx (eVar 2) (eC (.int 0))) (eC (.int 2))) (aNil)))))) (aNil))) (eSl opSl (eVar 2) (oSome (eC (.int 1))) (oNone)))) b0 ([some (.loc n), some (.d (.int m)), some (.d (kD (.cut f a b :: r))), some (.d M), some (.d (.int z)), some (.d T), d6, some (.d (.tup (nu.map frD))), some (.d (frD w)), d9, some (.d (.tup (f.map D.int))), d11, none, d13] : Ev) S = .nx ([some (.loc n), some (.d (.int m)), some (.d (kD (.cut f a b :: r))), some (.d M), some (.d (.int z)), some (.d T), d6, some (.d (.tup (nu.map frD))), some (.d (frD w)), d9, some (.d (.tup (f.map D.int))), some (.d (kD (turned f a b r))), none, d13] : Ev) S := by
    have i2 : ∀ l : List D, atI [D.str "cut", D.tup l, D.int (a : Int), D.int (b : Int)] 2 = some (.int a) := fun l => atIn (k := 2)
    have i3 : ∀ l : List D, atI [D.str "cut", D.tup l, D.int (a : Int), D.int (b : Int)] 3 = some (.int b) := fun l => atIn (k := 3)
    have k1 : 1 + (r.map nD).length ≤ lim := by rw [lim_eq, List.length_map]; omega
    have ct := cut_1 (D.tup [.str "cut", .tup (f.map D.int), .int a, .int b] :: r.map nD)
    rw [← kt]
    unfold kD at nl ⊢
    simp only [List.map_cons, nD] at nl ⊢
    generalize r.map nD = L at *
    generalize (f.map ngI).map D.int = fj at *
    generalize f.map D.int = fi at *
    generalize nu.map frD = N at *
    rw [lim_eq] at k1
    simp [nl, i2, i3, ct, k1]
  have lf := form_lc (f := f) (k := 12) (w := eVar 10) (σ := ([some (.loc n), some (.d (.int m)), some (.d (kD (.cut f a b :: r))), some (.d M), some (.d (.int z)), some (.d T), d6, some (.d (.tup (nu.map frD))), some (.d (frD w)), d9, some (.d (.tup (f.map D.int))), some (.d (kD (turned f a b r))), none, d13] : Ev)) (S := S) hfl (by simp [itemsOf]) (by simp)
  have c2 : (sSet 13 (eOp (opEq false) (eB F__law_line_at (aCons (eLc (iVal (eVar 10)) (gN 12) (tYs) (eTup (aCons (eVar 12) (aCons (eC (.int 1)) (aNil)))) [12]) (aCons (eVar 7) (aNil)))) (eTup (aCons (eC (.int 0)) (aCons (eC (.int 1)) (aNil)))))) b0 ([some (.loc n), some (.d (.int m)), some (.d (kD (.cut f a b :: r))), some (.d M), some (.d (.int z)), some (.d T), d6, some (.d (.tup (nu.map frD))), some (.d (frD w)), d9, some (.d (.tup (f.map D.int))), some (.d (kD (turned f a b r))), none, d13] : Ev) S = .nx ([some (.loc n), some (.d (.int m)), some (.d (kD (.cut f a b :: r))), some (.d M), some (.d (.int z)), some (.d T), d6, some (.d (.tup (nu.map frD))), some (.d (frD w)), d9, some (.d (.tup (f.map D.int))), some (.d (kD (turned f a b r))), none, some (.d (.bl (decide (lineF (f.map wfF) nu = (0, 1)))))] : Ev) S := by
    have e01 : frD (0, 1) = .tup [.int 0, .int 1] := rfl
    rw [e01] at eq0
    generalize kD (turned f a b r) = Kt at *
    generalize kD (.cut f a b :: r) = Kd at *
    generalize decide (lineF (f.map wfF) nu = (0, 1)) = bb at *
    generalize frD (lineF (f.map wfF) nu) = V at *
    generalize (f.map wfF).map frD = FF at *
    generalize f.map D.int = fi at *
    generalize nu.map frD = N at *
    simp [lf, ll, eq0]
  have c3 : (sIf (tOr (tBl (eOp (opIs true) (eB F_is_kink (aCons (eVar 11) (aCons (eVar 1) (aNil)))) (eC (.bl true)))) (tOr (tBl (eOp (opEq true) (eB F_kink_at (aCons (eVar 11) (aCons (eVar 1) (aCons (eVar 7) (aNil))))) (eB F__law_kink_at (aCons (eVar 11) (aCons (eVar 7) (aNil)))))) (tAnd (tNot (tTru (eVar 13))) (tBl (eOp (opEq true) (eB F__law_kink_at (aCons (eVar 11) (aCons (eVar 7) (aNil)))) (eVar 8))))))
  (sRet (eC (.bl false)))
  (sNext)) b0 ([some (.loc n), some (.d (.int m)), some (.d (kD (.cut f a b :: r))), some (.d M), some (.d (.int z)), some (.d T), d6, some (.d (.tup (nu.map frD))), some (.d (frD w)), d9, some (.d (.tup (f.map D.int))), some (.d (kD (turned f a b r))), none, some (.d (.bl (decide (lineF (f.map wfF) nu = (0, 1)))))] : Ev) S = .nx ([some (.loc n), some (.d (.int m)), some (.d (kD (.cut f a b :: r))), some (.d M), some (.d (.int z)), some (.d T), d6, some (.d (.tup (nu.map frD))), some (.d (frD w)), d9, some (.d (.tup (f.map D.int))), some (.d (kD (turned f a b r))), none, some (.d (.bl (decide (lineF (f.map wfF) nu = (0, 1)))))] : Ev) S := by
    generalize kD (turned f a b r) = Kt at *
    generalize kD (.cut f a b :: r) = Kd at *
    generalize f.map D.int = fi at *
    generalize nu.map frD = N at *
    by_cases h : lineF (f.map wfF) nu = (0, 1)
    · generalize frD w' = W' at *
      generalize frD w = W at *
      simp [ik, ka, la, eqw, h]
    · have e := hne h
      subst e
      have h2 : decide (lineF (f.map wfF) nu = (0, 1)) = false := decide_eq_false h
      rw [h2]
      generalize frD w' = W' at *
      simp [ik, ka, la, eqw]
  exact ⟨some (.d (.tup (f.map D.int))), some (.d (kD (turned f a b r))), some (.d (.bl (decide (lineF (f.map wfF) nu = (0, 1))))), by simp only [sSeq_ap, c0, c1, c2, c3]⟩
end K15
end
section
/-! one turn, and the law -/
namespace K15
open PySem PySem.Spec PyProof.Rows L2 Y
theorem alike_due {w : Int × Int} (S : Store) : F__law_alike 8 [.d (.tup [frD w, frD w, frD w]), .d (.tup [frD w, frD w, frD w])] S = .ok (.d (.bl true)) S :=
  al_of 8 _ (ad_tup (fun d hd => by
    simp only [List.mem_cons, List.not_mem_nil, or_false] at hd
    rcases hd with rfl | rfl | rfl <;> rfl) (by simp)) S
theorem due3 {d : D} {S : Store} : opMulT (.d (.tup [d])) (.d (.int 3)) S = .ok (.d (.tup [d, d, d])) S := by
  rw [mulT_tup (by simp) (by simp) (by decide) (by decide)]
  rfl
theorem lap_ok {n m b0 : Nat} {S S0 : Store} (mv0 : Mv n S0 S) {ns ms tw : List Nd} (K : K2 m ns) (K1 : K2 m ms) (K3 : K2 m tw) (hm : m ≤ 5) (hl : ns.length ≤ 900) (hl1 : ms.length ≤ 900) (hl3 : tw.length ≤ 900) (r1 : ∀ nu w, Rch ns nu 0 w → Rch ms nu 0 w) (r3 : ∀ nu w, Rch ns nu 0 w → Rch tw nu 0 w) {d : D} {d7 d8 d9 d10 d11 d13 : Option Wt} :
    ∃ S2 e7 e8 e9 e10 e11 e13, (sSeq (sSet 7 (eB F__law_numbers (aCons (eVar 0) (aCons (eVar 2) (aCons (eVar 1) (aNil))))))
  (sSeq (sSet 8 (eB F__law_kink_at (aCons (eVar 2) (aCons (eVar 7) (aNil)))))
  (sSeq (sSet 9 (eIf (tBl (eOp (opEq false) (eB F__law_take (aCons (eVar 0) (aCons (eC (.int 2)) (aNil)))) (eC (.int 0)))) (eB F_kink_at (aCons (eVar 2) (aCons (eVar 1) (aCons (eVar 7) (aNil))))) (eCK F_kink_at 0 3 [2, 1, 0] aNil (aCons (eVar 7) (aCons (eVar 1) (aCons (eVar 2) (aNil)))))))
  (sSeq (sIf (tNot (tTru (eB (F__law_alike 8) (aCons (eTup (aCons (eVar 9) (aCons (eB F_kink_at (aCons (eVar 3) (aCons (eVar 1) (aCons (eVar 7) (aNil))))) (aCons (eB F_kink_at (aCons (eVar 5) (aCons (eVar 1) (aCons (eVar 7) (aNil))))) (aNil))))) (aCons (eOp opMulT (eTup (aCons (eVar 8) (aNil))) (eC (.int 3))) (aNil))))))
  (sRet (eC (.bl false)))
  (sNext))
  (sIf (tBl (eOp (opEq false) (eOp opIx (eOp opIx (eVar 2) (eC (.int 0))) (eC (.int 0))) (eC (.str "cut"))))
  (sSeq (sSet 10 (eOp opIx (eOp opIx (eVar 2) (eC (.int 0))) (eC (.int 1))))
  (sSeq (sSet 11 (eOp opAdd (eTup (aCons (eTup (aCons (eC (.str "cut")) (aCons (eB bTuple (aCons (eLc (iVal (eVar 10)) (gN 12) (tYs) (eOp opSub (eC (.int 0)) (eVar 12)) [12]) (aNil))) (aCons (eOp opIx (eOp opIx (eVar 2) (eC (.int 0))) (eC (.int 3))) (aCons (eOp opIx (eOp opIx (eVar 2) (eC (.int 0))) (eC (.int 2))) (aNil)))))) (aNil))) (eSl opSl (eVar 2) (oSome (eC (.int 1))) (oNone))))
  (sSeq (sSet 13 (eOp (opEq false) (eB F__law_line_at (aCons (eLc (iVal (eVar 10)) (gN 12) (tYs) (eTup (aCons (eVar 12) (aCons (eC (.int 1)) (aNil)))) [12]) (aCons (eVar 7) (aNil)))) (eTup (aCons (eC (.int 0)) (aCons (eC (.int 1)) (aNil))))))
  (sIf (tOr (tBl (eOp (opIs true) (eB F_is_kink (aCons (eVar 11) (aCons (eVar 1) (aNil)))) (eC (.bl true)))) (tOr (tBl (eOp (opEq true) (eB F_kink_at (aCons (eVar 11) (aCons (eVar 1) (aCons (eVar 7) (aNil))))) (eB F__law_kink_at (aCons (eVar 11) (aCons (eVar 7) (aNil)))))) (tAnd (tNot (tTru (eVar 13))) (tBl (eOp (opEq true) (eB F__law_kink_at (aCons (eVar 11) (aCons (eVar 7) (aNil)))) (eVar 8))))))
  (sRet (eC (.bl false)))
  (sNext)))))
  (sNext)))))) b0 ([some (.loc n), some (.d (.int m)), some (.d (kD ns)), some (.d (kD ms)), some (.d (.int ns.length)), some (.d (kD tw)), some (.d d), d7, d8, d9, d10, d11, none, d13] : Ev) S = .nx ([some (.loc n), some (.d (.int m)), some (.d (kD ns)), some (.d (kD ms)), some (.d (.int ns.length)), some (.d (kD tw)), some (.d d), e7, e8, e9, e10, e11, none, e13] : Ev) S2 ∧ Mv n S0 S2 := by
  obtain ⟨nu, S1, e1, mv1, hn⟩ := numbers_ok mv0.pl K (by omega) hm
  obtain ⟨w, hw⟩ := rch_some K nu ns.length 0 (by omega) (List.length_pos_iff.mpr K.pos)
  have b0' : (sSet 7 (eB F__law_numbers (aCons (eVar 0) (aCons (eVar 2) (aCons (eVar 1) (aNil)))))) b0 ([some (.loc n), some (.d (.int m)), some (.d (kD ns)), some (.d (kD ms)), some (.d (.int ns.length)), some (.d (kD tw)), some (.d d), d7, d8, d9, d10, d11, none, d13] : Ev) S = .nx ([some (.loc n), some (.d (.int m)), some (.d (kD ns)), some (.d (kD ms)), some (.d (.int ns.length)), some (.d (kD tw)), some (.d d), some (.d (.tup (nu.map frD))), d8, d9, d10, d11, none, d13] : Ev) S1 := by
    generalize kD ns = Kd at *
    generalize kD ms = Md at *
    generalize kD tw = Td at *
    generalize nu.map frD = N at *
    simp [e1]
  have la := fun S => lkat_ok K (by omega) hn hw (S := S)
  have ka := fun S => kat_ok K (by omega) hn hw (S := S)
  have kb := fun S => kat_ok K1 (by omega) hn (r1 nu w hw) (S := S)
  have kc := fun S => kat_ok K3 (by omega) hn (r3 nu w hw) (S := S)
  have b1' : (sSet 8 (eB F__law_kink_at (aCons (eVar 2) (aCons (eVar 7) (aNil))))) b0 ([some (.loc n), some (.d (.int m)), some (.d (kD ns)), some (.d (kD ms)), some (.d (.int ns.length)), some (.d (kD tw)), some (.d d), some (.d (.tup (nu.map frD))), d8, d9, d10, d11, none, d13] : Ev) S1 = .nx ([some (.loc n), some (.d (.int m)), some (.d (kD ns)), some (.d (kD ms)), some (.d (.int ns.length)), some (.d (kD tw)), some (.d d), some (.d (.tup (nu.map frD))), some (.d (frD w)), d9, d10, d11, none, d13] : Ev) S1 := by
    generalize kD ns = Kd at *
    generalize kD ms = Md at *
    generalize kD tw = Td at *
    generalize nu.map frD = N at *
    simp [la]
  obtain ⟨q, S2, e2, mv2, _, _⟩ := take_ok (mv0.trans mv1).pl (many := 2) (by decide) (by decide)
  have mv := (mv0.trans mv1).trans mv2
  have b2' : (sSet 9 (eIf (tBl (eOp (opEq false) (eB F__law_take (aCons (eVar 0) (aCons (eC (.int 2)) (aNil)))) (eC (.int 0)))) (eB F_kink_at (aCons (eVar 2) (aCons (eVar 1) (aCons (eVar 7) (aNil))))) (eCK F_kink_at 0 3 [2, 1, 0] aNil (aCons (eVar 7) (aCons (eVar 1) (aCons (eVar 2) (aNil))))))) b0 ([some (.loc n), some (.d (.int m)), some (.d (kD ns)), some (.d (kD ms)), some (.d (.int ns.length)), some (.d (kD tw)), some (.d d), some (.d (.tup (nu.map frD))), some (.d (frD w)), d9, d10, d11, none, d13] : Ev) S1 = .nx ([some (.loc n), some (.d (.int m)), some (.d (kD ns)), some (.d (kD ms)), some (.d (.int ns.length)), some (.d (kD tw)), some (.d d), some (.d (.tup (nu.map frD))), some (.d (frD w)), some (.d (frD w)), d10, d11, none, d13] : Ev) S2 := by
    generalize kD ns = Kd at *
    generalize kD ms = Md at *
    generalize kD tw = Td at *
    generalize nu.map frD = N at *
    by_cases hq : q = 0
    · simp [e2, hq, ka]
    · simp [e2, hq, pick, ka]
  have al := fun S => alike_due (w := w) S
  have b3' : (sIf (tNot (tTru (eB (F__law_alike 8) (aCons (eTup (aCons (eVar 9) (aCons (eB F_kink_at (aCons (eVar 3) (aCons (eVar 1) (aCons (eVar 7) (aNil))))) (aCons (eB F_kink_at (aCons (eVar 5) (aCons (eVar 1) (aCons (eVar 7) (aNil))))) (aNil))))) (aCons (eOp opMulT (eTup (aCons (eVar 8) (aNil))) (eC (.int 3))) (aNil))))))
  (sRet (eC (.bl false)))
  (sNext)) b0 ([some (.loc n), some (.d (.int m)), some (.d (kD ns)), some (.d (kD ms)), some (.d (.int ns.length)), some (.d (kD tw)), some (.d d), some (.d (.tup (nu.map frD))), some (.d (frD w)), some (.d (frD w)), d10, d11, none, d13] : Ev) S2 = .nx ([some (.loc n), some (.d (.int m)), some (.d (kD ns)), some (.d (kD ms)), some (.d (.int ns.length)), some (.d (kD tw)), some (.d d), some (.d (.tup (nu.map frD))), some (.d (frD w)), some (.d (frD w)), d10, d11, none, d13] : Ev) S2 := by
    generalize kD ns = Kd at *
    generalize kD ms = Md at *
    generalize kD tw = Td at *
    generalize nu.map frD = N at *
    generalize frD w = V at *
    simp [kb, kc, due3, al]
  cases ns with
  | nil => exact absurd rfl K.pos
  | cons x0 r =>
    cases x0 with
    | ln l =>
      refine ⟨S2, some (.d (.tup (nu.map frD))), some (.d (frD w)), some (.d (frD w)), d10, d11, d13, ?_, mv⟩
      have b4' : (sIf (tBl (eOp (opEq false) (eOp opIx (eOp opIx (eVar 2) (eC (.int 0))) (eC (.int 0))) (eC (.str "cut"))))
  (sSeq (sSet 10 (eOp opIx (eOp opIx (eVar 2) (eC (.int 0))) (eC (.int 1))))
  (sSeq (sSet 11 (eOp opAdd (eTup (aCons (eTup (aCons (eC (.str "cut")) (aCons (eB bTuple (aCons (eLc (iVal (eVar 10)) (gN 12) (tYs) (eOp opSub (eC (.int 0)) (eVar 12)) [12]) (aNil))) (aCons (eOp opIx (eOp opIx (eVar 2) (eC (.int 0))) (eC (.int 3))) (aCons (eOp opIx (eOp opIx (eVar 2) (eC (.int 0))) (eC (.int 2))) (aNil)))))) (aNil))) (eSl opSl (eVar 2) (oSome (eC (.int 1))) (oNone))))
  (sSeq (sSet 13 (eOp (opEq false) (eB F__law_line_at (aCons (eLc (iVal (eVar 10)) (gN 12) (tYs) (eTup (aCons (eVar 12) (aCons (eC (.int 1)) (aNil)))) [12]) (aCons (eVar 7) (aNil)))) (eTup (aCons (eC (.int 0)) (aCons (eC (.int 1)) (aNil))))))
  (sIf (tOr (tBl (eOp (opIs true) (eB F_is_kink (aCons (eVar 11) (aCons (eVar 1) (aNil)))) (eC (.bl true)))) (tOr (tBl (eOp (opEq true) (eB F_kink_at (aCons (eVar 11) (aCons (eVar 1) (aCons (eVar 7) (aNil))))) (eB F__law_kink_at (aCons (eVar 11) (aCons (eVar 7) (aNil)))))) (tAnd (tNot (tTru (eVar 13))) (tBl (eOp (opEq true) (eB F__law_kink_at (aCons (eVar 11) (aCons (eVar 7) (aNil)))) (eVar 8))))))
  (sRet (eC (.bl false)))
  (sNext)))))
  (sNext)) b0 ([some (.loc n), some (.d (.int m)), some (.d (kD (.ln l :: r))), some (.d (kD ms)), some (.d (.int (Nd.ln l :: r).length)), some (.d (kD tw)), some (.d d), some (.d (.tup (nu.map frD))), some (.d (frD w)), some (.d (frD w)), d10, d11, none, d13] : Ev) S2 = .nx ([some (.loc n), some (.d (.int m)), some (.d (kD (.ln l :: r))), some (.d (kD ms)), some (.d (.int (Nd.ln l :: r).length)), some (.d (kD tw)), some (.d d), some (.d (.tup (nu.map frD))), some (.d (frD w)), some (.d (frD w)), d10, d11, none, d13] : Ev) S2 := by
        unfold kD
        simp only [List.map_cons, nD]
        generalize r.map nD = L at *
        generalize l.map frD = L2 at *
        generalize nu.map frD = N at *
        simp [str_dec]
      simp only [sSeq_ap, b0', b1', b2', b3', b4']
    | cut f a b =>
      obtain ⟨g10, g11, g13, t⟩ := turn_ok (n := n) (b0 := b0) K (by simp at hl; omega) hn hw (M := kD ms) (T := kD tw) (z := (((Nd.cut f a b :: r).length : Nat) : Int)) (d6 := some (.d d)) (d9 := some (.d (frD w))) (d10 := d10) (d11 := d11) (d13 := d13) (S := S2)
      refine ⟨S2, some (.d (.tup (nu.map frD))), some (.d (frD w)), some (.d (frD w)), g10, g11, g13, ?_, mv⟩
      have c4' : (tBl (eOp (opEq false) (eOp opIx (eOp opIx (eVar 2) (eC (.int 0))) (eC (.int 0))) (eC (.str "cut")))) ([some (.loc n), some (.d (.int m)), some (.d (kD (.cut f a b :: r))), some (.d (kD ms)), some (.d (.int (Nd.cut f a b :: r).length)), some (.d (kD tw)), some (.d d), some (.d (.tup (nu.map frD))), some (.d (frD w)), some (.d (frD w)), d10, d11, none, d13] : Ev) S2 = .ok true S2 := by
        unfold kD
        simp only [List.map_cons, nD]
        generalize r.map nD = L at *
        generalize f.map D.int = L2 at *
        generalize nu.map frD = N at *
        simp
      have b4' : (sIf (tBl (eOp (opEq false) (eOp opIx (eOp opIx (eVar 2) (eC (.int 0))) (eC (.int 0))) (eC (.str "cut"))))
  (sSeq (sSet 10 (eOp opIx (eOp opIx (eVar 2) (eC (.int 0))) (eC (.int 1))))
  (sSeq (sSet 11 (eOp opAdd (eTup (aCons (eTup (aCons (eC (.str "cut")) (aCons (eB bTuple (aCons (eLc (iVal (eVar 10)) (gN 12) (tYs) (eOp opSub (eC (.int 0)) (eVar 12)) [12]) (aNil))) (aCons (eOp opIx (eOp opIx (eVar 2) (eC (.int 0))) (eC (.int 3))) (aCons (eOp opIx (eOp opIx (eVar 2) (eC (.int 0))) (eC (.int 2))) (aNil)))))) (aNil))) (eSl opSl (eVar 2) (oSome (eC (.int 1))) (oNone))))
  (sSeq (sSet 13 (eOp (opEq false) (eB F__law_line_at (aCons (eLc (iVal (eVar 10)) (gN 12) (tYs) (eTup (aCons (eVar 12) (aCons (eC (.int 1)) (aNil)))) [12]) (aCons (eVar 7) (aNil)))) (eTup (aCons (eC (.int 0)) (aCons (eC (.int 1)) (aNil))))))
  (sIf (tOr (tBl (eOp (opIs true) (eB F_is_kink (aCons (eVar 11) (aCons (eVar 1) (aNil)))) (eC (.bl true)))) (tOr (tBl (eOp (opEq true) (eB F_kink_at (aCons (eVar 11) (aCons (eVar 1) (aCons (eVar 7) (aNil))))) (eB F__law_kink_at (aCons (eVar 11) (aCons (eVar 7) (aNil)))))) (tAnd (tNot (tTru (eVar 13))) (tBl (eOp (opEq true) (eB F__law_kink_at (aCons (eVar 11) (aCons (eVar 7) (aNil)))) (eVar 8))))))
  (sRet (eC (.bl false)))
  (sNext)))))
  (sNext)) b0 ([some (.loc n), some (.d (.int m)), some (.d (kD (.cut f a b :: r))), some (.d (kD ms)), some (.d (.int (Nd.cut f a b :: r).length)), some (.d (kD tw)), some (.d d), some (.d (.tup (nu.map frD))), some (.d (frD w)), some (.d (frD w)), d10, d11, none, d13] : Ev) S2 = .nx ([some (.loc n), some (.d (.int m)), some (.d (kD (.cut f a b :: r))), some (.d (kD ms)), some (.d (.int ((Nd.cut f a b :: r).length : Nat))), some (.d (kD tw)), some (.d d), some (.d (.tup (nu.map frD))), some (.d (frD w)), some (.d (frD w)), g10, g11, none, g13] : Ev) S2 := by
        rw [sIf_ap, c4']
        exact t
      simp only [sSeq_ap, b0', b1', b2', b3', b4']
end K15
end
section
namespace K15
open PySem PySem.Spec PyProof.Rows L2 Y
theorem right_ok {n : Nat} {S : Store} (hp : Pl n S) : ∃ S', F__law_right [.loc n] S = .ok (.d (.bl true)) S' ∧ Mv n S S' := by
  obtain ⟨r, S1, e1, mv1, r1, r2⟩ := take_ok hp (many := 6) (by decide) (by decide)
  obtain ⟨m, rfl⟩ : ∃ m : Nat, r = (m : Int) := ⟨r.toNat, by omega⟩
  have hm : m ≤ 5 := by omega
  obtain ⟨r', S2, e2, mv2, r3, r4⟩ := take_ok mv1.pl (many := 8) (by decide) (by decide)
  obtain ⟨cuts, rfl⟩ : ∃ m : Nat, r' = (m : Int) := ⟨r'.toNat, by omega⟩
  have mv02 := mv1.trans mv2
  obtain ⟨ns, S3, e3, mv3, KK, hnl⟩ := any_kink_ok mv02.pl hm (cuts := cuts) (by omega)
  have mv03 := mv02.trans mv3
  have K := KK.k2
  have hl : ns.length ≤ 15 := by omega
  obtain ⟨ms, S4, e4, mv4, K1, hml, h1⟩ := reordered_ok mv03.pl K (by omega)
  have mv04 := mv03.trans mv4
  have a0 : (sSet 1 (eB F__law_take (aCons (eVar 0) (aCons (eC (.int 6)) (aNil))))) S.length [some (.loc n), none, none, none, none, none, none, none, none, none, none, none, none, none] S = .nx [some (.loc n), some (.d (.int m)), none, none, none, none, none, none, none, none, none, none, none, none] S1 := by simp [e1]
  have a1 : (sSet 2 (eB F__law_any_kink (aCons (eVar 0) (aCons (eVar 1) (aCons (eB F__law_take (aCons (eVar 0) (aCons (eC (.int 8)) (aNil)))) (aNil)))))) S.length [some (.loc n), some (.d (.int m)), none, none, none, none, none, none, none, none, none, none, none, none] S1 = .nx [some (.loc n), some (.d (.int m)), some (.d (kD ns)), none, none, none, none, none, none, none, none, none, none, none] S3 := by
    generalize kD ns = Kd at *
    simp [e2, e3]
  have lk : ∀ S, bLen [.d (kD ns)] S = .ok (.d (.int ns.length)) S := fun S => by simp [kD]
  have a2 : (sPar 3 4 (aCons (eB F__law_reordered (aCons (eVar 0) (aCons (eVar 2) (aNil)))) (aCons (eB bLen (aCons (eVar 2) (aNil))) (aNil)))) S.length [some (.loc n), some (.d (.int m)), some (.d (kD ns)), none, none, none, none, none, none, none, none, none, none, none] S3 = .nx [some (.loc n), some (.d (.int m)), some (.d (kD ns)), some (.d (kD ms)), some (.d (.int ns.length)), none, none, none, none, none, none, none, none, none] S4 := by
    generalize kD ns = Kd at *
    generalize kD ms = Md at *
    simp [e4, lk]
  have tw_ok : ∃ tw S5, (sSet 5 (eIf (tBl (eOp opGt (eVar 1) (eC (.int 0)))) (eOp opAdd (eOp opAdd (eTup (aCons (eTup (aCons (eC (.str "cut")) (aCons (eB F__law_any_form (aCons (eVar 0) (aCons (eVar 1) (aNil)))) (aCons (eC (.int 1)) (aCons (eOp opAdd (eC (.int 1)) (eVar 4)) (aNil)))))) (aNil))) (eB F__law_shifted (aCons (eVar 2) (aCons (eC (.int 1)) (aNil))))) (eB F__law_shifted (aCons (eVar 3) (aCons (eOp opAdd (eC (.int 1)) (eVar 4)) (aNil))))) (eVar 2))) S.length [some (.loc n), some (.d (.int m)), some (.d (kD ns)), some (.d (kD ms)), some (.d (.int ns.length)), none, none, none, none, none, none, none, none, none] S4 = .nx [some (.loc n), some (.d (.int m)), some (.d (kD ns)), some (.d (kD ms)), some (.d (.int ns.length)), some (.d (kD tw)), none, none, none, none, none, none, none, none] S5 ∧ Mv n S S5 ∧ K2 m tw ∧ tw.length ≤ 31 ∧ ∀ nu w, Rch ns nu 0 w → Rch tw nu 0 w := by
    by_cases h0 : 0 < m
    · obtain ⟨f, S5, e5, mv5, hf⟩ := any_form_ok mv04.pl (m := m) h0 hm
      refine ⟨twin f ns ms, S5, ?_, mv04.trans mv5, twin_k2 hf K K1 hml, by rw [twin_len hml]; omega, fun nu w h => twin_rch h (h1 nu w h)⟩
      have s1 := fun S => shifted_ok (ns := ns) (by_ := 1) (by omega) (S := S)
      have s2 := fun S => shifted_ok (ns := ms) (by_ := 1 + ns.length) (by omega) (S := S)
      have kt : kD (twin f ns ms) = .tup (.tup [.str "cut", .tup (f.map D.int), .int 1, .int ((1 + ns.length : Nat) : Int)] :: ((ns.map (shN 1)).map nD ++ (ms.map (shN (1 + ns.length))).map nD)) := by
        unfold twin kD
        rw [List.map_append, List.map_cons]
        rfl
      have k1 : ((ns.map (shN 1)).map nD).length = ns.length := by simp
      have k2 : ((ms.map (shN (1 + ns.length))).map nD).length = ns.length := by simp [hml]
      rw [kt]
      unfold kD at s1 s2 ⊢
      generalize (ns.map (shN 1)).map nD = X1 at *
      generalize (ms.map (shN (1 + ns.length))).map nD = X2 at *
      generalize ns.map nD = Kd at *
      generalize ms.map nD = Md at *
      generalize f.map D.int = fi at *
      have q1 : 1 + X1.length ≤ 10000000 := by omega
      have q2 : 1 + X1.length + X2.length ≤ 10000000 := by omega
      have q3 : X1.length + 1 ≤ 10000000 := by omega
      have q4 : X1.length + 1 + X2.length ≤ 10000000 := by omega
      have s2 : ∀ S, F__law_shifted [.d (.tup Md), .d (.int (1 + (ns.length : Int)))] S = .ok (.d (.tup X2)) S := fun S => by
        have := s2 S
        rwa [show ((1 + ns.length : Nat) : Int) = 1 + (ns.length : Int) by omega] at this
      have s1 : ∀ S, F__law_shifted [.d (.tup Kd), .d (.int 1)] S = .ok (.d (.tup X1)) S := s1
      have hz : ((1 + ns.length : Nat) : Int) = 1 + (ns.length : Int) := by omega
      rw [hz]
      generalize (ns.length : Int) = z at *
      simp [h0, e5, s1, s2, q1, q2, q3, q4]
    · refine ⟨ns, S4, ?_, mv04, K, by omega, fun nu w h => h⟩
      generalize kD ns = Kd at *
      generalize kD ms = Md at *
      simp [h0]
  obtain ⟨tw, S5, a3, mv05, K3, htl, h3⟩ := tw_ok
  obtain ⟨σ6, S6, f6, mv6, d6, d7, d8, d9, d10, d11, d13, rfl⟩ := for_run (g := gN 6) (b := S.length) (f := (sSeq (sSet 7 (eB F__law_numbers (aCons (eVar 0) (aCons (eVar 2) (aCons (eVar 1) (aNil))))))
  (sSeq (sSet 8 (eB F__law_kink_at (aCons (eVar 2) (aCons (eVar 7) (aNil)))))
  (sSeq (sSet 9 (eIf (tBl (eOp (opEq false) (eB F__law_take (aCons (eVar 0) (aCons (eC (.int 2)) (aNil)))) (eC (.int 0)))) (eB F_kink_at (aCons (eVar 2) (aCons (eVar 1) (aCons (eVar 7) (aNil))))) (eCK F_kink_at 0 3 [2, 1, 0] aNil (aCons (eVar 7) (aCons (eVar 1) (aCons (eVar 2) (aNil)))))))
  (sSeq (sIf (tNot (tTru (eB (F__law_alike 8) (aCons (eTup (aCons (eVar 9) (aCons (eB F_kink_at (aCons (eVar 3) (aCons (eVar 1) (aCons (eVar 7) (aNil))))) (aCons (eB F_kink_at (aCons (eVar 5) (aCons (eVar 1) (aCons (eVar 7) (aNil))))) (aNil))))) (aCons (eOp opMulT (eTup (aCons (eVar 8) (aNil))) (eC (.int 3))) (aNil))))))
  (sRet (eC (.bl false)))
  (sNext))
  (sIf (tBl (eOp (opEq false) (eOp opIx (eOp opIx (eVar 2) (eC (.int 0))) (eC (.int 0))) (eC (.str "cut"))))
  (sSeq (sSet 10 (eOp opIx (eOp opIx (eVar 2) (eC (.int 0))) (eC (.int 1))))
  (sSeq (sSet 11 (eOp opAdd (eTup (aCons (eTup (aCons (eC (.str "cut")) (aCons (eB bTuple (aCons (eLc (iVal (eVar 10)) (gN 12) (tYs) (eOp opSub (eC (.int 0)) (eVar 12)) [12]) (aNil))) (aCons (eOp opIx (eOp opIx (eVar 2) (eC (.int 0))) (eC (.int 3))) (aCons (eOp opIx (eOp opIx (eVar 2) (eC (.int 0))) (eC (.int 2))) (aNil)))))) (aNil))) (eSl opSl (eVar 2) (oSome (eC (.int 1))) (oNone))))
  (sSeq (sSet 13 (eOp (opEq false) (eB F__law_line_at (aCons (eLc (iVal (eVar 10)) (gN 12) (tYs) (eTup (aCons (eVar 12) (aCons (eC (.int 1)) (aNil)))) [12]) (aCons (eVar 7) (aNil)))) (eTup (aCons (eC (.int 0)) (aCons (eC (.int 1)) (aNil))))))
  (sIf (tOr (tBl (eOp (opIs true) (eB F_is_kink (aCons (eVar 11) (aCons (eVar 1) (aNil)))) (eC (.bl true)))) (tOr (tBl (eOp (opEq true) (eB F_kink_at (aCons (eVar 11) (aCons (eVar 1) (aCons (eVar 7) (aNil))))) (eB F__law_kink_at (aCons (eVar 11) (aCons (eVar 7) (aNil)))))) (tAnd (tNot (tTru (eVar 13))) (tBl (eOp (opEq true) (eB F__law_kink_at (aCons (eVar 11) (aCons (eVar 7) (aNil)))) (eVar 8))))))
  (sRet (eC (.bl false)))
  (sNext)))))
  (sNext))))))) (fun ds σ S' => Mv n S S' ∧ ∃ d6 d7 d8 d9 d10 d11 d13 : Option Wt, σ = ([some (.loc n), some (.d (.int m)), some (.d (kD ns)), some (.d (kD ms)), some (.d (.int ns.length)), some (.d (kD tw)), d6, d7, d8, d9, d10, d11, none, d13] : Ev))
    (rng 0 8) [some (.loc n), some (.d (.int m)), some (.d (kD ns)), some (.d (kD ms)), some (.d (.int ns.length)), some (.d (kD tw)), none, none, none, none, none, none, none, none] S5 ⟨mv05, none, none, none, none, none, none, none, rfl⟩ (by
      rintro d ds σ S' ⟨mv, d6, d7, d8, d9, d10, d11, d13, rfl⟩
      obtain ⟨S2, g7, g8, g9, g10, g11, g13, t, mv2⟩ := lap_ok (b0 := S.length) mv K K1 K3 hm (by omega) (by omega) (by omega) h1 h3 (d := d) (d7 := d7) (d8 := d8) (d9 := d9) (d10 := d10) (d11 := d11) (d13 := d13)
      exact ⟨([some (.loc n), some (.d (.int m)), some (.d (kD ns)), some (.d (kD ms)), some (.d (.int ns.length)), some (.d (kD tw)), some (.d d), d7, d8, d9, d10, d11, none, d13] : Ev), S', _, S2, rfl, t, mv2, some (.d d), g7, g8, g9, g10, g11, g13, rfl⟩)
  have a4 : (sFor (iRng1 (aCons (eC (.int 8)) (aNil))) (gN 6)
  (sSeq (sSet 7 (eB F__law_numbers (aCons (eVar 0) (aCons (eVar 2) (aCons (eVar 1) (aNil))))))
  (sSeq (sSet 8 (eB F__law_kink_at (aCons (eVar 2) (aCons (eVar 7) (aNil)))))
  (sSeq (sSet 9 (eIf (tBl (eOp (opEq false) (eB F__law_take (aCons (eVar 0) (aCons (eC (.int 2)) (aNil)))) (eC (.int 0)))) (eB F_kink_at (aCons (eVar 2) (aCons (eVar 1) (aCons (eVar 7) (aNil))))) (eCK F_kink_at 0 3 [2, 1, 0] aNil (aCons (eVar 7) (aCons (eVar 1) (aCons (eVar 2) (aNil)))))))
  (sSeq (sIf (tNot (tTru (eB (F__law_alike 8) (aCons (eTup (aCons (eVar 9) (aCons (eB F_kink_at (aCons (eVar 3) (aCons (eVar 1) (aCons (eVar 7) (aNil))))) (aCons (eB F_kink_at (aCons (eVar 5) (aCons (eVar 1) (aCons (eVar 7) (aNil))))) (aNil))))) (aCons (eOp opMulT (eTup (aCons (eVar 8) (aNil))) (eC (.int 3))) (aNil))))))
  (sRet (eC (.bl false)))
  (sNext))
  (sIf (tBl (eOp (opEq false) (eOp opIx (eOp opIx (eVar 2) (eC (.int 0))) (eC (.int 0))) (eC (.str "cut"))))
  (sSeq (sSet 10 (eOp opIx (eOp opIx (eVar 2) (eC (.int 0))) (eC (.int 1))))
  (sSeq (sSet 11 (eOp opAdd (eTup (aCons (eTup (aCons (eC (.str "cut")) (aCons (eB bTuple (aCons (eLc (iVal (eVar 10)) (gN 12) (tYs) (eOp opSub (eC (.int 0)) (eVar 12)) [12]) (aNil))) (aCons (eOp opIx (eOp opIx (eVar 2) (eC (.int 0))) (eC (.int 3))) (aCons (eOp opIx (eOp opIx (eVar 2) (eC (.int 0))) (eC (.int 2))) (aNil)))))) (aNil))) (eSl opSl (eVar 2) (oSome (eC (.int 1))) (oNone))))
  (sSeq (sSet 13 (eOp (opEq false) (eB F__law_line_at (aCons (eLc (iVal (eVar 10)) (gN 12) (tYs) (eTup (aCons (eVar 12) (aCons (eC (.int 1)) (aNil)))) [12]) (aCons (eVar 7) (aNil)))) (eTup (aCons (eC (.int 0)) (aCons (eC (.int 1)) (aNil))))))
  (sIf (tOr (tBl (eOp (opIs true) (eB F_is_kink (aCons (eVar 11) (aCons (eVar 1) (aNil)))) (eC (.bl true)))) (tOr (tBl (eOp (opEq true) (eB F_kink_at (aCons (eVar 11) (aCons (eVar 1) (aCons (eVar 7) (aNil))))) (eB F__law_kink_at (aCons (eVar 11) (aCons (eVar 7) (aNil)))))) (tAnd (tNot (tTru (eVar 13))) (tBl (eOp (opEq true) (eB F__law_kink_at (aCons (eVar 11) (aCons (eVar 7) (aNil)))) (eVar 8))))))
  (sRet (eC (.bl false)))
  (sNext)))))
  (sNext))))))) S.length [some (.loc n), some (.d (.int m)), some (.d (kD ns)), some (.d (kD ms)), some (.d (.int ns.length)), some (.d (kD tw)), none, none, none, none, none, none, none, none] S5 = .nx ([some (.loc n), some (.d (.int m)), some (.d (kD ns)), some (.d (kD ms)), some (.d (.int ns.length)), some (.d (kD tw)), d6, d7, d8, d9, d10, d11, none, d13] : Ev) S6 := by
    rw [sFor_ap]
    have iv : (iRng1 (aCons (eC (.int 8)) (aNil))) [some (.loc n), some (.d (.int m)), some (.d (kD ns)), some (.d (kD ms)), some (.d (.int ns.length)), some (.d (kD tw)), none, none, none, none, none, none, none, none] S5 = .ok (rng 0 8) S5 := by
      have := rg1_nat (S := S5) (j := 8) (by omega)
      generalize kD ns = Kd at *
      generalize kD ms = Md at *
      generalize kD tw = Td at *
      simpa using this
    rw [iv, ok_toS]
    exact f6
  have i1 := fun S => isk_ok K1 hm (by omega) (S := S)
  have i3 := fun S => isk_ok K3 hm (by omega) (S := S)
  have a5 : (sRet (eAnd (eOp (opIs false) (eB F_is_kink (aCons (eVar 3) (aCons (eVar 1) (aNil)))) (eC (.bl true))) (eOp (opIs false) (eB F_is_kink (aCons (eVar 5) (aCons (eVar 1) (aNil)))) (eC (.bl true))))) S.length ([some (.loc n), some (.d (.int m)), some (.d (kD ns)), some (.d (kD ms)), some (.d (.int ns.length)), some (.d (kD tw)), d6, d7, d8, d9, d10, d11, none, d13] : Ev) S6 = .rt (.d (.bl true)) S6 := by
    generalize kD ns = Kd at *
    generalize kD ms = Md at *
    generalize kD tw = Td at *
    simp [i1, i3]
  have tk := take_mv mv6
  refine ⟨S6, ?_, mv6⟩
  unfold F__law_right b__law_right
  rw [mkFn_eq]
  refine (if_pos (by rfl)).trans ?_
  show finish S.length (sSeq _ _ S.length [some (.loc n), none, none, none, none, none, none, none, none, none, none, none, none, none] S) = _
  simp only [sSeq_ap, a0, a1, a2, a3, a4, a5, fin_d, tk]
end K15
end
section
namespace K15
open PySem PySem.Spec PyProof.Rows L2 Y
/-! the fold that is told in the law -/
def fold : List Nd := [.cut [1, -1] 1 2, .ln [(0, 1), (3, 1)], .ln [(2, 1), (1, 1)]]
theorem fold_k2 : K2 1 fold := by
  refine ⟨by simp [fold], fun i x q => ?_, ?_⟩
  · match i, q with
    | 0, q =>
      cases q
      exact ⟨⟨rfl, ⟨1, by simp, by decide⟩, by decide +kernel, fun x hx => by
        simp only [List.mem_cons, List.not_mem_nil, or_false] at hx
        rcases hx with rfl | rfl <;> decide⟩, by decide, by decide, by decide, by decide⟩
    | 1, q =>
      cases q
      exact ⟨rfl, fun p hp => by
        simp only [List.mem_cons, List.not_mem_nil, or_false] at hp
        rcases hp with rfl | rfl <;> rfl⟩
    | 2, q =>
      cases q
      exact ⟨rfl, fun p hp => by
        simp only [List.mem_cons, List.not_mem_nil, or_false] at hp
        rcases hp with rfl | rfl <;> rfl⟩
    | i + 3, q => simp [fold] at q
  · exact .refl _
def half : List Nd := [.ln [(1, 2)]]
theorem half_k2 : K2 0 half := by
  refine ⟨by simp [half], fun i x q => ?_, ?_⟩
  · match i, q with
    | 0, q =>
      cases q
      exact ⟨rfl, fun p hp => by
        simp only [List.mem_cons, List.not_mem_nil, or_false] at hp
        subst hp
        rfl⟩
    | i + 1, q => simp [half] at q
  · exact .refl _
theorem nu_one (z : Int) (h : z = 1 ∨ z = 2) : NuOk 76 174 1 [(z, 1)] := by
  refine ⟨rfl, fun p hp => ?_, fun p hp => ?_, by decide, by decide, by decide⟩
  · simp only [List.mem_cons, List.not_mem_nil, or_false] at hp
    subst hp
    rcases h with rfl | rfl <;> exact ⟨by decide, by decide, by decide⟩
  · simp only [List.mem_cons, List.not_mem_nil, or_false] at hp
    subst hp
    rcases h with rfl | rfl <;> rfl
theorem nu_none : NuOk 76 174 0 [] := ⟨rfl, fun p hp => (nomatch hp), fun p hp => (nomatch hp), by decide, by decide, by decide⟩
theorem fold_1 : Rch fold [(1, 1)] 0 (3, 1) := by
  have e1 : lineF (([1, -1] : List Int).map wfF) [(1, 1)] = (0, 1) := by decide +kernel
  have e2 : lineF [(0, 1), (3, 1)] [(1, 1)] = (3, 1) := by decide +kernel
  have r : Rch fold [(1, 1)] 1 (3, 1) := by rw [← e2]; exact .ln rfl
  exact .lo rfl (by rw [e1]; decide) r
theorem fold_2 : Rch fold [(2, 1)] 0 (5, 1) := by
  have e1 : lineF (([1, -1] : List Int).map wfF) [(2, 1)] = (1, 1) := by decide +kernel
  have e2 : lineF [(2, 1), (1, 1)] [(2, 1)] = (5, 1) := by decide +kernel
  have r : Rch fold [(2, 1)] 2 (5, 1) := by rw [← e2]; exact .ln rfl
  exact .hi rfl (by rw [e1]; decide) r
theorem half_1 : Rch half [] 0 (1, 2) := by
  have e2 : lineF [(1, 2)] [] = (1, 2) := by decide +kernel
  rw [← e2]
  exact .ln rfl
end K15
end
section
namespace K15
open PySem PySem.Spec PyProof.Rows L2 Y
theorem law_ok (ns : List Int) (hn : ns.length ≤ 63) (hb : ∀ z ∈ ns, Builtin.Int.intBits z ≤ 1048576) : ∃ S, F_law [scr ns] [] = .ok (.d (.bl true)) S := by
  obtain ⟨σ', S', h1, d, rfl, _⟩ := for_run (g := gN 1) (b := 0) (f := (sIf (tNot (tTru (eB F__law_right (aCons (eB F__law_pool (aCons (eVar 0) (aCons (eVar 1) (aNil)))) (aNil)))))
  (sRet (eC (.bl false)))
  (sNext))) (fun ds σ S => ∃ d : Option Wt, σ = [some (scr ns), d, none] ∧ ∀ x ∈ ds, ∃ i : Nat, i < 100 ∧ x = .int (i : Int))
    (rng 0 (if (if ((ns.length : Nat) : Int) > 6 then ((ns.length : Nat) : Int) else 6) < 20 then (if ((ns.length : Nat) : Int) > 6 then ((ns.length : Nat) : Int) else 6) else 20).toNat) [some (scr ns), none, none] [] ⟨none, rfl, fun x hx => by
      obtain ⟨i, hi, rfl⟩ := rng_mem hx
      exact ⟨i, by split at hi <;> split at hi <;> omega, by simp⟩⟩ (by
      rintro x ds σ S ⟨d, rfl, hx⟩
      obtain ⟨i, hi, rfl⟩ := hx x (List.mem_cons_self ..)
      obtain ⟨a, b, p, e1⟩ := pool_ok hb hn i (by omega) S
      obtain ⟨S2, e2, mv⟩ := right_ok (n := S.length) (S := S ++ [.lst [.int a, .int b]]) ⟨a, b, by simp, p⟩
      exact ⟨_, _, [some (scr ns), some (.d (.int i)), none], S2, rfl, by simp [e1, e2], some (.d (.int i)), rfl, fun y hy => hx y (List.mem_cons_of_mem _ hy)⟩)
  have g1 := rg1_int (S := []) (j := (if (if ((ns.length : Nat) : Int) > 6 then ((ns.length : Nat) : Int) else 6) < 20 then (if ((ns.length : Nat) : Int) > 6 then ((ns.length : Nat) : Int) else 6) else 20)) (by split <;> split <;> omega) (by split <;> split <;> omega)
  refine ⟨S'.take 0, ?_⟩
  have e0 : bLen [scr ns] [] = .ok (.d (.int ns.length)) [] := by simp [scr]
  have k1 : ∀ S, F_kink_at [.d (.tup [.tup [.str "cut", .tup [.int 1, .int (-1)], .int 1, .int 2], .tup [.str "line", .tup [.tup [.int 0, .int 1], .tup [.int 3, .int 1]]], .tup [.str "line", .tup [.tup [.int 2, .int 1], .tup [.int 1, .int 1]]]]), .d (.int 1), .d (.tup [.tup [.int 1, .int 1]])] S = .ok (.d (.tup [.int 3, .int 1])) S := fun S => kat_ok fold_k2 (by decide) (nu_one 1 (.inl rfl)) fold_1 (S := S)
  have k2 : ∀ S, F_kink_at [.d (.tup [.tup [.str "cut", .tup [.int 1, .int (-1)], .int 1, .int 2], .tup [.str "line", .tup [.tup [.int 0, .int 1], .tup [.int 3, .int 1]]], .tup [.str "line", .tup [.tup [.int 2, .int 1], .tup [.int 1, .int 1]]]]), .d (.int 1), .d (.tup [.tup [.int 2, .int 1]])] S = .ok (.d (.tup [.int 5, .int 1])) S := fun S => kat_ok fold_k2 (by decide) (nu_one 2 (.inr rfl)) fold_2 (S := S)
  have k3 : ∀ S, F_kink_at [.d (.tup [.tup [.str "line", .tup [.tup [.int 1, .int 2]]]]), .d (.int 0), .d (.tup [])] S = .ok (.d (.tup [.int 1, .int 2])) S := fun S => kat_ok half_k2 (by decide) nu_none half_1 (S := S)
  have eq : ∀ S, opEq false (.d (.lst [.tup [.int 3, .int 1], .tup [.int 5, .int 1], .tup [.int 1, .int 2]])) (.d (.lst [.tup [.int 3, .int 1], .tup [.int 5, .int 1], .tup [.int 1, .int 2]])) S = .ok (.d (.bl true)) S := fun S => eq_of (by decide +kernel) (by decide +kernel)
  unfold F_law b_law
  simp only [mkFn_eq]
  simp [e0, g1, h1, k1, k2, k3, eq]
end K15
end
section
set_option maxHeartbeats 0
namespace K15
open PySem PySem.Spec PyProof.Rows L2 Y
def top (i : Nat) : Stmt := PySem.Challenge.pw_openduels_k15_main_whole_worths_of_kinks.main.body.getD i (.Pass ⟨0, 0, 0, 0⟩)
def mth (i j : Nat) : Stmt := (clsBody (top i)).getD j (.Pass ⟨0, 0, 0, 0⟩)
/-- the facts of the heap behind the top -/
structure Tb (P : Program) (w : World) (K : PySem.W.Frag) (mg : Str → Option Value) : Prop where
  f_is_whole : ∃ f fd, FunD K "is_whole" "is_whole" (defArgs (top 7)) (defBody (top 7)) (defScope (top 7)) [] [] f fd ∧ mg "is_whole" = some (.ref f)
  f_is_between : ∃ f fd, FunD K "is_between" "is_between" (defArgs (top 8)) (defBody (top 8)) (defScope (top 8)) [] [] f fd ∧ mg "is_between" = some (.ref f)
  f_is_tuple_of : ∃ f fd, FunD K "is_tuple_of" "is_tuple_of" (defArgs (top 9)) (defBody (top 9)) (defScope (top 9)) [] [] f fd ∧ mg "is_tuple_of" = some (.ref f)
  f_fraction : ∃ f fd, FunD K "fraction" "fraction" (defArgs (top 10)) (defBody (top 10)) (defScope (top 10)) [] [] f fd ∧ mg "fraction" = some (.ref f)
  f_is_fraction_by : ∃ f fd, FunD K "is_fraction_by" "is_fraction_by" (defArgs (top 11)) (defBody (top 11)) (defScope (top 11)) [] [] f fd ∧ mg "is_fraction_by" = some (.ref f)
  f_whole : ∃ f fd, FunD K "whole" "whole" (defArgs (top 12)) (defBody (top 12)) (defScope (top 12)) [] [] f fd ∧ mg "whole" = some (.ref f)
  f_sum_of : ∃ f fd, FunD K "sum_of" "sum_of" (defArgs (top 13)) (defBody (top 13)) (defScope (top 13)) [] [] f fd ∧ mg "sum_of" = some (.ref f)
  f_times : ∃ f fd, FunD K "times" "times" (defArgs (top 14)) (defBody (top 14)) (defScope (top 14)) [] [] f fd ∧ mg "times" = some (.ref f)
  f_worth_of : ∃ f fd, FunD K "worth_of" "worth_of" (defArgs (top 17)) (defBody (top 17)) (defScope (top 17)) [] [] f fd ∧ mg "worth_of" = some (.ref f)
  f_is_constant : ∃ f fd, FunD K "is_constant" "is_constant" (defArgs (top 18)) (defBody (top 18)) (defScope (top 18)) [] [] f fd ∧ mg "is_constant" = some (.ref f)
  f_common_of : ∃ f fd, FunD K "common_of" "common_of" (defArgs (top 19)) (defBody (top 19)) (defScope (top 19)) [] [] f fd ∧ mg "common_of" = some (.ref f)
  f_line_of_form : ∃ f fd, FunD K "line_of_form" "line_of_form" (defArgs (top 20)) (defBody (top 20)) (defScope (top 20)) [] [] f fd ∧ mg "line_of_form" = some (.ref f)
  f_form_at : ∃ f fd, FunD K "form_at" "form_at" (defArgs (top 21)) (defBody (top 21)) (defScope (top 21)) [] [] f fd ∧ mg "form_at" = some (.ref f)
  f_is_line : ∃ f fd, FunD K "is_line" "is_line" (defArgs (top 26)) (defBody (top 26)) (defScope (top 26)) [] [] f fd ∧ mg "is_line" = some (.ref f)
  f_is_form : ∃ f fd, FunD K "is_form" "is_form" (defArgs (top 27)) (defBody (top 27)) (defScope (top 27)) [] [] f fd ∧ mg "is_form" = some (.ref f)
  f_is_node : ∃ f fd, FunD K "is_node" "is_node" (defArgs (top 28)) (defBody (top 28)) (defScope (top 28)) [] [] f fd ∧ mg "is_node" = some (.ref f)
  f_ways_told : ∃ f fd, FunD K "ways_told" "ways_told" (defArgs (top 29)) (defBody (top 29)) (defScope (top 29)) [] [] f fd ∧ mg "ways_told" = some (.ref f)
  f_is_kink_by : ∃ f fd, FunD K "is_kink_by" "is_kink_by" (defArgs (top 30)) (defBody (top 30)) (defScope (top 30)) [] [] f fd ∧ mg "is_kink_by" = some (.ref f)
  f_line_at : ∃ f fd, FunD K "line_at" "line_at" (defArgs (top 31)) (defBody (top 31)) (defScope (top 31)) [] [] f fd ∧ mg "line_at" = some (.ref f)
  f_kink_worth : ∃ f fd, FunD K "kink_worth" "kink_worth" (defArgs (top 32)) (defBody (top 32)) (defScope (top 32)) [] [] f fd ∧ mg "kink_worth" = some (.ref f)
  f_check_many : ∃ f fd, FunD K "check_many" "check_many" (defArgs (top 35)) (defBody (top 35)) (defScope (top 35)) [] [] f fd ∧ mg "check_many" = some (.ref f)
  f_check_kink : ∃ f fd, FunD K "check_kink" "check_kink" (defArgs (top 36)) (defBody (top 36)) (defScope (top 36)) [] [] f fd ∧ mg "check_kink" = some (.ref f)
  f_is_kink : ∃ f fd, FunD K "is_kink" "is_kink" (defArgs (top 37)) (defBody (top 37)) (defScope (top 37)) [] [] f fd ∧ mg "is_kink" = some (.ref f)
  f_kink_at : ∃ f fd, FunD K "kink_at" "kink_at" (defArgs (top 38)) (defBody (top 38)) (defScope (top 38)) [] [] f fd ∧ mg "kink_at" = some (.ref f)
  f__law_pool : ∃ f fd, FunD K "_law_pool" "_law_pool" (defArgs (top 40)) (defBody (top 40)) (defScope (top 40)) [] [] f fd ∧ mg "_law_pool" = some (.ref f)
  f__law_take : ∃ f fd, FunD K "_law_take" "_law_take" (defArgs (top 41)) (defBody (top 41)) (defScope (top 41)) [] [] f fd ∧ mg "_law_take" = some (.ref f)
  f__law_alike : ∃ f fd, FunD K "_law_alike" "_law_alike" (defArgs (top 42)) (defBody (top 42)) (defScope (top 42)) [] [] f fd ∧ mg "_law_alike" = some (.ref f)
  f__law_one : ∃ f fd, FunD K "_law_one" "_law_one" (defArgs (top 43)) (defBody (top 43)) (defScope (top 43)) [] [] f fd ∧ mg "_law_one" = some (.ref f)
  f__law_ratio : ∃ f fd, FunD K "_law_ratio" "_law_ratio" (defArgs (top 44)) (defBody (top 44)) (defScope (top 44)) [] [] f fd ∧ mg "_law_ratio" = some (.ref f)
  f__law_plus : ∃ f fd, FunD K "_law_plus" "_law_plus" (defArgs (top 45)) (defBody (top 45)) (defScope (top 45)) [] [] f fd ∧ mg "_law_plus" = some (.ref f)
  f__law_times : ∃ f fd, FunD K "_law_times" "_law_times" (defArgs (top 46)) (defBody (top 46)) (defScope (top 46)) [] [] f fd ∧ mg "_law_times" = some (.ref f)
  f__law_common : ∃ f fd, FunD K "_law_common" "_law_common" (defArgs (top 47)) (defBody (top 47)) (defScope (top 47)) [] [] f fd ∧ mg "_law_common" = some (.ref f)
  f__law_any_form : ∃ f fd, FunD K "_law_any_form" "_law_any_form" (defArgs (top 48)) (defBody (top 48)) (defScope (top 48)) [] [] f fd ∧ mg "_law_any_form" = some (.ref f)
  f__law_any_kink : ∃ f fd, FunD K "_law_any_kink" "_law_any_kink" (defArgs (top 49)) (defBody (top 49)) (defScope (top 49)) [] [] f fd ∧ mg "_law_any_kink" = some (.ref f)
  f__law_line_at : ∃ f fd, FunD K "_law_line_at" "_law_line_at" (defArgs (top 50)) (defBody (top 50)) (defScope (top 50)) [] [] f fd ∧ mg "_law_line_at" = some (.ref f)
  f__law_kink_at : ∃ f fd, FunD K "_law_kink_at" "_law_kink_at" (defArgs (top 51)) (defBody (top 51)) (defScope (top 51)) [] [] f fd ∧ mg "_law_kink_at" = some (.ref f)
  f__law_numbers : ∃ f fd, FunD K "_law_numbers" "_law_numbers" (defArgs (top 52)) (defBody (top 52)) (defScope (top 52)) [] [] f fd ∧ mg "_law_numbers" = some (.ref f)
  f__law_reordered : ∃ f fd, FunD K "_law_reordered" "_law_reordered" (defArgs (top 53)) (defBody (top 53)) (defScope (top 53)) [] [] f fd ∧ mg "_law_reordered" = some (.ref f)
  f__law_shifted : ∃ f fd, FunD K "_law_shifted" "_law_shifted" (defArgs (top 54)) (defBody (top 54)) (defScope (top 54)) [] [] f fd ∧ mg "_law_shifted" = some (.ref f)
  f__law_right : ∃ f fd, FunD K "_law_right" "_law_right" (defArgs (top 55)) (defBody (top 55)) (defScope (top 55)) [] [] f fd ∧ mg "_law_right" = some (.ref f)
  f_law : ∃ f fd, FunD K "law" "law" (defArgs (top 56)) (defBody (top 56)) (defScope (top 56)) [] [] f fd ∧ mg "law" = some (.ref f)
  m_abs : mg "abs" = none
  m_all : mg "all" = none
  m_bool : mg "bool" = none
  m_dict : mg "dict" = none
  m_enumerate : mg "enumerate" = none
  m_gcd : mg "gcd" = some (.builtin "math.gcd")
  m_int : mg "int" = none
  m_isinstance : mg "isinstance" = none
  m_len : mg "len" = none
  m_list : mg "list" = none
  m_max : mg "max" = none
  m_min : mg "min" = none
  m_range : mg "range" = none
  m_sorted : mg "sorted" = none
  m_str : mg "str" = none
  m_tuple : mg "tuple" = none
  m_zip : mg "zip" = none
  k_CUT : ∃ u v, mg "CUT" = some u ∧ RelV v u ∧ ∀ lv H, RP K lv H K_CUT v
  k_LINE : ∃ u v, mg "LINE" = some u ∧ RelV v u ∧ ∀ lv H, RP K lv H K_LINE v
  k_MOST_NODES : ∃ u v, mg "MOST_NODES" = some u ∧ RelV v u ∧ ∀ lv H, RP K lv H K_MOST_NODES v
  k_MOST_NUMBERS : ∃ u v, mg "MOST_NUMBERS" = some u ∧ RelV v u ∧ ∀ lv H, RP K lv H K_MOST_NUMBERS v
  k_NOUGHT : ∃ u v, mg "NOUGHT" = some u ∧ RelV v u ∧ ∀ lv H, RP K lv H K_NOUGHT v
theorem Tb.kon {K : PySem.W.Frag} {mg : Str → Option Value} {x : Str} {d : D} (h : ∃ u v, mg x = some u ∧ RelV v u ∧ ∀ lv H, RP K lv H d v) {X : Cx} (e1 : X.mg = mg := by rfl) (e2 : X.K = K := by rfl) : Kon X x d := by
  subst e1 e2
  exact ⟨h⟩
section
variable {P : Program} {w : World} {K : PySem.W.Frag} {mg : Str → Option Value} {base : Heap}
abbrev N_is_whole : List Str := ["value"]
theorem nd_is_whole : (N_is_whole).Nodup := by decide +kernel
theorem sc_is_whole : FnScope N_is_whole ["value"] (defScope (top 7)) := ⟨rfl, rfl, rfl, by decide +kernel, rfl, by decide +kernel, by decide +kernel⟩
theorem db_is_whole (T : Tb P w K mg) (hx : Hx) (cdv : Value) (A : Around) (outer : List Env) (s : Shared) (H : Hp) (E : XK) (f : Addr) (hr : Room 0 (A.deeper (envOfC "is_whole" (defScope (top 7)) s.heap.objs.size f cdv))) : DB (cxF P w K mg base N_is_whole "is_whole" (defScope (top 7)) f cdv A outer s H E) hx (defBody (top 7)) b_is_whole := by
  have hu : (A.deeper (envOfC "is_whole" (defScope (top 7)) s.heap.objs.size f cdv)).units + 65 < cLine := by have := hr.un; omega
  have hu64 : (A.deeper (envOfC "is_whole" (defScope (top 7)) s.heap.objs.size f cdv)).units + 64 < cLine := by have := hr.un; omega
  exact db_one (ds_ret (d_and (d_callB cal_isi T.m_isinstance (da_cons (d_var 0) (da_cons (d_ty T.m_int) (da_nil)))) (d_one (d_not (d_callB cal_isi T.m_isinstance (da_cons (d_var 0) (da_cons (d_ty T.m_bool) (da_nil))))))))
theorem fo_is_whole (T : Tb P w K mg) {f : Addr} {fd : FuncData} (F : FunD K "is_whole" "is_whole" (defArgs (top 7)) (defBody (top 7)) (defScope (top 7)) [] [] f fd) : FnOk P w K mg base (L2.CX P w) 1 f fd ["value"] (spOf K F_is_whole) :=
  fn_ok F sc_is_whole fun hx cdv A outer s H E hr => db_is_whole T hx cdv A outer s H E f hr
theorem ok_is_whole (T : Tb P w K mg) : Fn P w K mg base "is_whole" 1 ["value"] F_is_whole := by
  obtain ⟨f, fd, F, hm⟩ := T.f_is_whole
  exact ⟨f, fd, hm, F.kp, F.bindsN fun _ _ _ _ _ _ us hl => match us, hl with | [_], _ => rfl, fo_is_whole T F⟩
abbrev N_is_between : List Str := ["value", "low", "high"]
theorem nd_is_between : (N_is_between).Nodup := by decide +kernel
theorem sc_is_between : FnScope N_is_between ["value", "low", "high"] (defScope (top 8)) := ⟨rfl, rfl, rfl, by decide +kernel, rfl, by decide +kernel, by decide +kernel⟩
theorem db_is_between (T : Tb P w K mg) (hx : Hx) (cdv : Value) (A : Around) (outer : List Env) (s : Shared) (H : Hp) (E : XK) (f : Addr) (hr : Room 1 (A.deeper (envOfC "is_between" (defScope (top 8)) s.heap.objs.size f cdv))) : DB (cxF P w K mg base N_is_between "is_between" (defScope (top 8)) f cdv A outer s H E) hx (defBody (top 8)) b_is_between := by
  have hu : (A.deeper (envOfC "is_between" (defScope (top 8)) s.heap.objs.size f cdv)).units + 65 < cLine := by have := hr.un; omega
  have hu64 : (A.deeper (envOfC "is_between" (defScope (top 8)) s.heap.objs.size f cdv)).units + 64 < cLine := by have := hr.un; omega
  exact db_one (ds_ret (d_and (d_call ((ok_is_whole T).mono (by omega)) hr (da_cons (d_var 0) (da_nil))) (d_one (d_chain od_le od_le (d_var 1) (d_var 0) (d_var 2)))))
theorem fo_is_between (T : Tb P w K mg) {f : Addr} {fd : FuncData} (F : FunD K "is_between" "is_between" (defArgs (top 8)) (defBody (top 8)) (defScope (top 8)) [] [] f fd) : FnOk P w K mg base (L2.CX P w) 2 f fd ["value", "low", "high"] (spOf K F_is_between) :=
  fn_ok F sc_is_between fun hx cdv A outer s H E hr => db_is_between T hx cdv A outer s H E f hr
theorem ok_is_between (T : Tb P w K mg) : Fn P w K mg base "is_between" 2 ["value", "low", "high"] F_is_between := by
  obtain ⟨f, fd, F, hm⟩ := T.f_is_between
  exact ⟨f, fd, hm, F.kp, F.bindsN fun _ _ _ _ _ _ us hl => match us, hl with | [_, _, _], _ => rfl, fo_is_between T F⟩
abbrev N_is_tuple_of : List Str := ["value", "many"]
theorem nd_is_tuple_of : (N_is_tuple_of).Nodup := by decide +kernel
theorem sc_is_tuple_of : FnScope N_is_tuple_of ["value", "many"] (defScope (top 9)) := ⟨rfl, rfl, rfl, by decide +kernel, rfl, by decide +kernel, by decide +kernel⟩
theorem db_is_tuple_of (T : Tb P w K mg) (hx : Hx) (cdv : Value) (A : Around) (outer : List Env) (s : Shared) (H : Hp) (E : XK) (f : Addr) (hr : Room 0 (A.deeper (envOfC "is_tuple_of" (defScope (top 9)) s.heap.objs.size f cdv))) : DB (cxF P w K mg base N_is_tuple_of "is_tuple_of" (defScope (top 9)) f cdv A outer s H E) hx (defBody (top 9)) b_is_tuple_of := by
  have hu : (A.deeper (envOfC "is_tuple_of" (defScope (top 9)) s.heap.objs.size f cdv)).units + 65 < cLine := by have := hr.un; omega
  have hu64 : (A.deeper (envOfC "is_tuple_of" (defScope (top 9)) s.heap.objs.size f cdv)).units + 64 < cLine := by have := hr.un; omega
  exact db_one (ds_ret (d_and (d_callB cal_isi T.m_isinstance (da_cons (d_var 0) (da_cons (d_ty T.m_tuple) (da_nil)))) (d_one (d_cmp (od_eq hu64) (d_callB cal_len T.m_len (da_cons (d_var 0) (da_nil))) (d_var 1)))))
theorem fo_is_tuple_of (T : Tb P w K mg) {f : Addr} {fd : FuncData} (F : FunD K "is_tuple_of" "is_tuple_of" (defArgs (top 9)) (defBody (top 9)) (defScope (top 9)) [] [] f fd) : FnOk P w K mg base (L2.CX P w) 1 f fd ["value", "many"] (spOf K F_is_tuple_of) :=
  fn_ok F sc_is_tuple_of fun hx cdv A outer s H E hr => db_is_tuple_of T hx cdv A outer s H E f hr
theorem ok_is_tuple_of (T : Tb P w K mg) : Fn P w K mg base "is_tuple_of" 1 ["value", "many"] F_is_tuple_of := by
  obtain ⟨f, fd, F, hm⟩ := T.f_is_tuple_of
  exact ⟨f, fd, hm, F.kp, F.bindsN fun _ _ _ _ _ _ us hl => match us, hl with | [_, _], _ => rfl, fo_is_tuple_of T F⟩
abbrev N_fraction : List Str := ["number", "under", "part"]
theorem nd_fraction : (N_fraction).Nodup := by decide +kernel
theorem sc_fraction : FnScope N_fraction ["number", "under"] (defScope (top 10)) := ⟨rfl, rfl, rfl, by decide +kernel, rfl, by decide +kernel, by decide +kernel⟩
theorem db_fraction (T : Tb P w K mg) (hx : Hx) (cdv : Value) (A : Around) (outer : List Env) (s : Shared) (H : Hp) (E : XK) (f : Addr) (hr : Room 0 (A.deeper (envOfC "fraction" (defScope (top 10)) s.heap.objs.size f cdv))) : DB (cxF P w K mg base N_fraction "fraction" (defScope (top 10)) f cdv A outer s H E) hx (defBody (top 10)) b_fraction := by
  have hu : (A.deeper (envOfC "fraction" (defScope (top 10)) s.heap.objs.size f cdv)).units + 65 < cLine := by have := hr.un; omega
  have hu64 : (A.deeper (envOfC "fraction" (defScope (top 10)) s.heap.objs.size f cdv)).units + 64 < cLine := by have := hr.un; omega
  exact db_cons (ds_set nd_fraction (d_bin od_mulT (d_callG cal_gcd T.m_gcd (da_cons (d_var 0) (da_cons (d_var 1) (da_nil)))) (d_if (dt_cmp od_gt (d_var 1) (d_int)) (d_int) (d_neg (d_int)))))
      (db_one (ds_ret (d_tup (da_cons (d_bin od_fdiv (d_var 0) (d_var 2)) (da_cons (d_bin od_fdiv (d_var 1) (d_var 2)) (da_nil))))))
theorem fo_fraction (T : Tb P w K mg) {f : Addr} {fd : FuncData} (F : FunD K "fraction" "fraction" (defArgs (top 10)) (defBody (top 10)) (defScope (top 10)) [] [] f fd) : FnOk P w K mg base (L2.CX P w) 1 f fd ["number", "under"] (spOf K F_fraction) :=
  fn_ok F sc_fraction fun hx cdv A outer s H E hr => db_fraction T hx cdv A outer s H E f hr
theorem ok_fraction (T : Tb P w K mg) : Fn P w K mg base "fraction" 1 ["number", "under"] F_fraction := by
  obtain ⟨f, fd, F, hm⟩ := T.f_fraction
  exact ⟨f, fd, hm, F.kp, F.bindsN fun _ _ _ _ _ _ us hl => match us, hl with | [_, _], _ => rfl, fo_fraction T F⟩
abbrev N_is_fraction_by : List Str := ["value"]
theorem nd_is_fraction_by : (N_is_fraction_by).Nodup := by decide +kernel
theorem sc_is_fraction_by : FnScope N_is_fraction_by ["value"] (defScope (top 11)) := ⟨rfl, rfl, rfl, by decide +kernel, rfl, by decide +kernel, by decide +kernel⟩
theorem db_is_fraction_by (T : Tb P w K mg) (hx : Hx) (cdv : Value) (A : Around) (outer : List Env) (s : Shared) (H : Hp) (E : XK) (f : Addr) (hr : Room 1 (A.deeper (envOfC "is_fraction_by" (defScope (top 11)) s.heap.objs.size f cdv))) : DB (cxF P w K mg base N_is_fraction_by "is_fraction_by" (defScope (top 11)) f cdv A outer s H E) hx (defBody (top 11)) b_is_fraction_by := by
  have hu : (A.deeper (envOfC "is_fraction_by" (defScope (top 11)) s.heap.objs.size f cdv)).units + 65 < cLine := by have := hr.un; omega
  have hu64 : (A.deeper (envOfC "is_fraction_by" (defScope (top 11)) s.heap.objs.size f cdv)).units + 64 < cLine := by have := hr.un; omega
  exact db_cons (ds_if (DW.dt (dw_or (dt_not (dt_tru (d_call ((ok_is_tuple_of T).mono (by omega)) hr (da_cons (d_var 0) (da_cons (d_int) (da_nil)))))) (dw_or (dt_not (dt_tru (d_call ((ok_is_whole T).mono (by omega)) hr (da_cons (d_ix hu (d_var 0) (d_int)) (da_nil))))) (dw_or (dt_not (dt_tru (d_call ((ok_is_whole T).mono (by omega)) hr (da_cons (d_ix hu (d_var 0) (d_int)) (da_nil))))) (dw_or1 (dt_cmp od_le (d_ix hu (d_var 0) (d_int)) (d_int)))))))
      (db_one (ds_ret (d_bl)))
      (db_nil))
      (db_one (ds_ret (d_cmp (od_eq hu64) (d_callG cal_gcd T.m_gcd (da_cons (d_ix hu (d_var 0) (d_int)) (da_cons (d_ix hu (d_var 0) (d_int)) (da_nil)))) (d_int))))
theorem fo_is_fraction_by (T : Tb P w K mg) {f : Addr} {fd : FuncData} (F : FunD K "is_fraction_by" "is_fraction_by" (defArgs (top 11)) (defBody (top 11)) (defScope (top 11)) [] [] f fd) : FnOk P w K mg base (L2.CX P w) 2 f fd ["value"] (spOf K F_is_fraction_by) :=
  fn_ok F sc_is_fraction_by fun hx cdv A outer s H E hr => db_is_fraction_by T hx cdv A outer s H E f hr
theorem ok_is_fraction_by (T : Tb P w K mg) : Fn P w K mg base "is_fraction_by" 2 ["value"] F_is_fraction_by := by
  obtain ⟨f, fd, F, hm⟩ := T.f_is_fraction_by
  exact ⟨f, fd, hm, F.kp, F.bindsN fun _ _ _ _ _ _ us hl => match us, hl with | [_], _ => rfl, fo_is_fraction_by T F⟩
abbrev N_whole : List Str := ["number"]
theorem nd_whole : (N_whole).Nodup := by decide +kernel
theorem sc_whole : FnScope N_whole ["number"] (defScope (top 12)) := ⟨rfl, rfl, rfl, by decide +kernel, rfl, by decide +kernel, by decide +kernel⟩
theorem db_whole (T : Tb P w K mg) (hx : Hx) (cdv : Value) (A : Around) (outer : List Env) (s : Shared) (H : Hp) (E : XK) (f : Addr) (hr : Room 0 (A.deeper (envOfC "whole" (defScope (top 12)) s.heap.objs.size f cdv))) : DB (cxF P w K mg base N_whole "whole" (defScope (top 12)) f cdv A outer s H E) hx (defBody (top 12)) b_whole := by
  have hu : (A.deeper (envOfC "whole" (defScope (top 12)) s.heap.objs.size f cdv)).units + 65 < cLine := by have := hr.un; omega
  have hu64 : (A.deeper (envOfC "whole" (defScope (top 12)) s.heap.objs.size f cdv)).units + 64 < cLine := by have := hr.un; omega
  exact db_one (ds_ret (d_tup (da_cons (d_var 0) (da_cons (d_int) (da_nil)))))
theorem fo_whole (T : Tb P w K mg) {f : Addr} {fd : FuncData} (F : FunD K "whole" "whole" (defArgs (top 12)) (defBody (top 12)) (defScope (top 12)) [] [] f fd) : FnOk P w K mg base (L2.CX P w) 1 f fd ["number"] (spOf K F_whole) :=
  fn_ok F sc_whole fun hx cdv A outer s H E hr => db_whole T hx cdv A outer s H E f hr
theorem ok_whole (T : Tb P w K mg) : Fn P w K mg base "whole" 1 ["number"] F_whole := by
  obtain ⟨f, fd, F, hm⟩ := T.f_whole
  exact ⟨f, fd, hm, F.kp, F.bindsN fun _ _ _ _ _ _ us hl => match us, hl with | [_], _ => rfl, fo_whole T F⟩
abbrev N_sum_of : List Str := ["one", "two"]
theorem nd_sum_of : (N_sum_of).Nodup := by decide +kernel
theorem sc_sum_of : FnScope N_sum_of ["one", "two"] (defScope (top 13)) := ⟨rfl, rfl, rfl, by decide +kernel, rfl, by decide +kernel, by decide +kernel⟩
theorem db_sum_of (T : Tb P w K mg) (hx : Hx) (cdv : Value) (A : Around) (outer : List Env) (s : Shared) (H : Hp) (E : XK) (f : Addr) (hr : Room 1 (A.deeper (envOfC "sum_of" (defScope (top 13)) s.heap.objs.size f cdv))) : DB (cxF P w K mg base N_sum_of "sum_of" (defScope (top 13)) f cdv A outer s H E) hx (defBody (top 13)) b_sum_of := by
  have hu : (A.deeper (envOfC "sum_of" (defScope (top 13)) s.heap.objs.size f cdv)).units + 65 < cLine := by have := hr.un; omega
  have hu64 : (A.deeper (envOfC "sum_of" (defScope (top 13)) s.heap.objs.size f cdv)).units + 64 < cLine := by have := hr.un; omega
  exact db_one (ds_ret (d_call ((ok_fraction T).mono (by omega)) hr (da_cons (d_bin od_add (d_bin od_mulT (d_ix hu (d_var 0) (d_int)) (d_ix hu (d_var 1) (d_int))) (d_bin od_mulT (d_ix hu (d_var 1) (d_int)) (d_ix hu (d_var 0) (d_int)))) (da_cons (d_bin od_mulT (d_ix hu (d_var 0) (d_int)) (d_ix hu (d_var 1) (d_int))) (da_nil)))))
theorem fo_sum_of (T : Tb P w K mg) {f : Addr} {fd : FuncData} (F : FunD K "sum_of" "sum_of" (defArgs (top 13)) (defBody (top 13)) (defScope (top 13)) [] [] f fd) : FnOk P w K mg base (L2.CX P w) 2 f fd ["one", "two"] (spOf K F_sum_of) :=
  fn_ok F sc_sum_of fun hx cdv A outer s H E hr => db_sum_of T hx cdv A outer s H E f hr
theorem ok_sum_of (T : Tb P w K mg) : Fn P w K mg base "sum_of" 2 ["one", "two"] F_sum_of := by
  obtain ⟨f, fd, F, hm⟩ := T.f_sum_of
  exact ⟨f, fd, hm, F.kp, F.bindsN fun _ _ _ _ _ _ us hl => match us, hl with | [_, _], _ => rfl, fo_sum_of T F⟩
abbrev N_times : List Str := ["one", "two"]
theorem nd_times : (N_times).Nodup := by decide +kernel
theorem sc_times : FnScope N_times ["one", "two"] (defScope (top 14)) := ⟨rfl, rfl, rfl, by decide +kernel, rfl, by decide +kernel, by decide +kernel⟩
theorem db_times (T : Tb P w K mg) (hx : Hx) (cdv : Value) (A : Around) (outer : List Env) (s : Shared) (H : Hp) (E : XK) (f : Addr) (hr : Room 1 (A.deeper (envOfC "times" (defScope (top 14)) s.heap.objs.size f cdv))) : DB (cxF P w K mg base N_times "times" (defScope (top 14)) f cdv A outer s H E) hx (defBody (top 14)) b_times := by
  have hu : (A.deeper (envOfC "times" (defScope (top 14)) s.heap.objs.size f cdv)).units + 65 < cLine := by have := hr.un; omega
  have hu64 : (A.deeper (envOfC "times" (defScope (top 14)) s.heap.objs.size f cdv)).units + 64 < cLine := by have := hr.un; omega
  exact db_one (ds_ret (d_call ((ok_fraction T).mono (by omega)) hr (da_cons (d_bin od_mulT (d_ix hu (d_var 0) (d_int)) (d_ix hu (d_var 1) (d_int))) (da_cons (d_bin od_mulT (d_ix hu (d_var 0) (d_int)) (d_ix hu (d_var 1) (d_int))) (da_nil)))))
theorem fo_times (T : Tb P w K mg) {f : Addr} {fd : FuncData} (F : FunD K "times" "times" (defArgs (top 14)) (defBody (top 14)) (defScope (top 14)) [] [] f fd) : FnOk P w K mg base (L2.CX P w) 2 f fd ["one", "two"] (spOf K F_times) :=
  fn_ok F sc_times fun hx cdv A outer s H E hr => db_times T hx cdv A outer s H E f hr
theorem ok_times (T : Tb P w K mg) : Fn P w K mg base "times" 2 ["one", "two"] F_times := by
  obtain ⟨f, fd, F, hm⟩ := T.f_times
  exact ⟨f, fd, hm, F.kp, F.bindsN fun _ _ _ _ _ _ us hl => match us, hl with | [_, _], _ => rfl, fo_times T F⟩
abbrev N_worth_of : List Str := ["line", "numbers", "found", "part", "number"]
theorem nd_worth_of : (N_worth_of).Nodup := by decide +kernel
theorem sc_worth_of : FnScope N_worth_of ["line", "numbers"] (defScope (top 17)) := ⟨rfl, rfl, rfl, by decide +kernel, rfl, by decide +kernel, by decide +kernel⟩
theorem db_worth_of (T : Tb P w K mg) (hx : Hx) (cdv : Value) (A : Around) (outer : List Env) (s : Shared) (H : Hp) (E : XK) (f : Addr) (hr : Room 2 (A.deeper (envOfC "worth_of" (defScope (top 17)) s.heap.objs.size f cdv))) : DB (cxF P w K mg base N_worth_of "worth_of" (defScope (top 17)) f cdv A outer s H E) hx (defBody (top 17)) b_worth_of := by
  have hu : (A.deeper (envOfC "worth_of" (defScope (top 17)) s.heap.objs.size f cdv)).units + 65 < cLine := by have := hr.un; omega
  have hu64 : (A.deeper (envOfC "worth_of" (defScope (top 17)) s.heap.objs.size f cdv)).units + 64 < cLine := by have := hr.un; omega
  exact db_cons (ds_set nd_worth_of (d_ix hu (d_var 0) (d_neg (d_int))))
      (db_cons (ds_for (passes_of rfl) rfl (di_zipX T.m_zip (da_cons (d_var 0) (da_cons (d_var 1) (da_nil)))) (dg_tup rfl (dgs_cons (dg_name nd_worth_of) (dgs_cons (dg_name nd_worth_of) (dgs_nil))))
      (db_one (ds_set nd_worth_of (d_call ((ok_sum_of T).mono (by omega)) hr (da_cons (d_var 2) (da_cons (d_call ((ok_times T).mono (by omega)) hr (da_cons (d_var 3) (da_cons (d_var 4) (da_nil)))) (da_nil)))))))
      (db_one (ds_ret (d_var 2))))
theorem fo_worth_of (T : Tb P w K mg) {f : Addr} {fd : FuncData} (F : FunD K "worth_of" "worth_of" (defArgs (top 17)) (defBody (top 17)) (defScope (top 17)) [] [] f fd) : FnOk P w K mg base (L2.CX P w) 3 f fd ["line", "numbers"] (spOf K F_worth_of) :=
  fn_ok F sc_worth_of fun hx cdv A outer s H E hr => db_worth_of T hx cdv A outer s H E f hr
theorem ok_worth_of (T : Tb P w K mg) : Fn P w K mg base "worth_of" 3 ["line", "numbers"] F_worth_of := by
  obtain ⟨f, fd, F, hm⟩ := T.f_worth_of
  exact ⟨f, fd, hm, F.kp, F.bindsN fun _ _ _ _ _ _ us hl => match us, hl with | [_, _], _ => rfl, fo_worth_of T F⟩
abbrev N_is_constant : List Str := ["line", "part"]
theorem nd_is_constant : (N_is_constant).Nodup := by decide +kernel
theorem sc_is_constant : FnScope N_is_constant ["line"] (defScope (top 18)) := ⟨rfl, rfl, rfl, by decide +kernel, rfl, by decide +kernel, by decide +kernel⟩
theorem db_is_constant (T : Tb P w K mg) (hx : Hx) (cdv : Value) (A : Around) (outer : List Env) (s : Shared) (H : Hp) (E : XK) (f : Addr) (hr : Room 0 (A.deeper (envOfC "is_constant" (defScope (top 18)) s.heap.objs.size f cdv))) : DB (cxF P w K mg base N_is_constant "is_constant" (defScope (top 18)) f cdv A outer s H E) hx (defBody (top 18)) b_is_constant := by
  have hu : (A.deeper (envOfC "is_constant" (defScope (top 18)) s.heap.objs.size f cdv)).units + 65 < cLine := by have := hr.un; omega
  have hu64 : (A.deeper (envOfC "is_constant" (defScope (top 18)) s.heap.objs.size f cdv)).units + 64 < cLine := by have := hr.un; omega
  exact db_one (ds_ret (d_callB (cal_all rfl) T.m_all (da_cons (d_lcG finV_ok rfl nd_is_constant [("part", 1)] (di_val (d_sl (d_var 0) (do_none) (do_some (d_neg (d_int))))) (blkOk_by (by kernel_rfl)) (by decide) (fun _ _ _ _ _ => dg_name nd_is_constant) (fun _ _ _ _ _ => dts_nil) (fun _ _ _ _ _ => d_cmp (od_in hu) (d_var 1) (d_tup (da_cons (d_int) (da_cons (d_glob (Tb.kon T.k_NOUGHT)) (da_nil)))))) (da_nil))))
theorem fo_is_constant (T : Tb P w K mg) {f : Addr} {fd : FuncData} (F : FunD K "is_constant" "is_constant" (defArgs (top 18)) (defBody (top 18)) (defScope (top 18)) [] [] f fd) : FnOk P w K mg base (L2.CX P w) 1 f fd ["line"] (spOf K F_is_constant) :=
  fn_ok F sc_is_constant fun hx cdv A outer s H E hr => db_is_constant T hx cdv A outer s H E f hr
theorem ok_is_constant (T : Tb P w K mg) : Fn P w K mg base "is_constant" 1 ["line"] F_is_constant := by
  obtain ⟨f, fd, F, hm⟩ := T.f_is_constant
  exact ⟨f, fd, hm, F.kp, F.bindsN fun _ _ _ _ _ _ us hl => match us, hl with | [_], _ => rfl, fo_is_constant T F⟩
abbrev N_common_of : List Str := ["numbers", "found", "number"]
theorem nd_common_of : (N_common_of).Nodup := by decide +kernel
theorem sc_common_of : FnScope N_common_of ["numbers"] (defScope (top 19)) := ⟨rfl, rfl, rfl, by decide +kernel, rfl, by decide +kernel, by decide +kernel⟩
theorem db_common_of (T : Tb P w K mg) (hx : Hx) (cdv : Value) (A : Around) (outer : List Env) (s : Shared) (H : Hp) (E : XK) (f : Addr) (hr : Room 0 (A.deeper (envOfC "common_of" (defScope (top 19)) s.heap.objs.size f cdv))) : DB (cxF P w K mg base N_common_of "common_of" (defScope (top 19)) f cdv A outer s H E) hx (defBody (top 19)) b_common_of := by
  have hu : (A.deeper (envOfC "common_of" (defScope (top 19)) s.heap.objs.size f cdv)).units + 65 < cLine := by have := hr.un; omega
  have hu64 : (A.deeper (envOfC "common_of" (defScope (top 19)) s.heap.objs.size f cdv)).units + 64 < cLine := by have := hr.un; omega
  exact db_cons (ds_set nd_common_of (d_int))
      (db_cons (ds_for (passes_of rfl) rfl (di_val (d_var 0)) (dg_name nd_common_of)
      (db_one (ds_set nd_common_of (d_callG cal_gcd T.m_gcd (da_cons (d_var 1) (da_cons (d_var 2) (da_nil)))))))
      (db_one (ds_ret (d_if (dt_cmp od_gt (d_var 1) (d_int)) (d_var 1) (d_int)))))
theorem fo_common_of (T : Tb P w K mg) {f : Addr} {fd : FuncData} (F : FunD K "common_of" "common_of" (defArgs (top 19)) (defBody (top 19)) (defScope (top 19)) [] [] f fd) : FnOk P w K mg base (L2.CX P w) 1 f fd ["numbers"] (spOf K F_common_of) :=
  fn_ok F sc_common_of fun hx cdv A outer s H E hr => db_common_of T hx cdv A outer s H E f hr
theorem ok_common_of (T : Tb P w K mg) : Fn P w K mg base "common_of" 1 ["numbers"] F_common_of := by
  obtain ⟨f, fd, F, hm⟩ := T.f_common_of
  exact ⟨f, fd, hm, F.kp, F.bindsN fun _ _ _ _ _ _ us hl => match us, hl with | [_], _ => rfl, fo_common_of T F⟩
abbrev N_line_of_form : List Str := ["form", "number"]
theorem nd_line_of_form : (N_line_of_form).Nodup := by decide +kernel
theorem sc_line_of_form : FnScope N_line_of_form ["form"] (defScope (top 20)) := ⟨rfl, rfl, rfl, by decide +kernel, rfl, by decide +kernel, by decide +kernel⟩
theorem db_line_of_form (T : Tb P w K mg) (hx : Hx) (cdv : Value) (A : Around) (outer : List Env) (s : Shared) (H : Hp) (E : XK) (f : Addr) (hr : Room 1 (A.deeper (envOfC "line_of_form" (defScope (top 20)) s.heap.objs.size f cdv))) : DB (cxF P w K mg base N_line_of_form "line_of_form" (defScope (top 20)) f cdv A outer s H E) hx (defBody (top 20)) b_line_of_form := by
  have hu : (A.deeper (envOfC "line_of_form" (defScope (top 20)) s.heap.objs.size f cdv)).units + 65 < cLine := by have := hr.un; omega
  have hu64 : (A.deeper (envOfC "line_of_form" (defScope (top 20)) s.heap.objs.size f cdv)).units + 64 < cLine := by have := hr.un; omega
  exact db_one (ds_ret (d_callTy cal_tuple T.m_tuple (da_cons (d_lcG finV_ok rfl nd_line_of_form [("number", 1)] (di_val (d_var 0)) (blkOk_by (by kernel_rfl)) (by decide) (fun _ _ _ _ _ => dg_name nd_line_of_form) (fun _ _ _ _ _ => dts_nil) (fun _ _ _ _ _ => d_call ((ok_whole T).mono (by omega)) hr (da_cons (d_var 1) (da_nil)))) (da_nil))))
theorem fo_line_of_form (T : Tb P w K mg) {f : Addr} {fd : FuncData} (F : FunD K "line_of_form" "line_of_form" (defArgs (top 20)) (defBody (top 20)) (defScope (top 20)) [] [] f fd) : FnOk P w K mg base (L2.CX P w) 2 f fd ["form"] (spOf K F_line_of_form) :=
  fn_ok F sc_line_of_form fun hx cdv A outer s H E hr => db_line_of_form T hx cdv A outer s H E f hr
theorem ok_line_of_form (T : Tb P w K mg) : Fn P w K mg base "line_of_form" 2 ["form"] F_line_of_form := by
  obtain ⟨f, fd, F, hm⟩ := T.f_line_of_form
  exact ⟨f, fd, hm, F.kp, F.bindsN fun _ _ _ _ _ _ us hl => match us, hl with | [_], _ => rfl, fo_line_of_form T F⟩
abbrev N_form_at : List Str := ["form", "numbers"]
theorem nd_form_at : (N_form_at).Nodup := by decide +kernel
theorem sc_form_at : FnScope N_form_at ["form", "numbers"] (defScope (top 21)) := ⟨rfl, rfl, rfl, by decide +kernel, rfl, by decide +kernel, by decide +kernel⟩
theorem db_form_at (T : Tb P w K mg) (hx : Hx) (cdv : Value) (A : Around) (outer : List Env) (s : Shared) (H : Hp) (E : XK) (f : Addr) (hr : Room 3 (A.deeper (envOfC "form_at" (defScope (top 21)) s.heap.objs.size f cdv))) : DB (cxF P w K mg base N_form_at "form_at" (defScope (top 21)) f cdv A outer s H E) hx (defBody (top 21)) b_form_at := by
  have hu : (A.deeper (envOfC "form_at" (defScope (top 21)) s.heap.objs.size f cdv)).units + 65 < cLine := by have := hr.un; omega
  have hu64 : (A.deeper (envOfC "form_at" (defScope (top 21)) s.heap.objs.size f cdv)).units + 64 < cLine := by have := hr.un; omega
  exact db_one (ds_ret (d_call ((ok_worth_of T).mono (by omega)) hr (da_cons (d_call ((ok_line_of_form T).mono (by omega)) hr (da_cons (d_var 0) (da_nil))) (da_cons (d_var 1) (da_nil)))))
theorem fo_form_at (T : Tb P w K mg) {f : Addr} {fd : FuncData} (F : FunD K "form_at" "form_at" (defArgs (top 21)) (defBody (top 21)) (defScope (top 21)) [] [] f fd) : FnOk P w K mg base (L2.CX P w) 4 f fd ["form", "numbers"] (spOf K F_form_at) :=
  fn_ok F sc_form_at fun hx cdv A outer s H E hr => db_form_at T hx cdv A outer s H E f hr
theorem ok_form_at (T : Tb P w K mg) : Fn P w K mg base "form_at" 4 ["form", "numbers"] F_form_at := by
  obtain ⟨f, fd, F, hm⟩ := T.f_form_at
  exact ⟨f, fd, hm, F.kp, F.bindsN fun _ _ _ _ _ _ us hl => match us, hl with | [_, _], _ => rfl, fo_form_at T F⟩
abbrev N_is_line : List Str := ["value", "many", "part"]
theorem nd_is_line : (N_is_line).Nodup := by decide +kernel
theorem sc_is_line : FnScope N_is_line ["value", "many"] (defScope (top 26)) := ⟨rfl, rfl, rfl, by decide +kernel, rfl, by decide +kernel, by decide +kernel⟩
theorem db_is_line (T : Tb P w K mg) (hx : Hx) (cdv : Value) (A : Around) (outer : List Env) (s : Shared) (H : Hp) (E : XK) (f : Addr) (hr : Room 2 (A.deeper (envOfC "is_line" (defScope (top 26)) s.heap.objs.size f cdv))) : DB (cxF P w K mg base N_is_line "is_line" (defScope (top 26)) f cdv A outer s H E) hx (defBody (top 26)) b_is_line := by
  have hu : (A.deeper (envOfC "is_line" (defScope (top 26)) s.heap.objs.size f cdv)).units + 65 < cLine := by have := hr.un; omega
  have hu64 : (A.deeper (envOfC "is_line" (defScope (top 26)) s.heap.objs.size f cdv)).units + 64 < cLine := by have := hr.un; omega
  exact db_one (ds_ret (d_and (d_call ((ok_is_tuple_of T).mono (by omega)) hr (da_cons (d_var 0) (da_cons (d_bin od_add (d_var 1) (d_int)) (da_nil)))) (d_one (d_callB (cal_all rfl) T.m_all (da_cons (d_lcG finV_ok rfl nd_is_line [("part", 2)] (di_val (d_var 0)) (blkOk_by (by kernel_rfl)) (by decide) (fun _ _ _ _ _ => dg_name nd_is_line) (fun _ _ _ _ _ => dts_nil) (fun _ _ _ _ _ => d_call ((ok_is_fraction_by T).mono (by omega)) hr (da_cons (d_var 2) (da_nil)))) (da_nil))))))
theorem fo_is_line (T : Tb P w K mg) {f : Addr} {fd : FuncData} (F : FunD K "is_line" "is_line" (defArgs (top 26)) (defBody (top 26)) (defScope (top 26)) [] [] f fd) : FnOk P w K mg base (L2.CX P w) 3 f fd ["value", "many"] (spOf K F_is_line) :=
  fn_ok F sc_is_line fun hx cdv A outer s H E hr => db_is_line T hx cdv A outer s H E f hr
theorem ok_is_line (T : Tb P w K mg) : Fn P w K mg base "is_line" 3 ["value", "many"] F_is_line := by
  obtain ⟨f, fd, F, hm⟩ := T.f_is_line
  exact ⟨f, fd, hm, F.kp, F.bindsN fun _ _ _ _ _ _ us hl => match us, hl with | [_, _], _ => rfl, fo_is_line T F⟩
abbrev N_is_form : List Str := ["value", "many", "number"]
theorem nd_is_form : (N_is_form).Nodup := by decide +kernel
theorem sc_is_form : FnScope N_is_form ["value", "many"] (defScope (top 27)) := ⟨rfl, rfl, rfl, by decide +kernel, rfl, by decide +kernel, by decide +kernel⟩
theorem db_is_form (T : Tb P w K mg) (hx : Hx) (cdv : Value) (A : Around) (outer : List Env) (s : Shared) (H : Hp) (E : XK) (f : Addr) (hr : Room 1 (A.deeper (envOfC "is_form" (defScope (top 27)) s.heap.objs.size f cdv))) : DB (cxF P w K mg base N_is_form "is_form" (defScope (top 27)) f cdv A outer s H E) hx (defBody (top 27)) b_is_form := by
  have hu : (A.deeper (envOfC "is_form" (defScope (top 27)) s.heap.objs.size f cdv)).units + 65 < cLine := by have := hr.un; omega
  have hu64 : (A.deeper (envOfC "is_form" (defScope (top 27)) s.heap.objs.size f cdv)).units + 64 < cLine := by have := hr.un; omega
  exact db_cons (ds_if (DW.dt (dw_or (dt_not (dt_tru (d_call ((ok_is_tuple_of T).mono (by omega)) hr (da_cons (d_var 0) (da_cons (d_bin od_add (d_var 1) (d_int)) (da_nil)))))) (dw_or1 (dt_not (dt_tru (d_callB (cal_all rfl) T.m_all (da_cons (d_lcG finV_ok rfl nd_is_form [("number", 2)] (di_val (d_var 0)) (blkOk_by (by kernel_rfl)) (by decide) (fun _ _ _ _ _ => dg_name nd_is_form) (fun _ _ _ _ _ => dts_nil) (fun _ _ _ _ _ => d_call ((ok_is_whole T).mono (by omega)) hr (da_cons (d_var 2) (da_nil)))) (da_nil))))))))
      (db_one (ds_ret (d_bl)))
      (db_nil))
      (db_one (ds_ret (d_and (d_not (d_call ((ok_is_constant T).mono (by omega)) hr (da_cons (d_var 0) (da_nil)))) (d_one (d_cmp (od_eq hu64) (d_call ((ok_common_of T).mono (by omega)) hr (da_cons (d_var 0) (da_nil))) (d_int))))))
theorem fo_is_form (T : Tb P w K mg) {f : Addr} {fd : FuncData} (F : FunD K "is_form" "is_form" (defArgs (top 27)) (defBody (top 27)) (defScope (top 27)) [] [] f fd) : FnOk P w K mg base (L2.CX P w) 2 f fd ["value", "many"] (spOf K F_is_form) :=
  fn_ok F sc_is_form fun hx cdv A outer s H E hr => db_is_form T hx cdv A outer s H E f hr
theorem ok_is_form (T : Tb P w K mg) : Fn P w K mg base "is_form" 2 ["value", "many"] F_is_form := by
  obtain ⟨f, fd, F, hm⟩ := T.f_is_form
  exact ⟨f, fd, hm, F.kp, F.bindsN fun _ _ _ _ _ _ us hl => match us, hl with | [_, _], _ => rfl, fo_is_form T F⟩
abbrev N_is_node : List Str := ["value", "many", "at", "nodes", "way"]
theorem nd_is_node : (N_is_node).Nodup := by decide +kernel
theorem sc_is_node : FnScope N_is_node ["value", "many", "at", "nodes"] (defScope (top 28)) := ⟨rfl, rfl, rfl, by decide +kernel, rfl, by decide +kernel, by decide +kernel⟩
theorem db_is_node (T : Tb P w K mg) (hx : Hx) (cdv : Value) (A : Around) (outer : List Env) (s : Shared) (H : Hp) (E : XK) (f : Addr) (hr : Room 3 (A.deeper (envOfC "is_node" (defScope (top 28)) s.heap.objs.size f cdv))) : DB (cxF P w K mg base N_is_node "is_node" (defScope (top 28)) f cdv A outer s H E) hx (defBody (top 28)) b_is_node := by
  have hu : (A.deeper (envOfC "is_node" (defScope (top 28)) s.heap.objs.size f cdv)).units + 65 < cLine := by have := hr.un; omega
  have hu64 : (A.deeper (envOfC "is_node" (defScope (top 28)) s.heap.objs.size f cdv)).units + 64 < cLine := by have := hr.un; omega
  exact db_cons (ds_if (DW.dt (dw_and (dt_tru (d_call ((ok_is_tuple_of T).mono (by omega)) hr (da_cons (d_var 0) (da_cons (d_int) (da_nil))))) (dw_and (dt_tru (d_callB cal_isi T.m_isinstance (da_cons (d_ix hu (d_var 0) (d_int)) (da_cons (d_ty T.m_str) (da_nil))))) (dw_and1 (dt_cmp (od_eq hu64) (d_ix hu (d_var 0) (d_int)) (d_glob (Tb.kon T.k_LINE)))))))
      (db_one (ds_ret (d_call ((ok_is_line T).mono (by omega)) hr (da_cons (d_ix hu (d_var 0) (d_int)) (da_cons (d_var 1) (da_nil))))))
      (db_nil))
      (db_cons (ds_if (DW.dt (dw_or (dt_not (dt_tru (d_call ((ok_is_tuple_of T).mono (by omega)) hr (da_cons (d_var 0) (da_cons (d_int) (da_nil)))))) (dw_or (dt_not (dt_tru (d_callB cal_isi T.m_isinstance (da_cons (d_ix hu (d_var 0) (d_int)) (da_cons (d_ty T.m_str) (da_nil)))))) (dw_or (dt_cmp (od_ne hu64) (d_ix hu (d_var 0) (d_int)) (d_glob (Tb.kon T.k_CUT))) (dw_or1 (dt_not (dt_tru (d_call ((ok_is_form T).mono (by omega)) hr (da_cons (d_ix hu (d_var 0) (d_int)) (da_cons (d_var 1) (da_nil)))))))))))
      (db_one (ds_ret (d_bl)))
      (db_nil))
      (db_one (ds_ret (d_callB (cal_all rfl) T.m_all (da_cons (d_lcG finV_ok rfl nd_is_node [("way", 4)] (di_val (d_sl (d_var 0) (do_some (d_int)) (do_none))) (blkOk_by (by kernel_rfl)) (by decide) (fun _ _ _ _ _ => dg_name nd_is_node) (fun _ _ _ _ _ => dts_nil) (fun _ _ _ _ _ => d_call ((ok_is_between T).mono (by omega)) hr (da_cons (d_var 4) (da_cons (d_bin od_add (d_var 2) (d_int)) (da_cons (d_bin od_sub (d_var 3) (d_int)) (da_nil)))))) (da_nil))))))
theorem fo_is_node (T : Tb P w K mg) {f : Addr} {fd : FuncData} (F : FunD K "is_node" "is_node" (defArgs (top 28)) (defBody (top 28)) (defScope (top 28)) [] [] f fd) : FnOk P w K mg base (L2.CX P w) 4 f fd ["value", "many", "at", "nodes"] (spOf K F_is_node) :=
  fn_ok F sc_is_node fun hx cdv A outer s H E hr => db_is_node T hx cdv A outer s H E f hr
theorem ok_is_node (T : Tb P w K mg) : Fn P w K mg base "is_node" 4 ["value", "many", "at", "nodes"] F_is_node := by
  obtain ⟨f, fd, F, hm⟩ := T.f_is_node
  exact ⟨f, fd, hm, F.kp, F.bindsN fun _ _ _ _ _ _ us hl => match us, hl with | [_, _, _, _], _ => rfl, fo_is_node T F⟩
abbrev N_ways_told : List Str := ["kink", "node", "way"]
theorem nd_ways_told : (N_ways_told).Nodup := by decide +kernel
theorem sc_ways_told : FnScope N_ways_told ["kink"] (defScope (top 29)) := ⟨rfl, rfl, rfl, by decide +kernel, rfl, by decide +kernel, by decide +kernel⟩
theorem db_ways_told (T : Tb P w K mg) (hx : Hx) (cdv : Value) (A : Around) (outer : List Env) (s : Shared) (H : Hp) (E : XK) (f : Addr) (hr : Room 0 (A.deeper (envOfC "ways_told" (defScope (top 29)) s.heap.objs.size f cdv))) : DB (cxF P w K mg base N_ways_told "ways_told" (defScope (top 29)) f cdv A outer s H E) hx (defBody (top 29)) b_ways_told := by
  have hu : (A.deeper (envOfC "ways_told" (defScope (top 29)) s.heap.objs.size f cdv)).units + 65 < cLine := by have := hr.un; omega
  have hu64 : (A.deeper (envOfC "ways_told" (defScope (top 29)) s.heap.objs.size f cdv)).units + 64 < cLine := by have := hr.un; omega
  exact db_one (ds_ret (d_lc2G finV_ok rfl nd_ways_told [("node", 1), ("way", 2)] [2] (di_val (d_var 0)) (blkOk_by (by kernel_rfl)) (by decide) (by decide) (by decide) (fun _ _ _ _ _ => dg_name nd_ways_told) (fun _ _ _ _ _ => dts_one (dt_cmp (od_eq hu64) (d_ix hu (d_var 1) (d_int)) (d_glob (Tb.kon T.k_CUT)))) (fun _ _ _ _ _ => di_val (d_sl (d_var 1) (do_some (d_int)) (do_none))) (fun _ _ _ _ _ => dg_name nd_ways_told) (fun _ _ _ _ _ => dts_nil) (fun _ _ _ _ _ => d_var 2)))
theorem fo_ways_told (T : Tb P w K mg) {f : Addr} {fd : FuncData} (F : FunD K "ways_told" "ways_told" (defArgs (top 29)) (defBody (top 29)) (defScope (top 29)) [] [] f fd) : FnOk P w K mg base (L2.CX P w) 1 f fd ["kink"] (spOf K F_ways_told) :=
  fn_ok F sc_ways_told fun hx cdv A outer s H E hr => db_ways_told T hx cdv A outer s H E f hr
theorem ok_ways_told (T : Tb P w K mg) : Fn P w K mg base "ways_told" 1 ["kink"] F_ways_told := by
  obtain ⟨f, fd, F, hm⟩ := T.f_ways_told
  exact ⟨f, fd, hm, F.kp, F.bindsN fun _ _ _ _ _ _ us hl => match us, hl with | [_], _ => rfl, fo_ways_told T F⟩
abbrev N_is_kink_by : List Str := ["value", "many", "at", "node"]
theorem nd_is_kink_by : (N_is_kink_by).Nodup := by decide +kernel
theorem sc_is_kink_by : FnScope N_is_kink_by ["value", "many"] (defScope (top 30)) := ⟨rfl, rfl, rfl, by decide +kernel, rfl, by decide +kernel, by decide +kernel⟩
theorem db_is_kink_by (T : Tb P w K mg) (hx : Hx) (cdv : Value) (A : Around) (outer : List Env) (s : Shared) (H : Hp) (E : XK) (f : Addr) (hr : Room 4 (A.deeper (envOfC "is_kink_by" (defScope (top 30)) s.heap.objs.size f cdv))) : DB (cxF P w K mg base N_is_kink_by "is_kink_by" (defScope (top 30)) f cdv A outer s H E) hx (defBody (top 30)) b_is_kink_by := by
  have hu : (A.deeper (envOfC "is_kink_by" (defScope (top 30)) s.heap.objs.size f cdv)).units + 65 < cLine := by have := hr.un; omega
  have hu64 : (A.deeper (envOfC "is_kink_by" (defScope (top 30)) s.heap.objs.size f cdv)).units + 64 < cLine := by have := hr.un; omega
  exact db_cons (ds_if (DW.dt (dw_or (dt_not (dt_tru (d_callB cal_isi T.m_isinstance (da_cons (d_var 0) (da_cons (d_ty T.m_tuple) (da_nil)))))) (dw_or1 (dt_not (dt_chain od_le od_le (d_int) (d_callB cal_len T.m_len (da_cons (d_var 0) (da_nil))) (d_glob (Tb.kon T.k_MOST_NODES)))))))
      (db_one (ds_ret (d_bl)))
      (db_nil))
      (db_cons (ds_if (dt_not (dt_tru (d_callB (cal_all rfl) T.m_all (da_cons (d_lcG finV_ok rfl nd_is_kink_by [("at", 2), ("node", 3)] (di_enu T.m_enumerate (da_cons (d_var 0) (da_nil))) (blkOk_by (by kernel_rfl)) (by decide) (fun _ _ _ _ _ => dg_tup rfl (dgs_cons (dg_name nd_is_kink_by) (dgs_cons (dg_name nd_is_kink_by) (dgs_nil)))) (fun _ _ _ _ _ => dts_nil) (fun _ _ _ _ _ => d_call ((ok_is_node T).mono (by omega)) hr (da_cons (d_var 3) (da_cons (d_var 1) (da_cons (d_var 2) (da_cons (d_callB cal_len T.m_len (da_cons (d_var 0) (da_nil))) (da_nil))))))) (da_nil)))))
      (db_one (ds_ret (d_bl)))
      (db_nil))
      (db_one (ds_ret (d_cmp (od_eq hu64) (d_callB cal_sorted T.m_sorted (da_cons (d_call ((ok_ways_told T).mono (by omega)) hr (da_cons (d_var 0) (da_nil))) (da_nil))) (d_listRg2 k_lst rfl T.m_list T.m_range (d_int) (d_callB cal_len T.m_len (da_cons (d_var 0) (da_nil))))))))
theorem fo_is_kink_by (T : Tb P w K mg) {f : Addr} {fd : FuncData} (F : FunD K "is_kink_by" "is_kink_by" (defArgs (top 30)) (defBody (top 30)) (defScope (top 30)) [] [] f fd) : FnOk P w K mg base (L2.CX P w) 5 f fd ["value", "many"] (spOf K F_is_kink_by) :=
  fn_ok F sc_is_kink_by fun hx cdv A outer s H E hr => db_is_kink_by T hx cdv A outer s H E f hr
theorem ok_is_kink_by (T : Tb P w K mg) : Fn P w K mg base "is_kink_by" 5 ["value", "many"] F_is_kink_by := by
  obtain ⟨f, fd, F, hm⟩ := T.f_is_kink_by
  exact ⟨f, fd, hm, F.kp, F.bindsN fun _ _ _ _ _ _ us hl => match us, hl with | [_, _], _ => rfl, fo_is_kink_by T F⟩
abbrev N_line_at : List Str := ["kink", "numbers", "at"]
theorem nd_line_at : (N_line_at).Nodup := by decide +kernel
theorem sc_line_at : FnScope N_line_at ["kink", "numbers"] (defScope (top 31)) := ⟨rfl, rfl, rfl, by decide +kernel, rfl, by decide +kernel, by decide +kernel⟩
theorem db_line_at (T : Tb P w K mg) (hx : Hx) (cdv : Value) (A : Around) (outer : List Env) (s : Shared) (H : Hp) (E : XK) (f : Addr) (hr : Room 4 (A.deeper (envOfC "line_at" (defScope (top 31)) s.heap.objs.size f cdv))) : DB (cxF P w K mg base N_line_at "line_at" (defScope (top 31)) f cdv A outer s H E) hx (defBody (top 31)) b_line_at := by
  have hu : (A.deeper (envOfC "line_at" (defScope (top 31)) s.heap.objs.size f cdv)).units + 65 < cLine := by have := hr.un; omega
  have hu64 : (A.deeper (envOfC "line_at" (defScope (top 31)) s.heap.objs.size f cdv)).units + 64 < cLine := by have := hr.un; omega
  exact db_cons (ds_set nd_line_at (d_int))
      (db_cons (ds_while fuelW (passes_of rfl) (dt_cmp (od_eq hu64) (d_ix hu (d_ix hu (d_var 0) (d_var 2)) (d_int)) (d_glob (Tb.kon T.k_CUT)))
      (db_one (ds_set nd_line_at (d_if (dt_cmp od_gt (d_ix hu (d_call ((ok_form_at T).mono (by omega)) hr (da_cons (d_ix hu (d_ix hu (d_var 0) (d_var 2)) (d_int)) (da_cons (d_var 1) (da_nil)))) (d_int)) (d_int)) (d_ix hu (d_ix hu (d_var 0) (d_var 2)) (d_int)) (d_ix hu (d_ix hu (d_var 0) (d_var 2)) (d_int))))))
      (db_one (ds_ret (d_ix hu (d_ix hu (d_var 0) (d_var 2)) (d_int)))))
theorem fo_line_at (T : Tb P w K mg) {f : Addr} {fd : FuncData} (F : FunD K "line_at" "line_at" (defArgs (top 31)) (defBody (top 31)) (defScope (top 31)) [] [] f fd) : FnOk P w K mg base (L2.CX P w) 5 f fd ["kink", "numbers"] (spOf K F_line_at) :=
  fn_ok F sc_line_at fun hx cdv A outer s H E hr => db_line_at T hx cdv A outer s H E f hr
theorem ok_line_at (T : Tb P w K mg) : Fn P w K mg base "line_at" 5 ["kink", "numbers"] F_line_at := by
  obtain ⟨f, fd, F, hm⟩ := T.f_line_at
  exact ⟨f, fd, hm, F.kp, F.bindsN fun _ _ _ _ _ _ us hl => match us, hl with | [_, _], _ => rfl, fo_line_at T F⟩
abbrev N_kink_worth : List Str := ["kink", "numbers"]
theorem nd_kink_worth : (N_kink_worth).Nodup := by decide +kernel
theorem sc_kink_worth : FnScope N_kink_worth ["kink", "numbers"] (defScope (top 32)) := ⟨rfl, rfl, rfl, by decide +kernel, rfl, by decide +kernel, by decide +kernel⟩
theorem db_kink_worth (T : Tb P w K mg) (hx : Hx) (cdv : Value) (A : Around) (outer : List Env) (s : Shared) (H : Hp) (E : XK) (f : Addr) (hr : Room 5 (A.deeper (envOfC "kink_worth" (defScope (top 32)) s.heap.objs.size f cdv))) : DB (cxF P w K mg base N_kink_worth "kink_worth" (defScope (top 32)) f cdv A outer s H E) hx (defBody (top 32)) b_kink_worth := by
  have hu : (A.deeper (envOfC "kink_worth" (defScope (top 32)) s.heap.objs.size f cdv)).units + 65 < cLine := by have := hr.un; omega
  have hu64 : (A.deeper (envOfC "kink_worth" (defScope (top 32)) s.heap.objs.size f cdv)).units + 64 < cLine := by have := hr.un; omega
  exact db_one (ds_ret (d_call ((ok_worth_of T).mono (by omega)) hr (da_cons (d_call ((ok_line_at T).mono (by omega)) hr (da_cons (d_var 0) (da_cons (d_var 1) (da_nil)))) (da_cons (d_var 1) (da_nil)))))
theorem fo_kink_worth (T : Tb P w K mg) {f : Addr} {fd : FuncData} (F : FunD K "kink_worth" "kink_worth" (defArgs (top 32)) (defBody (top 32)) (defScope (top 32)) [] [] f fd) : FnOk P w K mg base (L2.CX P w) 6 f fd ["kink", "numbers"] (spOf K F_kink_worth) :=
  fn_ok F sc_kink_worth fun hx cdv A outer s H E hr => db_kink_worth T hx cdv A outer s H E f hr
theorem ok_kink_worth (T : Tb P w K mg) : Fn P w K mg base "kink_worth" 6 ["kink", "numbers"] F_kink_worth := by
  obtain ⟨f, fd, F, hm⟩ := T.f_kink_worth
  exact ⟨f, fd, hm, F.kp, F.bindsN fun _ _ _ _ _ _ us hl => match us, hl with | [_, _], _ => rfl, fo_kink_worth T F⟩
abbrev N_check_many : List Str := ["many"]
theorem nd_check_many : (N_check_many).Nodup := by decide +kernel
theorem sc_check_many : FnScope N_check_many ["many"] (defScope (top 35)) := ⟨rfl, rfl, rfl, by decide +kernel, rfl, by decide +kernel, by decide +kernel⟩
theorem db_check_many (T : Tb P w K mg) (hx : Hx) (cdv : Value) (A : Around) (outer : List Env) (s : Shared) (H : Hp) (E : XK) (f : Addr) (hr : Room 2 (A.deeper (envOfC "check_many" (defScope (top 35)) s.heap.objs.size f cdv))) : DB (cxF P w K mg base N_check_many "check_many" (defScope (top 35)) f cdv A outer s H E) hx (defBody (top 35)) b_check_many := by
  have hu : (A.deeper (envOfC "check_many" (defScope (top 35)) s.heap.objs.size f cdv)).units + 65 < cLine := by have := hr.un; omega
  have hu64 : (A.deeper (envOfC "check_many" (defScope (top 35)) s.heap.objs.size f cdv)).units + 64 < cLine := by have := hr.un; omega
  exact db_one (ds_if (dt_not (dt_tru (d_call ((ok_is_between T).mono (by omega)) hr (da_cons (d_var 0) (da_cons (d_int) (da_cons (d_glob (Tb.kon T.k_MOST_NUMBERS)) (da_nil)))))))
      (db_one (ds_never))
      (db_nil))
theorem fo_check_many (T : Tb P w K mg) {f : Addr} {fd : FuncData} (F : FunD K "check_many" "check_many" (defArgs (top 35)) (defBody (top 35)) (defScope (top 35)) [] [] f fd) : FnOk P w K mg base (L2.CX P w) 3 f fd ["many"] (spOf K F_check_many) :=
  fn_ok F sc_check_many fun hx cdv A outer s H E hr => db_check_many T hx cdv A outer s H E f hr
theorem ok_check_many (T : Tb P w K mg) : Fn P w K mg base "check_many" 3 ["many"] F_check_many := by
  obtain ⟨f, fd, F, hm⟩ := T.f_check_many
  exact ⟨f, fd, hm, F.kp, F.bindsN fun _ _ _ _ _ _ us hl => match us, hl with | [_], _ => rfl, fo_check_many T F⟩
abbrev N_check_kink : List Str := ["kink", "many"]
theorem nd_check_kink : (N_check_kink).Nodup := by decide +kernel
theorem sc_check_kink : FnScope N_check_kink ["kink", "many"] (defScope (top 36)) := ⟨rfl, rfl, rfl, by decide +kernel, rfl, by decide +kernel, by decide +kernel⟩
theorem db_check_kink (T : Tb P w K mg) (hx : Hx) (cdv : Value) (A : Around) (outer : List Env) (s : Shared) (H : Hp) (E : XK) (f : Addr) (hr : Room 5 (A.deeper (envOfC "check_kink" (defScope (top 36)) s.heap.objs.size f cdv))) : DB (cxF P w K mg base N_check_kink "check_kink" (defScope (top 36)) f cdv A outer s H E) hx (defBody (top 36)) b_check_kink := by
  have hu : (A.deeper (envOfC "check_kink" (defScope (top 36)) s.heap.objs.size f cdv)).units + 65 < cLine := by have := hr.un; omega
  have hu64 : (A.deeper (envOfC "check_kink" (defScope (top 36)) s.heap.objs.size f cdv)).units + 64 < cLine := by have := hr.un; omega
  exact db_one (ds_if (dt_not (dt_tru (d_call ((ok_is_kink_by T).mono (by omega)) hr (da_cons (d_var 0) (da_cons (d_var 1) (da_nil))))))
      (db_one (ds_never))
      (db_nil))
theorem fo_check_kink (T : Tb P w K mg) {f : Addr} {fd : FuncData} (F : FunD K "check_kink" "check_kink" (defArgs (top 36)) (defBody (top 36)) (defScope (top 36)) [] [] f fd) : FnOk P w K mg base (L2.CX P w) 6 f fd ["kink", "many"] (spOf K F_check_kink) :=
  fn_ok F sc_check_kink fun hx cdv A outer s H E hr => db_check_kink T hx cdv A outer s H E f hr
theorem ok_check_kink (T : Tb P w K mg) : Fn P w K mg base "check_kink" 6 ["kink", "many"] F_check_kink := by
  obtain ⟨f, fd, F, hm⟩ := T.f_check_kink
  exact ⟨f, fd, hm, F.kp, F.bindsN fun _ _ _ _ _ _ us hl => match us, hl with | [_, _], _ => rfl, fo_check_kink T F⟩
abbrev N_is_kink : List Str := ["value", "many"]
theorem nd_is_kink : (N_is_kink).Nodup := by decide +kernel
theorem sc_is_kink : FnScope N_is_kink ["value", "many"] (defScope (top 37)) := ⟨rfl, rfl, rfl, by decide +kernel, rfl, by decide +kernel, by decide +kernel⟩
theorem db_is_kink (T : Tb P w K mg) (hx : Hx) (cdv : Value) (A : Around) (outer : List Env) (s : Shared) (H : Hp) (E : XK) (f : Addr) (hr : Room 5 (A.deeper (envOfC "is_kink" (defScope (top 37)) s.heap.objs.size f cdv))) : DB (cxF P w K mg base N_is_kink "is_kink" (defScope (top 37)) f cdv A outer s H E) hx (defBody (top 37)) b_is_kink := by
  have hu : (A.deeper (envOfC "is_kink" (defScope (top 37)) s.heap.objs.size f cdv)).units + 65 < cLine := by have := hr.un; omega
  have hu64 : (A.deeper (envOfC "is_kink" (defScope (top 37)) s.heap.objs.size f cdv)).units + 64 < cLine := by have := hr.un; omega
  exact db_cons (ds_expr (d_call ((ok_check_many T).mono (by omega)) hr (da_cons (d_var 1) (da_nil))))
      (db_one (ds_ret (d_call ((ok_is_kink_by T).mono (by omega)) hr (da_cons (d_var 0) (da_cons (d_var 1) (da_nil))))))
theorem fo_is_kink (T : Tb P w K mg) {f : Addr} {fd : FuncData} (F : FunD K "is_kink" "is_kink" (defArgs (top 37)) (defBody (top 37)) (defScope (top 37)) [] [] f fd) : FnOk P w K mg base (L2.CX P w) 6 f fd ["value", "many"] (spOf K F_is_kink) :=
  fn_ok F sc_is_kink fun hx cdv A outer s H E hr => db_is_kink T hx cdv A outer s H E f hr
theorem ok_is_kink (T : Tb P w K mg) : Fn P w K mg base "is_kink" 6 ["value", "many"] F_is_kink := by
  obtain ⟨f, fd, F, hm⟩ := T.f_is_kink
  exact ⟨f, fd, hm, F.kp, F.bindsN fun _ _ _ _ _ _ us hl => match us, hl with | [_, _], _ => rfl, fo_is_kink T F⟩
abbrev N_kink_at : List Str := ["kink", "many", "some", "number"]
theorem nd_kink_at : (N_kink_at).Nodup := by decide +kernel
theorem sc_kink_at : FnScope N_kink_at ["kink", "many", "some"] (defScope (top 38)) := ⟨rfl, rfl, rfl, by decide +kernel, rfl, by decide +kernel, by decide +kernel⟩
theorem db_kink_at (T : Tb P w K mg) (hx : Hx) (cdv : Value) (A : Around) (outer : List Env) (s : Shared) (H : Hp) (E : XK) (f : Addr) (hr : Room 6 (A.deeper (envOfC "kink_at" (defScope (top 38)) s.heap.objs.size f cdv))) : DB (cxF P w K mg base N_kink_at "kink_at" (defScope (top 38)) f cdv A outer s H E) hx (defBody (top 38)) b_kink_at := by
  have hu : (A.deeper (envOfC "kink_at" (defScope (top 38)) s.heap.objs.size f cdv)).units + 65 < cLine := by have := hr.un; omega
  have hu64 : (A.deeper (envOfC "kink_at" (defScope (top 38)) s.heap.objs.size f cdv)).units + 64 < cLine := by have := hr.un; omega
  exact db_cons (ds_expr (d_call ((ok_check_many T).mono (by omega)) hr (da_cons (d_var 1) (da_nil))))
      (db_cons (ds_expr (d_call ((ok_check_kink T).mono (by omega)) hr (da_cons (d_var 0) (da_cons (d_var 1) (da_nil)))))
      (db_cons (ds_if (DW.dt (dw_or (dt_not (dt_tru (d_call ((ok_is_tuple_of T).mono (by omega)) hr (da_cons (d_var 2) (da_cons (d_var 1) (da_nil)))))) (dw_or1 (dt_not (dt_tru (d_callB (cal_all rfl) T.m_all (da_cons (d_lcG finV_ok rfl nd_kink_at [("number", 3)] (di_val (d_var 2)) (blkOk_by (by kernel_rfl)) (by decide) (fun _ _ _ _ _ => dg_name nd_kink_at) (fun _ _ _ _ _ => dts_nil) (fun _ _ _ _ _ => d_call ((ok_is_fraction_by T).mono (by omega)) hr (da_cons (d_var 3) (da_nil)))) (da_nil))))))))
      (db_one (ds_never))
      (db_nil))
      (db_one (ds_ret (d_call ((ok_kink_worth T).mono (by omega)) hr (da_cons (d_var 0) (da_cons (d_var 2) (da_nil))))))))
theorem fo_kink_at (T : Tb P w K mg) {f : Addr} {fd : FuncData} (F : FunD K "kink_at" "kink_at" (defArgs (top 38)) (defBody (top 38)) (defScope (top 38)) [] [] f fd) : FnOk P w K mg base (L2.CX P w) 7 f fd ["kink", "many", "some"] (spOf K F_kink_at) :=
  fn_ok F sc_kink_at fun hx cdv A outer s H E hr => db_kink_at T hx cdv A outer s H E f hr
theorem ok_kink_at (T : Tb P w K mg) : Fn P w K mg base "kink_at" 7 ["kink", "many", "some"] F_kink_at := by
  obtain ⟨f, fd, F, hm⟩ := T.f_kink_at
  exact ⟨f, fd, hm, F.kp, F.bindsN fun _ _ _ _ _ _ us hl => match us, hl with | [_, _, _], _ => rfl, fo_kink_at T F⟩
theorem kw_kink_at_0_some_many_kink (T : Tb P w K mg) : FnKw P w K mg base "kink_at" 7 ["kink", "many", "some"] F_kink_at 0 ["some", "many", "kink"] [2, 1, 0] := by
  obtain ⟨f, fd, F, hm⟩ := T.f_kink_at
  exact ⟨f, fd, hm, F.kp, kbn_of F fun _ _ _ _ _ _ us ws hu hw => match us, ws, hu, hw with | [], [_, _, _], _, _ => rfl, fo_kink_at T F⟩
abbrev N__law_pool : List Str := ["script", "k", "cell", "size", "stir"]
theorem nd__law_pool : (N__law_pool).Nodup := by decide +kernel
theorem sc__law_pool : FnScope N__law_pool ["script", "k"] (defScope (top 40)) := ⟨rfl, rfl, rfl, by decide +kernel, rfl, by decide +kernel, by decide +kernel⟩
theorem db__law_pool (T : Tb P w K mg) (hx : Hx) (cdv : Value) (A : Around) (outer : List Env) (s : Shared) (H : Hp) (E : XK) (f : Addr) (hr : Room 0 (A.deeper (envOfC "_law_pool" (defScope (top 40)) s.heap.objs.size f cdv))) : DB (cxF P w K mg base N__law_pool "_law_pool" (defScope (top 40)) f cdv A outer s H E) hx (defBody (top 40)) b__law_pool := by
  have hu : (A.deeper (envOfC "_law_pool" (defScope (top 40)) s.heap.objs.size f cdv)).units + 65 < cLine := by have := hr.un; omega
  have hu64 : (A.deeper (envOfC "_law_pool" (defScope (top 40)) s.heap.objs.size f cdv)).units + 64 < cLine := by have := hr.un; omega
  exact db_cons (ds_set nd__law_pool (d_bin od_add (d_bin od_mulT (d_int) (d_var 1)) (d_bin od_mulT (d_int) (d_callB cal_len T.m_len (da_cons (d_var 0) (da_nil))))))
      (db_cons (ds_if (dt_cmp od_lt (d_var 1) (d_callB cal_len T.m_len (da_cons (d_var 0) (da_nil))))
      (db_one (ds_set nd__law_pool (d_ix hu (d_var 0) (d_var 1))))
      (db_nil))
      (db_cons (ds_set nd__law_pool (d_callB cal_abs T.m_abs (da_cons (d_var 2) (da_nil))))
      (db_cons (ds_set nd__law_pool (d_bin od_mod (d_callTy cal_int T.m_int (da_cons (d_bin od_add (d_bin od_add (d_bin od_add (d_bin od_mulT (d_var 3) (d_int)) (d_bin od_mulT (d_int) (d_var 1))) (d_bin od_mulT (d_int) (d_callTy cal_int T.m_int (da_cons (d_cmp od_lt (d_var 2) (d_int)) (da_nil))))) (d_int)) (da_nil))) (d_int)))
      (db_cons (ds_if (dt_cmp od_ge (d_var 3) (d_int))
      (db_one (ds_ret (d_lstL (da_cons (d_bin od_add (d_bin od_mulT (d_int) (d_bin od_sub (d_var 3) (d_int))) (d_callTy cal_int T.m_int (da_cons (d_cmp od_lt (d_var 2) (d_int)) (da_nil)))) (da_cons (d_var 4) (da_nil))))))
      (db_nil))
      (db_one (ds_ret (d_lstL (da_cons (d_int) (da_cons (d_var 4) (da_nil))))))))))
theorem fo__law_pool (T : Tb P w K mg) {f : Addr} {fd : FuncData} (F : FunD K "_law_pool" "_law_pool" (defArgs (top 40)) (defBody (top 40)) (defScope (top 40)) [] [] f fd) : FnOk P w K mg base (L2.CX P w) 1 f fd ["script", "k"] (spOf K F__law_pool) :=
  fn_ok F sc__law_pool fun hx cdv A outer s H E hr => db__law_pool T hx cdv A outer s H E f hr
theorem ok__law_pool (T : Tb P w K mg) : Fn P w K mg base "_law_pool" 1 ["script", "k"] F__law_pool := by
  obtain ⟨f, fd, F, hm⟩ := T.f__law_pool
  exact ⟨f, fd, hm, F.kp, F.bindsN fun _ _ _ _ _ _ us hl => match us, hl with | [_, _], _ => rfl, fo__law_pool T F⟩
abbrev N__law_take : List Str := ["pool", "many", "told", "reach"]
theorem nd__law_take : (N__law_take).Nodup := by decide +kernel
theorem sc__law_take : FnScope N__law_take ["pool", "many"] (defScope (top 41)) := ⟨rfl, rfl, rfl, by decide +kernel, rfl, by decide +kernel, by decide +kernel⟩
theorem db__law_take (T : Tb P w K mg) (hx : Hx) (cdv : Value) (A : Around) (outer : List Env) (s : Shared) (H : Hp) (E : XK) (f : Addr) (hr : Room 0 (A.deeper (envOfC "_law_take" (defScope (top 41)) s.heap.objs.size f cdv))) : DB (cxF P w K mg base N__law_take "_law_take" (defScope (top 41)) f cdv A outer s H E) hx (defBody (top 41)) b__law_take := by
  have hu : (A.deeper (envOfC "_law_take" (defScope (top 41)) s.heap.objs.size f cdv)).units + 65 < cLine := by have := hr.un; omega
  have hu64 : (A.deeper (envOfC "_law_take" (defScope (top 41)) s.heap.objs.size f cdv)).units + 64 < cLine := by have := hr.un; omega
  exact db_cons (ds_if (dt_cmp od_gt (d_ix hu (d_var 0) (d_int)) (d_int))
      (db_cons (ds_set nd__law_take (d_bin od_mod (d_callTy cal_int T.m_int (da_cons (d_ix hu (d_var 0) (d_int)) (da_nil))) (d_var 1)))
      (db_cons (ds_asg (d_bin od_fdiv (d_ix hu (d_var 0) (d_int)) (d_var 1)) (dg_sub hu (d_var 0) (d_int)))
      (db_one (ds_ret (d_var 2)))))
      (db_nil))
      (db_cons (ds_set nd__law_take (d_int))
      (db_cons (ds_set nd__law_take (d_int))
      (db_cons (ds_while fuelW (passes_of rfl) (dt_cmp od_lt (d_var 3) (d_bin od_mulT (d_int) (d_var 1)))
      (db_cons (ds_asg (d_bin od_mod (d_callTy cal_int T.m_int (da_cons (d_bin od_add (d_bin od_mulT (d_ix hu (d_var 0) (d_int)) (d_int)) (d_int)) (da_nil))) (d_int)) (dg_sub hu (d_var 0) (d_int)))
      (db_cons (ds_set nd__law_take (d_bin od_add (d_bin od_mulT (d_var 2) (d_int)) (d_bin od_fdiv (d_ix hu (d_var 0) (d_int)) (d_int))))
      (db_one (ds_set nd__law_take (d_bin od_mulT (d_var 3) (d_int)))))))
      (db_one (ds_ret (d_bin od_mod (d_callTy cal_int T.m_int (da_cons (d_var 2) (da_nil))) (d_var 1)))))))
theorem fo__law_take (T : Tb P w K mg) {f : Addr} {fd : FuncData} (F : FunD K "_law_take" "_law_take" (defArgs (top 41)) (defBody (top 41)) (defScope (top 41)) [] [] f fd) : FnOk P w K mg base (L2.CX P w) 1 f fd ["pool", "many"] (spOf K F__law_take) :=
  fn_ok F sc__law_take fun hx cdv A outer s H E hr => db__law_take T hx cdv A outer s H E f hr
theorem ok__law_take (T : Tb P w K mg) : Fn P w K mg base "_law_take" 1 ["pool", "many"] F__law_take := by
  obtain ⟨f, fd, F, hm⟩ := T.f__law_take
  exact ⟨f, fd, hm, F.kp, F.bindsN fun _ _ _ _ _ _ us hl => match us, hl with | [_, _], _ => rfl, fo__law_take T F⟩
abbrev N__law_alike : List Str := ["one", "two", "k"]
theorem nd__law_alike : (N__law_alike).Nodup := by decide +kernel
theorem sc__law_alike : FnScope N__law_alike ["one", "two"] (defScope (top 42)) := ⟨rfl, rfl, rfl, by decide +kernel, rfl, by decide +kernel, by decide +kernel⟩
theorem db__law_alike (T : Tb P w K mg) (k : Nat) {f__law_alike : List Wt → Store → Res Wt} (g__law_alike : Fn P w K mg base "_law_alike" (0 + k) ["one", "two"] f__law_alike) (hx : Hx) (cdv : Value) (A : Around) (outer : List Env) (s : Shared) (H : Hp) (E : XK) (f : Addr) (hr : Room (0 + k) (A.deeper (envOfC "_law_alike" (defScope (top 42)) s.heap.objs.size f cdv))) : DB (cxF P w K mg base N__law_alike "_law_alike" (defScope (top 42)) f cdv A outer s H E) hx (defBody (top 42)) (b__law_alike f__law_alike) := by
  have hu : (A.deeper (envOfC "_law_alike" (defScope (top 42)) s.heap.objs.size f cdv)).units + 65 < cLine := by have := hr.un; omega
  have hu64 : (A.deeper (envOfC "_law_alike" (defScope (top 42)) s.heap.objs.size f cdv)).units + 64 < cLine := by have := hr.un; omega
  exact db_cons (ds_if (DW.dt (dw_or (dt_tru (d_callB cal_isi T.m_isinstance (da_cons (d_var 0) (da_cons (d_ty T.m_bool) (da_nil))))) (dw_or1 (dt_tru (d_callB cal_isi T.m_isinstance (da_cons (d_var 1) (da_cons (d_ty T.m_bool) (da_nil))))))))
      (db_one (ds_ret (d_and (d_callB cal_isi T.m_isinstance (da_cons (d_var 0) (da_cons (d_ty T.m_bool) (da_nil)))) (d_and (d_callB cal_isi T.m_isinstance (da_cons (d_var 1) (da_cons (d_ty T.m_bool) (da_nil)))) (d_one (d_cmp (od_eq hu64) (d_var 0) (d_var 1)))))))
      (db_nil))
      (db_cons (ds_if (DW.dt (dw_or (dt_tru (d_callB cal_isi T.m_isinstance (da_cons (d_var 0) (da_cons (d_ty T.m_int) (da_nil))))) (dw_or1 (dt_tru (d_callB cal_isi T.m_isinstance (da_cons (d_var 1) (da_cons (d_ty T.m_int) (da_nil))))))))
      (db_one (ds_ret (d_and (d_callB cal_isi T.m_isinstance (da_cons (d_var 0) (da_cons (d_ty T.m_int) (da_nil)))) (d_and (d_callB cal_isi T.m_isinstance (da_cons (d_var 1) (da_cons (d_ty T.m_int) (da_nil)))) (d_one (d_cmp (od_eq hu64) (d_var 0) (d_var 1)))))))
      (db_nil))
      (db_cons (ds_if (DW.dt (dw_or (dt_tru (d_callB cal_isi T.m_isinstance (da_cons (d_var 0) (da_cons (d_ty T.m_str) (da_nil))))) (dw_or1 (dt_tru (d_callB cal_isi T.m_isinstance (da_cons (d_var 1) (da_cons (d_ty T.m_str) (da_nil))))))))
      (db_one (ds_ret (d_and (d_callB cal_isi T.m_isinstance (da_cons (d_var 0) (da_cons (d_ty T.m_str) (da_nil)))) (d_and (d_callB cal_isi T.m_isinstance (da_cons (d_var 1) (da_cons (d_ty T.m_str) (da_nil)))) (d_one (d_cmp (od_eq hu64) (d_var 0) (d_var 1)))))))
      (db_nil))
      (db_cons (ds_if (DW.dt (dw_or (dt_cmp od_is (d_var 0) (d_non)) (dw_or1 (dt_cmp od_is (d_var 1) (d_non)))))
      (db_one (ds_ret (d_and (d_cmp od_is (d_var 0) (d_non)) (d_one (d_cmp od_is (d_var 1) (d_non))))))
      (db_nil))
      (db_cons (ds_if (DW.dt (dw_or (dt_tru (d_callB cal_isi T.m_isinstance (da_cons (d_var 0) (da_cons (d_ty T.m_dict) (da_nil))))) (dw_or1 (dt_tru (d_callB cal_isi T.m_isinstance (da_cons (d_var 1) (da_cons (d_ty T.m_dict) (da_nil))))))))
      (db_one (ds_ret (d_and (d_callB cal_isi T.m_isinstance (da_cons (d_var 0) (da_cons (d_ty T.m_dict) (da_nil)))) (d_and (d_callB cal_isi T.m_isinstance (da_cons (d_var 1) (da_cons (d_ty T.m_dict) (da_nil)))) (d_one (d_chain (od_eq hu64) (od_eq hu64) (d_callB cal_len T.m_len (da_cons (d_var 0) (da_nil))) (d_callB cal_len T.m_len (da_cons (d_var 1) (da_nil))) (d_int)))))))
      (db_nil))
      (db_cons (ds_if (DW.dt (dw_or (dt_cmp (od_ne hu64) (d_callB cal_isi T.m_isinstance (da_cons (d_var 0) (da_cons (d_ty T.m_tuple) (da_nil)))) (d_callB cal_isi T.m_isinstance (da_cons (d_var 1) (da_cons (d_ty T.m_tuple) (da_nil))))) (dw_or1 (dt_cmp (od_ne hu64) (d_callB cal_isi T.m_isinstance (da_cons (d_var 0) (da_cons (d_ty T.m_list) (da_nil)))) (d_callB cal_isi T.m_isinstance (da_cons (d_var 1) (da_cons (d_ty T.m_list) (da_nil))))))))
      (db_one (ds_ret (d_bl)))
      (db_nil))
      (db_cons (ds_if (DW.dt (dw_or (dt_not (dt_tru (d_callB cal_isi T.m_isinstance (da_cons (d_var 0) (da_cons (d_tup (da_cons (d_ty T.m_tuple) (da_cons (d_ty T.m_list) (da_nil)))) (da_nil)))))) (dw_or1 (dt_cmp (od_ne hu64) (d_callB cal_len T.m_len (da_cons (d_var 0) (da_nil))) (d_callB cal_len T.m_len (da_cons (d_var 1) (da_nil)))))))
      (db_one (ds_ret (d_bl)))
      (db_nil))
      (db_one (ds_ret (d_callB (cal_all rfl) T.m_all (da_cons (d_lcG finV_ok rfl nd__law_alike [("k", 2)] (di_rng1 T.m_range (da_cons (d_callB cal_len T.m_len (da_cons (d_var 0) (da_nil))) (da_nil))) (blkOk_by (by kernel_rfl)) (by decide) (fun _ _ _ _ _ => dg_name nd__law_alike) (fun _ _ _ _ _ => dts_nil) (fun _ _ _ _ _ => d_call g__law_alike hr (da_cons (d_ix hu (d_var 0) (d_var 2)) (da_cons (d_ix hu (d_var 1) (d_var 2)) (da_nil))))) (da_nil)))))))))))
theorem all__law_alike (T : Tb P w K mg) : ∀ k : Nat, (Fn P w K mg base "_law_alike" (0 + k) ["one", "two"] (F__law_alike k))
  | 0 => by
    obtain ⟨f0, fd0, F0, hm0⟩ := T.f__law_alike
    exact ⟨f0, fd0, hm0, F0.kp, F0.bindsN fun _ _ _ _ _ _ us hl => match us, hl with | [_, _], _ => rfl, fn_bad F0 sc__law_alike⟩
  | k + 1 => by
    have ih := all__law_alike T k
    have g__law_alike := ih
    obtain ⟨f0, fd0, F0, hm0⟩ := T.f__law_alike
    have h0 : FnOk P w K mg base (L2.CX P w) (0 + k + 1) f0 fd0 ["one", "two"] (spOf K (F__law_alike (k + 1))) := fn_ok F0 sc__law_alike fun hx cdv A outer s H E hr => db__law_alike T k g__law_alike hx cdv A outer s H E f0 hr
    exact ⟨f0, fd0, hm0, F0.kp, F0.bindsN fun _ _ _ _ _ _ us hl => match us, hl with | [_, _], _ => rfl, h0⟩
theorem ok__law_alike (T : Tb P w K mg) : Fn P w K mg base "_law_alike" 8 ["one", "two"] (F__law_alike 8) := (all__law_alike T 8)
abbrev N__law_one : List Str := ["pool", "some"]
theorem nd__law_one : (N__law_one).Nodup := by decide +kernel
theorem sc__law_one : FnScope N__law_one ["pool", "some"] (defScope (top 43)) := ⟨rfl, rfl, rfl, by decide +kernel, rfl, by decide +kernel, by decide +kernel⟩
theorem db__law_one (T : Tb P w K mg) (hx : Hx) (cdv : Value) (A : Around) (outer : List Env) (s : Shared) (H : Hp) (E : XK) (f : Addr) (hr : Room 1 (A.deeper (envOfC "_law_one" (defScope (top 43)) s.heap.objs.size f cdv))) : DB (cxF P w K mg base N__law_one "_law_one" (defScope (top 43)) f cdv A outer s H E) hx (defBody (top 43)) b__law_one := by
  have hu : (A.deeper (envOfC "_law_one" (defScope (top 43)) s.heap.objs.size f cdv)).units + 65 < cLine := by have := hr.un; omega
  have hu64 : (A.deeper (envOfC "_law_one" (defScope (top 43)) s.heap.objs.size f cdv)).units + 64 < cLine := by have := hr.un; omega
  exact db_one (ds_ret (d_ix hu (d_var 1) (d_call ((ok__law_take T).mono (by omega)) hr (da_cons (d_var 0) (da_cons (d_callB cal_len T.m_len (da_cons (d_var 1) (da_nil))) (da_nil))))))
theorem fo__law_one (T : Tb P w K mg) {f : Addr} {fd : FuncData} (F : FunD K "_law_one" "_law_one" (defArgs (top 43)) (defBody (top 43)) (defScope (top 43)) [] [] f fd) : FnOk P w K mg base (L2.CX P w) 2 f fd ["pool", "some"] (spOf K F__law_one) :=
  fn_ok F sc__law_one fun hx cdv A outer s H E hr => db__law_one T hx cdv A outer s H E f hr
theorem ok__law_one (T : Tb P w K mg) : Fn P w K mg base "_law_one" 2 ["pool", "some"] F__law_one := by
  obtain ⟨f, fd, F, hm⟩ := T.f__law_one
  exact ⟨f, fd, hm, F.kp, F.bindsN fun _ _ _ _ _ _ us hl => match us, hl with | [_, _], _ => rfl, fo__law_one T F⟩
abbrev N__law_ratio : List Str := ["one", "two", "low", "high"]
theorem nd__law_ratio : (N__law_ratio).Nodup := by decide +kernel
theorem sc__law_ratio : FnScope N__law_ratio ["one", "two"] (defScope (top 44)) := ⟨rfl, rfl, rfl, by decide +kernel, rfl, by decide +kernel, by decide +kernel⟩
theorem db__law_ratio (T : Tb P w K mg) (hx : Hx) (cdv : Value) (A : Around) (outer : List Env) (s : Shared) (H : Hp) (E : XK) (f : Addr) (hr : Room 0 (A.deeper (envOfC "_law_ratio" (defScope (top 44)) s.heap.objs.size f cdv))) : DB (cxF P w K mg base N__law_ratio "_law_ratio" (defScope (top 44)) f cdv A outer s H E) hx (defBody (top 44)) b__law_ratio := by
  have hu : (A.deeper (envOfC "_law_ratio" (defScope (top 44)) s.heap.objs.size f cdv)).units + 65 < cLine := by have := hr.un; omega
  have hu64 : (A.deeper (envOfC "_law_ratio" (defScope (top 44)) s.heap.objs.size f cdv)).units + 64 < cLine := by have := hr.un; omega
  exact db_cons (ds_if (dt_cmp od_lt (d_var 1) (d_int))
      (db_one (ds_par rfl nd__law_ratio (da_cons (d_bin od_sub (d_int) (d_var 0)) (da_cons (d_bin od_sub (d_int) (d_var 1)) (da_nil)))))
      (db_nil))
      (db_cons (ds_par rfl nd__law_ratio (da_cons (d_callB cal_abs T.m_abs (da_cons (d_var 0) (da_nil))) (da_cons (d_var 1) (da_nil))))
      (db_cons (ds_while fuelW (passes_of rfl) (dt_cmp od_gt (d_var 3) (d_int))
      (db_one (ds_par rfl nd__law_ratio (da_cons (d_var 3) (da_cons (d_bin od_mod (d_callTy cal_int T.m_int (da_cons (d_var 2) (da_nil))) (d_var 3)) (da_nil))))))
      (db_one (ds_ret (d_tup (da_cons (d_bin od_fdiv (d_var 0) (d_var 2)) (da_cons (d_bin od_fdiv (d_var 1) (d_var 2)) (da_nil))))))))
theorem fo__law_ratio (T : Tb P w K mg) {f : Addr} {fd : FuncData} (F : FunD K "_law_ratio" "_law_ratio" (defArgs (top 44)) (defBody (top 44)) (defScope (top 44)) [] [] f fd) : FnOk P w K mg base (L2.CX P w) 1 f fd ["one", "two"] (spOf K F__law_ratio) :=
  fn_ok F sc__law_ratio fun hx cdv A outer s H E hr => db__law_ratio T hx cdv A outer s H E f hr
theorem ok__law_ratio (T : Tb P w K mg) : Fn P w K mg base "_law_ratio" 1 ["one", "two"] F__law_ratio := by
  obtain ⟨f, fd, F, hm⟩ := T.f__law_ratio
  exact ⟨f, fd, hm, F.kp, F.bindsN fun _ _ _ _ _ _ us hl => match us, hl with | [_, _], _ => rfl, fo__law_ratio T F⟩
abbrev N__law_plus : List Str := ["one", "two"]
theorem nd__law_plus : (N__law_plus).Nodup := by decide +kernel
theorem sc__law_plus : FnScope N__law_plus ["one", "two"] (defScope (top 45)) := ⟨rfl, rfl, rfl, by decide +kernel, rfl, by decide +kernel, by decide +kernel⟩
theorem db__law_plus (T : Tb P w K mg) (hx : Hx) (cdv : Value) (A : Around) (outer : List Env) (s : Shared) (H : Hp) (E : XK) (f : Addr) (hr : Room 1 (A.deeper (envOfC "_law_plus" (defScope (top 45)) s.heap.objs.size f cdv))) : DB (cxF P w K mg base N__law_plus "_law_plus" (defScope (top 45)) f cdv A outer s H E) hx (defBody (top 45)) b__law_plus := by
  have hu : (A.deeper (envOfC "_law_plus" (defScope (top 45)) s.heap.objs.size f cdv)).units + 65 < cLine := by have := hr.un; omega
  have hu64 : (A.deeper (envOfC "_law_plus" (defScope (top 45)) s.heap.objs.size f cdv)).units + 64 < cLine := by have := hr.un; omega
  exact db_one (ds_ret (d_call ((ok__law_ratio T).mono (by omega)) hr (da_cons (d_bin od_add (d_bin od_mulT (d_ix hu (d_var 0) (d_int)) (d_ix hu (d_var 1) (d_int))) (d_bin od_mulT (d_ix hu (d_var 1) (d_int)) (d_ix hu (d_var 0) (d_int)))) (da_cons (d_bin od_mulT (d_ix hu (d_var 0) (d_int)) (d_ix hu (d_var 1) (d_int))) (da_nil)))))
theorem fo__law_plus (T : Tb P w K mg) {f : Addr} {fd : FuncData} (F : FunD K "_law_plus" "_law_plus" (defArgs (top 45)) (defBody (top 45)) (defScope (top 45)) [] [] f fd) : FnOk P w K mg base (L2.CX P w) 2 f fd ["one", "two"] (spOf K F__law_plus) :=
  fn_ok F sc__law_plus fun hx cdv A outer s H E hr => db__law_plus T hx cdv A outer s H E f hr
theorem ok__law_plus (T : Tb P w K mg) : Fn P w K mg base "_law_plus" 2 ["one", "two"] F__law_plus := by
  obtain ⟨f, fd, F, hm⟩ := T.f__law_plus
  exact ⟨f, fd, hm, F.kp, F.bindsN fun _ _ _ _ _ _ us hl => match us, hl with | [_, _], _ => rfl, fo__law_plus T F⟩
abbrev N__law_times : List Str := ["one", "two"]
theorem nd__law_times : (N__law_times).Nodup := by decide +kernel
theorem sc__law_times : FnScope N__law_times ["one", "two"] (defScope (top 46)) := ⟨rfl, rfl, rfl, by decide +kernel, rfl, by decide +kernel, by decide +kernel⟩
theorem db__law_times (T : Tb P w K mg) (hx : Hx) (cdv : Value) (A : Around) (outer : List Env) (s : Shared) (H : Hp) (E : XK) (f : Addr) (hr : Room 1 (A.deeper (envOfC "_law_times" (defScope (top 46)) s.heap.objs.size f cdv))) : DB (cxF P w K mg base N__law_times "_law_times" (defScope (top 46)) f cdv A outer s H E) hx (defBody (top 46)) b__law_times := by
  have hu : (A.deeper (envOfC "_law_times" (defScope (top 46)) s.heap.objs.size f cdv)).units + 65 < cLine := by have := hr.un; omega
  have hu64 : (A.deeper (envOfC "_law_times" (defScope (top 46)) s.heap.objs.size f cdv)).units + 64 < cLine := by have := hr.un; omega
  exact db_one (ds_ret (d_call ((ok__law_ratio T).mono (by omega)) hr (da_cons (d_bin od_mulT (d_ix hu (d_var 0) (d_int)) (d_ix hu (d_var 1) (d_int))) (da_cons (d_bin od_mulT (d_ix hu (d_var 0) (d_int)) (d_ix hu (d_var 1) (d_int))) (da_nil)))))
theorem fo__law_times (T : Tb P w K mg) {f : Addr} {fd : FuncData} (F : FunD K "_law_times" "_law_times" (defArgs (top 46)) (defBody (top 46)) (defScope (top 46)) [] [] f fd) : FnOk P w K mg base (L2.CX P w) 2 f fd ["one", "two"] (spOf K F__law_times) :=
  fn_ok F sc__law_times fun hx cdv A outer s H E hr => db__law_times T hx cdv A outer s H E f hr
theorem ok__law_times (T : Tb P w K mg) : Fn P w K mg base "_law_times" 2 ["one", "two"] F__law_times := by
  obtain ⟨f, fd, F, hm⟩ := T.f__law_times
  exact ⟨f, fd, hm, F.kp, F.bindsN fun _ _ _ _ _ _ us hl => match us, hl with | [_, _], _ => rfl, fo__law_times T F⟩
abbrev N__law_common : List Str := ["some", "found", "each", "one", "two"]
theorem nd__law_common : (N__law_common).Nodup := by decide +kernel
theorem sc__law_common : FnScope N__law_common ["some"] (defScope (top 47)) := ⟨rfl, rfl, rfl, by decide +kernel, rfl, by decide +kernel, by decide +kernel⟩
theorem db__law_common (T : Tb P w K mg) (hx : Hx) (cdv : Value) (A : Around) (outer : List Env) (s : Shared) (H : Hp) (E : XK) (f : Addr) (hr : Room 0 (A.deeper (envOfC "_law_common" (defScope (top 47)) s.heap.objs.size f cdv))) : DB (cxF P w K mg base N__law_common "_law_common" (defScope (top 47)) f cdv A outer s H E) hx (defBody (top 47)) b__law_common := by
  have hu : (A.deeper (envOfC "_law_common" (defScope (top 47)) s.heap.objs.size f cdv)).units + 65 < cLine := by have := hr.un; omega
  have hu64 : (A.deeper (envOfC "_law_common" (defScope (top 47)) s.heap.objs.size f cdv)).units + 64 < cLine := by have := hr.un; omega
  exact db_cons (ds_set nd__law_common (d_int))
      (db_cons (ds_for (passes_of rfl) rfl (di_val (d_var 0)) (dg_name nd__law_common)
      (db_cons (ds_par rfl nd__law_common (da_cons (d_callB cal_abs T.m_abs (da_cons (d_var 2) (da_nil))) (da_cons (d_var 1) (da_nil))))
      (db_cons (ds_while fuelW (passes_of rfl) (dt_cmp od_gt (d_var 4) (d_int))
      (db_one (ds_par rfl nd__law_common (da_cons (d_var 4) (da_cons (d_bin od_mod (d_callTy cal_int T.m_int (da_cons (d_var 3) (da_nil))) (d_var 4)) (da_nil))))))
      (db_one (ds_set nd__law_common (d_var 3))))))
      (db_one (ds_ret (d_var 1))))
theorem fo__law_common (T : Tb P w K mg) {f : Addr} {fd : FuncData} (F : FunD K "_law_common" "_law_common" (defArgs (top 47)) (defBody (top 47)) (defScope (top 47)) [] [] f fd) : FnOk P w K mg base (L2.CX P w) 1 f fd ["some"] (spOf K F__law_common) :=
  fn_ok F sc__law_common fun hx cdv A outer s H E hr => db__law_common T hx cdv A outer s H E f hr
theorem ok__law_common (T : Tb P w K mg) : Fn P w K mg base "_law_common" 1 ["some"] F__law_common := by
  obtain ⟨f, fd, F, hm⟩ := T.f__law_common
  exact ⟨f, fd, hm, F.kp, F.bindsN fun _ _ _ _ _ _ us hl => match us, hl with | [_], _ => rfl, fo__law_common T F⟩
abbrev N__law_any_form : List Str := ["pool", "many", "found", "k", "each"]
theorem nd__law_any_form : (N__law_any_form).Nodup := by decide +kernel
theorem sc__law_any_form : FnScope N__law_any_form ["pool", "many"] (defScope (top 48)) := ⟨rfl, rfl, rfl, by decide +kernel, rfl, by decide +kernel, by decide +kernel⟩
theorem db__law_any_form (T : Tb P w K mg) (hx : Hx) (cdv : Value) (A : Around) (outer : List Env) (s : Shared) (H : Hp) (E : XK) (f : Addr) (hr : Room 1 (A.deeper (envOfC "_law_any_form" (defScope (top 48)) s.heap.objs.size f cdv))) : DB (cxF P w K mg base N__law_any_form "_law_any_form" (defScope (top 48)) f cdv A outer s H E) hx (defBody (top 48)) b__law_any_form := by
  have hu : (A.deeper (envOfC "_law_any_form" (defScope (top 48)) s.heap.objs.size f cdv)).units + 65 < cLine := by have := hr.un; omega
  have hu64 : (A.deeper (envOfC "_law_any_form" (defScope (top 48)) s.heap.objs.size f cdv)).units + 64 < cLine := by have := hr.un; omega
  exact db_cons (ds_set nd__law_any_form (d_lcG finV_ok rfl nd__law_any_form [("k", 3)] (di_rng1 T.m_range (da_cons (d_bin od_add (d_var 1) (d_int)) (da_nil))) (blkOk_by (by kernel_rfl)) (by decide) (fun _ _ _ _ _ => dg_name nd__law_any_form) (fun _ _ _ _ _ => dts_nil) (fun _ _ _ _ _ => d_bin od_sub (d_call ((ok__law_take T).mono (by omega)) hr (da_cons (d_var 0) (da_cons (d_int) (da_nil)))) (d_int))))
      (db_cons (ds_set nd__law_any_form (d_if (dt_cmp (od_ne hu64) (d_lcG finV_ok rfl nd__law_any_form [("each", 4)] (di_val (d_sl (d_var 2) (do_none) (do_some (d_neg (d_int))))) (blkOk_by (by kernel_rfl)) (by decide) (fun _ _ _ _ _ => dg_name nd__law_any_form) (fun _ _ _ _ _ => dts_one (dt_cmp (od_ne hu64) (d_var 4) (d_int))) (fun _ _ _ _ _ => d_var 4)) (d_lst (da_nil))) (d_var 2) (d_bin od_add (d_lst (da_cons (d_int) (da_nil))) (d_sl (d_var 2) (do_some (d_int)) (do_none)))))
      (db_one (ds_ret (d_callTy cal_tuple T.m_tuple (da_cons (d_lcG finV_ok rfl nd__law_any_form [("each", 4)] (di_val (d_var 2)) (blkOk_by (by kernel_rfl)) (by decide) (fun _ _ _ _ _ => dg_name nd__law_any_form) (fun _ _ _ _ _ => dts_nil) (fun _ _ _ _ _ => d_bin od_fdiv (d_var 4) (d_call ((ok__law_common T).mono (by omega)) hr (da_cons (d_var 2) (da_nil))))) (da_nil))))))
theorem fo__law_any_form (T : Tb P w K mg) {f : Addr} {fd : FuncData} (F : FunD K "_law_any_form" "_law_any_form" (defArgs (top 48)) (defBody (top 48)) (defScope (top 48)) [] [] f fd) : FnOk P w K mg base (L2.CX P w) 2 f fd ["pool", "many"] (spOf K F__law_any_form) :=
  fn_ok F sc__law_any_form fun hx cdv A outer s H E hr => db__law_any_form T hx cdv A outer s H E f hr
theorem ok__law_any_form (T : Tb P w K mg) : Fn P w K mg base "_law_any_form" 2 ["pool", "many"] F__law_any_form := by
  obtain ⟨f, fd, F, hm⟩ := T.f__law_any_form
  exact ⟨f, fd, hm, F.kp, F.bindsN fun _ _ _ _ _ _ us hl => match us, hl with | [_, _], _ => rfl, fo__law_any_form T F⟩
abbrev N__law_any_kink : List Str := ["pool", "many", "cuts", "nodes", "waits", "lap", "k", "one", "two", "each"]
theorem nd__law_any_kink : (N__law_any_kink).Nodup := by decide +kernel
theorem sc__law_any_kink : FnScope N__law_any_kink ["pool", "many", "cuts"] (defScope (top 49)) := ⟨rfl, rfl, rfl, by decide +kernel, rfl, by decide +kernel, by decide +kernel⟩
theorem db__law_any_kink (T : Tb P w K mg) (hx : Hx) (cdv : Value) (A : Around) (outer : List Env) (s : Shared) (H : Hp) (E : XK) (f : Addr) (hr : Room 2 (A.deeper (envOfC "_law_any_kink" (defScope (top 49)) s.heap.objs.size f cdv))) : DB (cxF P w K mg base N__law_any_kink "_law_any_kink" (defScope (top 49)) f cdv A outer s H E) hx (defBody (top 49)) b__law_any_kink := by
  have hu : (A.deeper (envOfC "_law_any_kink" (defScope (top 49)) s.heap.objs.size f cdv)).units + 65 < cLine := by have := hr.un; omega
  have hu64 : (A.deeper (envOfC "_law_any_kink" (defScope (top 49)) s.heap.objs.size f cdv)).units + 64 < cLine := by have := hr.un; omega
  exact db_cons (ds_par rfl nd__law_any_kink (da_cons (d_lstL (da_cons (d_non) (da_nil))) (da_cons (d_lstL (da_cons (d_int) (da_nil))) (da_nil))))
      (db_cons (ds_for (passes_of rfl) rfl (di_rng1 T.m_range (da_cons (d_if (dt_cmp od_gt (d_var 1) (d_int)) (d_var 2) (d_int)) (da_nil))) (dg_name nd__law_any_kink)
      (db_cons (ds_set nd__law_any_kink (d_popAt (d_var 4) (d_call ((ok__law_take T).mono (by omega)) hr (da_cons (d_var 0) (da_cons (d_callB cal_len T.m_len (da_cons (d_var 4) (da_nil))) (da_nil))))))
      (db_cons (ds_par rfl nd__law_any_kink (da_cons (d_callB cal_len T.m_len (da_cons (d_var 3) (da_nil))) (da_cons (d_bin od_add (d_callB cal_len T.m_len (da_cons (d_var 3) (da_nil))) (d_int)) (da_nil))))
      (db_cons (ds_asg (d_bin od_add (d_tup (da_cons (d_str) (da_cons (d_call ((ok__law_any_form T).mono (by omega)) hr (da_cons (d_var 0) (da_cons (d_var 1) (da_nil)))) (da_nil)))) (d_if (dt_cmp (od_eq hu64) (d_call ((ok__law_take T).mono (by omega)) hr (da_cons (d_var 0) (da_cons (d_int) (da_nil)))) (d_int)) (d_tup (da_cons (d_var 7) (da_cons (d_var 8) (da_nil)))) (d_tup (da_cons (d_var 8) (da_cons (d_var 7) (da_nil)))))) (dg_sub hu (d_var 3) (d_var 6)))
      (db_one (ds_par rfl nd__law_any_kink (da_cons (d_bin od_catL (d_var 3) (d_lst (da_cons (d_non) (da_cons (d_non) (da_nil))))) (da_cons (d_bin od_catL (d_var 4) (d_lst (da_cons (d_var 7) (da_cons (d_var 8) (da_nil))))) (da_nil)))))))))
      (db_cons (ds_for (passes_of rfl) rfl (di_val (d_var 4)) (dg_name nd__law_any_kink)
      (db_one (ds_asg (d_tup (da_cons (d_str) (da_cons (d_callTy cal_tuple T.m_tuple (da_cons (d_lcG finV_ok rfl nd__law_any_kink [("each", 9)] (di_rng1 T.m_range (da_cons (d_bin od_add (d_var 1) (d_int)) (da_nil))) (blkOk_by (by kernel_rfl)) (by decide) (fun _ _ _ _ _ => dg_name nd__law_any_kink) (fun _ _ _ _ _ => dts_nil) (fun _ _ _ _ _ => d_call ((ok__law_ratio T).mono (by omega)) hr (da_cons (d_bin od_sub (d_call ((ok__law_take T).mono (by omega)) hr (da_cons (d_var 0) (da_cons (d_int) (da_nil)))) (d_int)) (da_cons (d_bin od_add (d_int) (d_call ((ok__law_take T).mono (by omega)) hr (da_cons (d_var 0) (da_cons (d_int) (da_nil))))) (da_nil))))) (da_nil))) (da_nil)))) (dg_sub hu (d_var 3) (d_var 6)))))
      (db_one (ds_ret (d_callTy cal_tuple T.m_tuple (da_cons (d_var 3) (da_nil)))))))
theorem fo__law_any_kink (T : Tb P w K mg) {f : Addr} {fd : FuncData} (F : FunD K "_law_any_kink" "_law_any_kink" (defArgs (top 49)) (defBody (top 49)) (defScope (top 49)) [] [] f fd) : FnOk P w K mg base (L2.CX P w) 3 f fd ["pool", "many", "cuts"] (spOf K F__law_any_kink) :=
  fn_ok F sc__law_any_kink fun hx cdv A outer s H E hr => db__law_any_kink T hx cdv A outer s H E f hr
theorem ok__law_any_kink (T : Tb P w K mg) : Fn P w K mg base "_law_any_kink" 3 ["pool", "many", "cuts"] F__law_any_kink := by
  obtain ⟨f, fd, F, hm⟩ := T.f__law_any_kink
  exact ⟨f, fd, hm, F.kp, F.bindsN fun _ _ _ _ _ _ us hl => match us, hl with | [_, _, _], _ => rfl, fo__law_any_kink T F⟩
abbrev N__law_line_at : List Str := ["line", "numbers", "found", "value", "number"]
theorem nd__law_line_at : (N__law_line_at).Nodup := by decide +kernel
theorem sc__law_line_at : FnScope N__law_line_at ["line", "numbers"] (defScope (top 50)) := ⟨rfl, rfl, rfl, by decide +kernel, rfl, by decide +kernel, by decide +kernel⟩
theorem db__law_line_at (T : Tb P w K mg) (hx : Hx) (cdv : Value) (A : Around) (outer : List Env) (s : Shared) (H : Hp) (E : XK) (f : Addr) (hr : Room 2 (A.deeper (envOfC "_law_line_at" (defScope (top 50)) s.heap.objs.size f cdv))) : DB (cxF P w K mg base N__law_line_at "_law_line_at" (defScope (top 50)) f cdv A outer s H E) hx (defBody (top 50)) b__law_line_at := by
  have hu : (A.deeper (envOfC "_law_line_at" (defScope (top 50)) s.heap.objs.size f cdv)).units + 65 < cLine := by have := hr.un; omega
  have hu64 : (A.deeper (envOfC "_law_line_at" (defScope (top 50)) s.heap.objs.size f cdv)).units + 64 < cLine := by have := hr.un; omega
  exact db_cons (ds_set nd__law_line_at (d_ix hu (d_var 0) (d_neg (d_int))))
      (db_cons (ds_for (passes_of rfl) rfl (di_zipX T.m_zip (da_cons (d_var 0) (da_cons (d_var 1) (da_nil)))) (dg_tup rfl (dgs_cons (dg_name nd__law_line_at) (dgs_cons (dg_name nd__law_line_at) (dgs_nil))))
      (db_one (ds_set nd__law_line_at (d_call ((ok__law_plus T).mono (by omega)) hr (da_cons (d_var 2) (da_cons (d_call ((ok__law_times T).mono (by omega)) hr (da_cons (d_var 3) (da_cons (d_var 4) (da_nil)))) (da_nil)))))))
      (db_one (ds_ret (d_var 2))))
theorem fo__law_line_at (T : Tb P w K mg) {f : Addr} {fd : FuncData} (F : FunD K "_law_line_at" "_law_line_at" (defArgs (top 50)) (defBody (top 50)) (defScope (top 50)) [] [] f fd) : FnOk P w K mg base (L2.CX P w) 3 f fd ["line", "numbers"] (spOf K F__law_line_at) :=
  fn_ok F sc__law_line_at fun hx cdv A outer s H E hr => db__law_line_at T hx cdv A outer s H E f hr
theorem ok__law_line_at (T : Tb P w K mg) : Fn P w K mg base "_law_line_at" 3 ["line", "numbers"] F__law_line_at := by
  obtain ⟨f, fd, F, hm⟩ := T.f__law_line_at
  exact ⟨f, fd, hm, F.kp, F.bindsN fun _ _ _ _ _ _ us hl => match us, hl with | [_, _], _ => rfl, fo__law_line_at T F⟩
abbrev N__law_kink_at : List Str := ["kink", "numbers", "at", "lap", "worth", "each"]
theorem nd__law_kink_at : (N__law_kink_at).Nodup := by decide +kernel
theorem sc__law_kink_at : FnScope N__law_kink_at ["kink", "numbers"] (defScope (top 51)) := ⟨rfl, rfl, rfl, by decide +kernel, rfl, by decide +kernel, by decide +kernel⟩
theorem db__law_kink_at (T : Tb P w K mg) (hx : Hx) (cdv : Value) (A : Around) (outer : List Env) (s : Shared) (H : Hp) (E : XK) (f : Addr) (hr : Room 3 (A.deeper (envOfC "_law_kink_at" (defScope (top 51)) s.heap.objs.size f cdv))) : DB (cxF P w K mg base N__law_kink_at "_law_kink_at" (defScope (top 51)) f cdv A outer s H E) hx (defBody (top 51)) b__law_kink_at := by
  have hu : (A.deeper (envOfC "_law_kink_at" (defScope (top 51)) s.heap.objs.size f cdv)).units + 65 < cLine := by have := hr.un; omega
  have hu64 : (A.deeper (envOfC "_law_kink_at" (defScope (top 51)) s.heap.objs.size f cdv)).units + 64 < cLine := by have := hr.un; omega
  exact db_cons (ds_set nd__law_kink_at (d_int))
      (db_cons (ds_for (passes_of rfl) rfl (di_rng1 T.m_range (da_cons (d_callB cal_len T.m_len (da_cons (d_var 0) (da_nil))) (da_nil))) (dg_name nd__law_kink_at)
      (db_cons (ds_if (dt_cmp (od_eq hu64) (d_ix hu (d_ix hu (d_var 0) (d_var 2)) (d_int)) (d_str))
      (db_one (ds_ret (d_call ((ok__law_line_at T).mono (by omega)) hr (da_cons (d_ix hu (d_ix hu (d_var 0) (d_var 2)) (d_int)) (da_cons (d_var 1) (da_nil))))))
      (db_nil))
      (db_cons (ds_set nd__law_kink_at (d_call ((ok__law_line_at T).mono (by omega)) hr (da_cons (d_lcG finV_ok rfl nd__law_kink_at [("each", 5)] (di_val (d_ix hu (d_ix hu (d_var 0) (d_var 2)) (d_int))) (blkOk_by (by kernel_rfl)) (by decide) (fun _ _ _ _ _ => dg_name nd__law_kink_at) (fun _ _ _ _ _ => dts_nil) (fun _ _ _ _ _ => d_tup (da_cons (d_var 5) (da_cons (d_int) (da_nil))))) (da_cons (d_var 1) (da_nil)))))
      (db_one (ds_set nd__law_kink_at (d_ix hu (d_ix hu (d_var 0) (d_var 2)) (d_if (dt_cmp od_le (d_ix hu (d_var 4) (d_int)) (d_int)) (d_int) (d_int))))))))
      (db_one (ds_ret (d_non))))
theorem fo__law_kink_at (T : Tb P w K mg) {f : Addr} {fd : FuncData} (F : FunD K "_law_kink_at" "_law_kink_at" (defArgs (top 51)) (defBody (top 51)) (defScope (top 51)) [] [] f fd) : FnOk P w K mg base (L2.CX P w) 4 f fd ["kink", "numbers"] (spOf K F__law_kink_at) :=
  fn_ok F sc__law_kink_at fun hx cdv A outer s H E hr => db__law_kink_at T hx cdv A outer s H E f hr
theorem ok__law_kink_at (T : Tb P w K mg) : Fn P w K mg base "_law_kink_at" 4 ["kink", "numbers"] F__law_kink_at := by
  obtain ⟨f, fd, F, hm⟩ := T.f__law_kink_at
  exact ⟨f, fd, hm, F.kp, F.bindsN fun _ _ _ _ _ _ us hl => match us, hl with | [_, _], _ => rfl, fo__law_kink_at T F⟩
abbrev N__law_numbers : List Str := ["pool", "kink", "many", "found", "k", "forms", "node", "form", "at", "rest", "each"]
theorem nd__law_numbers : (N__law_numbers).Nodup := by decide +kernel
theorem sc__law_numbers : FnScope N__law_numbers ["pool", "kink", "many"] (defScope (top 52)) := ⟨rfl, rfl, rfl, by decide +kernel, rfl, by decide +kernel, by decide +kernel⟩
theorem db__law_numbers (T : Tb P w K mg) (hx : Hx) (cdv : Value) (A : Around) (outer : List Env) (s : Shared) (H : Hp) (E : XK) (f : Addr) (hr : Room 3 (A.deeper (envOfC "_law_numbers" (defScope (top 52)) s.heap.objs.size f cdv))) : DB (cxF P w K mg base N__law_numbers "_law_numbers" (defScope (top 52)) f cdv A outer s H E) hx (defBody (top 52)) b__law_numbers := by
  have hu : (A.deeper (envOfC "_law_numbers" (defScope (top 52)) s.heap.objs.size f cdv)).units + 65 < cLine := by have := hr.un; omega
  have hu64 : (A.deeper (envOfC "_law_numbers" (defScope (top 52)) s.heap.objs.size f cdv)).units + 64 < cLine := by have := hr.un; omega
  exact db_cons (ds_setLcG finL_ok rfl nd__law_numbers [("k", 4)] (di_rng1 T.m_range (da_cons (d_var 2) (da_nil))) (blkOk_by (by kernel_rfl)) (by decide) (fun _ _ _ _ _ => dg_name nd__law_numbers) (fun _ _ _ _ _ => dts_nil) (fun _ _ _ _ _ => d_call ((ok__law_ratio T).mono (by omega)) hr (da_cons (d_call ((ok__law_one T).mono (by omega)) hr (da_cons (d_var 0) (da_cons (d_tup (da_cons (d_int) (da_cons (d_int) (da_cons (d_neg (d_int)) (da_cons (d_int) (da_cons (d_int) (da_cons (d_neg (d_int)) (da_cons (d_bin od_pow (d_int) (d_int)) (da_nil))))))))) (da_nil)))) (da_cons (d_call ((ok__law_one T).mono (by omega)) hr (da_cons (d_var 0) (da_cons (d_tup (da_cons (d_int) (da_cons (d_int) (da_cons (d_int) (da_cons (d_int) (da_cons (d_bin od_pow (d_int) (d_int)) (da_nil))))))) (da_nil)))) (da_nil)))))
      (db_cons (ds_setLcG finV_ok rfl nd__law_numbers [("node", 6)] (di_val (d_var 1)) (blkOk_by (by kernel_rfl)) (by decide) (fun _ _ _ _ _ => dg_name nd__law_numbers) (fun _ _ _ _ _ => dts_one (dt_cmp (od_eq hu64) (d_ix hu (d_var 6) (d_int)) (d_str))) (fun _ _ _ _ _ => d_ix hu (d_var 6) (d_int)))
      (db_cons (ds_if (DW.dt (dw_and (dt_cmp (od_ne hu64) (d_var 5) (d_lst (da_nil))) (dw_and1 (dt_cmp (od_eq hu64) (d_call ((ok__law_take T).mono (by omega)) hr (da_cons (d_var 0) (da_cons (d_int) (da_nil)))) (d_int)))))
      (db_cons (ds_set nd__law_numbers (d_call ((ok__law_one T).mono (by omega)) hr (da_cons (d_var 0) (da_cons (d_var 5) (da_nil)))))
      (db_cons (ds_set nd__law_numbers (d_ix hu (d_lcG finV_ok rfl nd__law_numbers [("k", 4)] (di_rng1 T.m_range (da_cons (d_var 2) (da_nil))) (blkOk_by (by kernel_rfl)) (by decide) (fun _ _ _ _ _ => dg_name nd__law_numbers) (fun _ _ _ _ _ => dts_one (dt_cmp (od_ne hu64) (d_ix hu (d_var 7) (d_var 4)) (d_int))) (fun _ _ _ _ _ => d_var 4)) (d_int)))
      (db_cons (ds_set nd__law_numbers (d_call ((ok__law_line_at T).mono (by omega)) hr (da_cons (d_lcG finV_ok rfl nd__law_numbers [("each", 10)] (di_val (d_var 7)) (blkOk_by (by kernel_rfl)) (by decide) (fun _ _ _ _ _ => dg_name nd__law_numbers) (fun _ _ _ _ _ => dts_nil) (fun _ _ _ _ _ => d_tup (da_cons (d_var 10) (da_cons (d_int) (da_nil))))) (da_cons (d_bin od_add (d_bin od_add (d_sl (d_var 3) (do_none) (do_some (d_var 8))) (d_lst (da_cons (d_tup (da_cons (d_int) (da_cons (d_int) (da_nil)))) (da_nil)))) (d_sl (d_var 3) (do_some (d_bin od_add (d_var 8) (d_int))) (do_none))) (da_nil)))))
      (db_one (ds_asg (d_call ((ok__law_plus T).mono (by omega)) hr (da_cons (d_call ((ok__law_times T).mono (by omega)) hr (da_cons (d_var 9) (da_cons (d_call ((ok__law_ratio T).mono (by omega)) hr (da_cons (d_neg (d_int)) (da_cons (d_ix hu (d_var 7) (d_var 8)) (da_nil)))) (da_nil)))) (da_cons (d_call ((ok__law_one T).mono (by omega)) hr (da_cons (d_var 0) (da_cons (d_tup (da_cons (d_tup (da_cons (d_int) (da_cons (d_int) (da_nil)))) (da_cons (d_tup (da_cons (d_int) (da_cons (d_int) (da_nil)))) (da_cons (d_tup (da_cons (d_int) (da_cons (d_int) (da_nil)))) (da_cons (d_tup (da_cons (d_neg (d_int)) (da_cons (d_int) (da_nil)))) (da_nil)))))) (da_nil)))) (da_nil)))) (dg_sub hu (d_var 3) (d_var 8)))))))
      (db_nil))
      (db_one (ds_ret (d_callTy cal_tuple T.m_tuple (da_cons (d_var 3) (da_nil)))))))
theorem fo__law_numbers (T : Tb P w K mg) {f : Addr} {fd : FuncData} (F : FunD K "_law_numbers" "_law_numbers" (defArgs (top 52)) (defBody (top 52)) (defScope (top 52)) [] [] f fd) : FnOk P w K mg base (L2.CX P w) 4 f fd ["pool", "kink", "many"] (spOf K F__law_numbers) :=
  fn_ok F sc__law_numbers fun hx cdv A outer s H E hr => db__law_numbers T hx cdv A outer s H E f hr
theorem ok__law_numbers (T : Tb P w K mg) : Fn P w K mg base "_law_numbers" 4 ["pool", "kink", "many"] F__law_numbers := by
  obtain ⟨f, fd, F, hm⟩ := T.f__law_numbers
  exact ⟨f, fd, hm, F.kp, F.bindsN fun _ _ _ _ _ _ us hl => match us, hl with | [_, _, _], _ => rfl, fo__law_numbers T F⟩
abbrev N__law_reordered : List Str := ["pool", "kink", "order", "waits", "lap", "k"]
theorem nd__law_reordered : (N__law_reordered).Nodup := by decide +kernel
theorem sc__law_reordered : FnScope N__law_reordered ["pool", "kink"] (defScope (top 53)) := ⟨rfl, rfl, rfl, by decide +kernel, rfl, by decide +kernel, by decide +kernel⟩
theorem db__law_reordered (T : Tb P w K mg) (hx : Hx) (cdv : Value) (A : Around) (outer : List Env) (s : Shared) (H : Hp) (E : XK) (f : Addr) (hr : Room 1 (A.deeper (envOfC "_law_reordered" (defScope (top 53)) s.heap.objs.size f cdv))) : DB (cxF P w K mg base N__law_reordered "_law_reordered" (defScope (top 53)) f cdv A outer s H E) hx (defBody (top 53)) b__law_reordered := by
  have hu : (A.deeper (envOfC "_law_reordered" (defScope (top 53)) s.heap.objs.size f cdv)).units + 65 < cLine := by have := hr.un; omega
  have hu64 : (A.deeper (envOfC "_law_reordered" (defScope (top 53)) s.heap.objs.size f cdv)).units + 64 < cLine := by have := hr.un; omega
  exact db_cons (ds_asgT rfl (da_cons (d_lstL (da_nil)) (da_cons (d_lstL (da_cons (d_int) (da_nil))) (da_nil))) (dgs_cons (dg_name nd__law_reordered) (dgs_cons (dg_name nd__law_reordered) (dgs_nil))))
      (db_cons (ds_for (passes_of rfl) rfl (di_rng1 T.m_range (da_cons (d_callB cal_len T.m_len (da_cons (d_var 1) (da_nil))) (da_nil))) (dg_name nd__law_reordered)
      (db_cons (ds_set nd__law_reordered (d_popAt (d_var 3) (d_call ((ok__law_take T).mono (by omega)) hr (da_cons (d_var 0) (da_cons (d_callB cal_len T.m_len (da_cons (d_var 3) (da_nil))) (da_nil))))))
      (db_cons (ds_expr (d_app (d_var 2) (d_var 5)))
      (db_one (ds_set nd__law_reordered (d_bin od_catL (d_var 3) (d_if (dt_cmp (od_eq hu64) (d_ix hu (d_ix hu (d_var 1) (d_var 5)) (d_int)) (d_str)) (d_callTy cal_list T.m_list (da_cons (d_sl (d_ix hu (d_var 1) (d_var 5)) (do_some (d_int)) (do_none)) (da_nil))) (d_lst (da_nil)))))))))
      (db_one (ds_ret (d_callTy cal_tuple T.m_tuple (da_cons (d_lcG finV_ok rfl nd__law_reordered [("k", 5)] (di_val (d_var 2)) (blkOk_by (by kernel_rfl)) (by decide) (fun _ _ _ _ _ => dg_name nd__law_reordered) (fun _ _ _ _ _ => dts_nil) (fun _ _ _ _ _ => d_if (dt_cmp (od_eq hu64) (d_ix hu (d_ix hu (d_var 1) (d_var 5)) (d_int)) (d_str)) (d_ix hu (d_var 1) (d_var 5)) (d_bin od_add (d_sl (d_ix hu (d_var 1) (d_var 5)) (do_none) (do_some (d_int))) (d_tup (da_cons (d_index (d_var 2) (d_ix hu (d_ix hu (d_var 1) (d_var 5)) (d_int))) (da_cons (d_index (d_var 2) (d_ix hu (d_ix hu (d_var 1) (d_var 5)) (d_int))) (da_nil))))))) (da_nil))))))
theorem fo__law_reordered (T : Tb P w K mg) {f : Addr} {fd : FuncData} (F : FunD K "_law_reordered" "_law_reordered" (defArgs (top 53)) (defBody (top 53)) (defScope (top 53)) [] [] f fd) : FnOk P w K mg base (L2.CX P w) 2 f fd ["pool", "kink"] (spOf K F__law_reordered) :=
  fn_ok F sc__law_reordered fun hx cdv A outer s H E hr => db__law_reordered T hx cdv A outer s H E f hr
theorem ok__law_reordered (T : Tb P w K mg) : Fn P w K mg base "_law_reordered" 2 ["pool", "kink"] F__law_reordered := by
  obtain ⟨f, fd, F, hm⟩ := T.f__law_reordered
  exact ⟨f, fd, hm, F.kp, F.bindsN fun _ _ _ _ _ _ us hl => match us, hl with | [_, _], _ => rfl, fo__law_reordered T F⟩
abbrev N__law_shifted : List Str := ["kink", "by", "node"]
theorem nd__law_shifted : (N__law_shifted).Nodup := by decide +kernel
theorem sc__law_shifted : FnScope N__law_shifted ["kink", "by"] (defScope (top 54)) := ⟨rfl, rfl, rfl, by decide +kernel, rfl, by decide +kernel, by decide +kernel⟩
theorem db__law_shifted (T : Tb P w K mg) (hx : Hx) (cdv : Value) (A : Around) (outer : List Env) (s : Shared) (H : Hp) (E : XK) (f : Addr) (hr : Room 0 (A.deeper (envOfC "_law_shifted" (defScope (top 54)) s.heap.objs.size f cdv))) : DB (cxF P w K mg base N__law_shifted "_law_shifted" (defScope (top 54)) f cdv A outer s H E) hx (defBody (top 54)) b__law_shifted := by
  have hu : (A.deeper (envOfC "_law_shifted" (defScope (top 54)) s.heap.objs.size f cdv)).units + 65 < cLine := by have := hr.un; omega
  have hu64 : (A.deeper (envOfC "_law_shifted" (defScope (top 54)) s.heap.objs.size f cdv)).units + 64 < cLine := by have := hr.un; omega
  exact db_one (ds_ret (d_callTy cal_tuple T.m_tuple (da_cons (d_lcG finV_ok rfl nd__law_shifted [("node", 2)] (di_val (d_var 0)) (blkOk_by (by kernel_rfl)) (by decide) (fun _ _ _ _ _ => dg_name nd__law_shifted) (fun _ _ _ _ _ => dts_nil) (fun _ _ _ _ _ => d_if (dt_cmp (od_eq hu64) (d_ix hu (d_var 2) (d_int)) (d_str)) (d_var 2) (d_bin od_add (d_sl (d_var 2) (do_none) (do_some (d_int))) (d_tup (da_cons (d_bin od_add (d_ix hu (d_var 2) (d_int)) (d_var 1)) (da_cons (d_bin od_add (d_ix hu (d_var 2) (d_int)) (d_var 1)) (da_nil))))))) (da_nil))))
theorem fo__law_shifted (T : Tb P w K mg) {f : Addr} {fd : FuncData} (F : FunD K "_law_shifted" "_law_shifted" (defArgs (top 54)) (defBody (top 54)) (defScope (top 54)) [] [] f fd) : FnOk P w K mg base (L2.CX P w) 1 f fd ["kink", "by"] (spOf K F__law_shifted) :=
  fn_ok F sc__law_shifted fun hx cdv A outer s H E hr => db__law_shifted T hx cdv A outer s H E f hr
theorem ok__law_shifted (T : Tb P w K mg) : Fn P w K mg base "_law_shifted" 1 ["kink", "by"] F__law_shifted := by
  obtain ⟨f, fd, F, hm⟩ := T.f__law_shifted
  exact ⟨f, fd, hm, F.kp, F.bindsN fun _ _ _ _ _ _ us hl => match us, hl with | [_, _], _ => rfl, fo__law_shifted T F⟩
abbrev N__law_right : List Str := ["pool", "many", "kink", "mixed", "size", "twin", "lap", "numbers", "due", "told", "form", "turned", "each", "is_edge"]
theorem nd__law_right : (N__law_right).Nodup := by decide +kernel
theorem sc__law_right : FnScope N__law_right ["pool"] (defScope (top 55)) := ⟨rfl, rfl, rfl, by decide +kernel, rfl, by decide +kernel, by decide +kernel⟩
theorem db__law_right (T : Tb P w K mg) (hx : Hx) (cdv : Value) (A : Around) (outer : List Env) (s : Shared) (H : Hp) (E : XK) (f : Addr) (hr : Room 9 (A.deeper (envOfC "_law_right" (defScope (top 55)) s.heap.objs.size f cdv))) : DB (cxF P w K mg base N__law_right "_law_right" (defScope (top 55)) f cdv A outer s H E) hx (defBody (top 55)) b__law_right := by
  have hu : (A.deeper (envOfC "_law_right" (defScope (top 55)) s.heap.objs.size f cdv)).units + 65 < cLine := by have := hr.un; omega
  have hu64 : (A.deeper (envOfC "_law_right" (defScope (top 55)) s.heap.objs.size f cdv)).units + 64 < cLine := by have := hr.un; omega
  exact db_cons (ds_set nd__law_right (d_call ((ok__law_take T).mono (by omega)) hr (da_cons (d_var 0) (da_cons (d_int) (da_nil)))))
      (db_cons (ds_set nd__law_right (d_call ((ok__law_any_kink T).mono (by omega)) hr (da_cons (d_var 0) (da_cons (d_var 1) (da_cons (d_call ((ok__law_take T).mono (by omega)) hr (da_cons (d_var 0) (da_cons (d_int) (da_nil)))) (da_nil))))))
      (db_cons (ds_par rfl nd__law_right (da_cons (d_call ((ok__law_reordered T).mono (by omega)) hr (da_cons (d_var 0) (da_cons (d_var 2) (da_nil)))) (da_cons (d_callB cal_len T.m_len (da_cons (d_var 2) (da_nil))) (da_nil))))
      (db_cons (ds_set nd__law_right (d_if (dt_cmp od_gt (d_var 1) (d_int)) (d_bin od_add (d_bin od_add (d_tup (da_cons (d_tup (da_cons (d_str) (da_cons (d_call ((ok__law_any_form T).mono (by omega)) hr (da_cons (d_var 0) (da_cons (d_var 1) (da_nil)))) (da_cons (d_int) (da_cons (d_bin od_add (d_int) (d_var 4)) (da_nil)))))) (da_nil))) (d_call ((ok__law_shifted T).mono (by omega)) hr (da_cons (d_var 2) (da_cons (d_int) (da_nil))))) (d_call ((ok__law_shifted T).mono (by omega)) hr (da_cons (d_var 3) (da_cons (d_bin od_add (d_int) (d_var 4)) (da_nil))))) (d_var 2)))
      (db_cons (ds_for (passes_of rfl) rfl (di_rng1 T.m_range (da_cons (d_int) (da_nil))) (dg_name nd__law_right)
      (db_cons (ds_set nd__law_right (d_call ((ok__law_numbers T).mono (by omega)) hr (da_cons (d_var 0) (da_cons (d_var 2) (da_cons (d_var 1) (da_nil))))))
      (db_cons (ds_set nd__law_right (d_call ((ok__law_kink_at T).mono (by omega)) hr (da_cons (d_var 2) (da_cons (d_var 7) (da_nil)))))
      (db_cons (ds_set nd__law_right (d_if (dt_cmp (od_eq hu64) (d_call ((ok__law_take T).mono (by omega)) hr (da_cons (d_var 0) (da_cons (d_int) (da_nil)))) (d_int)) (d_call ((ok_kink_at T).mono (by omega)) hr (da_cons (d_var 2) (da_cons (d_var 1) (da_cons (d_var 7) (da_nil))))) (d_callKw0 ((kw_kink_at_0_some_many_kink T).mono (by omega)) hr (dk_cons (d_var 7) (dk_cons (d_var 1) (dk_cons (d_var 2) (dk_nil)))))))
      (db_cons (ds_if (dt_not (dt_tru (d_call ((ok__law_alike T).mono (by omega)) hr (da_cons (d_tup (da_cons (d_var 9) (da_cons (d_call ((ok_kink_at T).mono (by omega)) hr (da_cons (d_var 3) (da_cons (d_var 1) (da_cons (d_var 7) (da_nil))))) (da_cons (d_call ((ok_kink_at T).mono (by omega)) hr (da_cons (d_var 5) (da_cons (d_var 1) (da_cons (d_var 7) (da_nil))))) (da_nil))))) (da_cons (d_bin od_mulT (d_tup (da_cons (d_var 8) (da_nil))) (d_int)) (da_nil))))))
      (db_one (ds_ret (d_bl)))
      (db_nil))
      (db_one (ds_if (dt_cmp (od_eq hu64) (d_ix hu (d_ix hu (d_var 2) (d_int)) (d_int)) (d_str))
      (db_cons (ds_set nd__law_right (d_ix hu (d_ix hu (d_var 2) (d_int)) (d_int)))
      (db_cons (ds_set nd__law_right (d_bin od_add (d_tup (da_cons (d_tup (da_cons (d_str) (da_cons (d_callTy cal_tuple T.m_tuple (da_cons (d_lcG finV_ok rfl nd__law_right [("each", 12)] (di_val (d_var 10)) (blkOk_by (by kernel_rfl)) (by decide) (fun _ _ _ _ _ => dg_name nd__law_right) (fun _ _ _ _ _ => dts_nil) (fun _ _ _ _ _ => d_bin od_sub (d_int) (d_var 12))) (da_nil))) (da_cons (d_ix hu (d_ix hu (d_var 2) (d_int)) (d_int)) (da_cons (d_ix hu (d_ix hu (d_var 2) (d_int)) (d_int)) (da_nil)))))) (da_nil))) (d_sl (d_var 2) (do_some (d_int)) (do_none))))
      (db_cons (ds_set nd__law_right (d_cmp (od_eq hu64) (d_call ((ok__law_line_at T).mono (by omega)) hr (da_cons (d_lcG finV_ok rfl nd__law_right [("each", 12)] (di_val (d_var 10)) (blkOk_by (by kernel_rfl)) (by decide) (fun _ _ _ _ _ => dg_name nd__law_right) (fun _ _ _ _ _ => dts_nil) (fun _ _ _ _ _ => d_tup (da_cons (d_var 12) (da_cons (d_int) (da_nil))))) (da_cons (d_var 7) (da_nil)))) (d_tup (da_cons (d_int) (da_cons (d_int) (da_nil))))))
      (db_one (ds_if (DW.dt (dw_or (dt_cmp od_isnot (d_call ((ok_is_kink T).mono (by omega)) hr (da_cons (d_var 11) (da_cons (d_var 1) (da_nil)))) (d_bl)) (dw_or (dt_cmp (od_ne hu64) (d_call ((ok_kink_at T).mono (by omega)) hr (da_cons (d_var 11) (da_cons (d_var 1) (da_cons (d_var 7) (da_nil))))) (d_call ((ok__law_kink_at T).mono (by omega)) hr (da_cons (d_var 11) (da_cons (d_var 7) (da_nil))))) (dw_or1 (DW.dt (dw_and (dt_not (dt_tru (d_var 13))) (dw_and1 (dt_cmp (od_ne hu64) (d_call ((ok__law_kink_at T).mono (by omega)) hr (da_cons (d_var 11) (da_cons (d_var 7) (da_nil)))) (d_var 8)))))))))
      (db_one (ds_ret (d_bl)))
      (db_nil))))))
      (db_nil))))))))
      (db_one (ds_ret (d_and (d_cmp od_is (d_call ((ok_is_kink T).mono (by omega)) hr (da_cons (d_var 3) (da_cons (d_var 1) (da_nil)))) (d_bl)) (d_one (d_cmp od_is (d_call ((ok_is_kink T).mono (by omega)) hr (da_cons (d_var 5) (da_cons (d_var 1) (da_nil)))) (d_bl))))))))))
theorem fo__law_right (T : Tb P w K mg) {f : Addr} {fd : FuncData} (F : FunD K "_law_right" "_law_right" (defArgs (top 55)) (defBody (top 55)) (defScope (top 55)) [] [] f fd) : FnOk P w K mg base (L2.CX P w) 10 f fd ["pool"] (spOf K F__law_right) :=
  fn_ok F sc__law_right fun hx cdv A outer s H E hr => db__law_right T hx cdv A outer s H E f hr
theorem ok__law_right (T : Tb P w K mg) : Fn P w K mg base "_law_right" 10 ["pool"] F__law_right := by
  obtain ⟨f, fd, F, hm⟩ := T.f__law_right
  exact ⟨f, fd, hm, F.kp, F.bindsN fun _ _ _ _ _ _ us hl => match us, hl with | [_], _ => rfl, fo__law_right T F⟩
abbrev N_law : List Str := ["script", "turn", "fold"]
theorem nd_law : (N_law).Nodup := by decide +kernel
theorem sc_law : FnScope N_law ["script"] (defScope (top 56)) := ⟨rfl, rfl, rfl, by decide +kernel, rfl, by decide +kernel, by decide +kernel⟩
theorem db_law (T : Tb P w K mg) (hx : Hx) (cdv : Value) (A : Around) (outer : List Env) (s : Shared) (H : Hp) (E : XK) (f : Addr) (hr : Room 10 (A.deeper (envOfC "law" (defScope (top 56)) s.heap.objs.size f cdv))) : DB (cxF P w K mg base N_law "law" (defScope (top 56)) f cdv A outer s H E) hx (defBody (top 56)) b_law := by
  have hu : (A.deeper (envOfC "law" (defScope (top 56)) s.heap.objs.size f cdv)).units + 65 < cLine := by have := hr.un; omega
  have hu64 : (A.deeper (envOfC "law" (defScope (top 56)) s.heap.objs.size f cdv)).units + 64 < cLine := by have := hr.un; omega
  exact db_cons (ds_for (passes_of rfl) rfl (di_rng1 T.m_range (da_cons (d_callB (cal_min rfl) T.m_min (da_cons (d_int) (da_cons (d_callB (cal_max rfl) T.m_max (da_cons (d_int) (da_cons (d_callB cal_len T.m_len (da_cons (d_var 0) (da_nil))) (da_nil)))) (da_nil)))) (da_nil))) (dg_name nd_law)
      (db_one (ds_if (dt_not (dt_tru (d_call ((ok__law_right T).mono (by omega)) hr (da_cons (d_call ((ok__law_pool T).mono (by omega)) hr (da_cons (d_var 0) (da_cons (d_var 1) (da_nil)))) (da_nil)))))
      (db_one (ds_ret (d_bl)))
      (db_nil))))
      (db_cons (ds_set nd_law (d_tup (da_cons (d_tup (da_cons (d_str) (da_cons (d_tup (da_cons (d_int) (da_cons (d_neg (d_int)) (da_nil)))) (da_cons (d_int) (da_cons (d_int) (da_nil)))))) (da_cons (d_tup (da_cons (d_str) (da_cons (d_tup (da_cons (d_tup (da_cons (d_int) (da_cons (d_int) (da_nil)))) (da_cons (d_tup (da_cons (d_int) (da_cons (d_int) (da_nil)))) (da_nil)))) (da_nil)))) (da_cons (d_tup (da_cons (d_str) (da_cons (d_tup (da_cons (d_tup (da_cons (d_int) (da_cons (d_int) (da_nil)))) (da_cons (d_tup (da_cons (d_int) (da_cons (d_int) (da_nil)))) (da_nil)))) (da_nil)))) (da_nil))))))
      (db_one (ds_ret (d_cmp (od_eq hu64) (d_lst (da_cons (d_call ((ok_kink_at T).mono (by omega)) hr (da_cons (d_var 2) (da_cons (d_int) (da_cons (d_tup (da_cons (d_tup (da_cons (d_int) (da_cons (d_int) (da_nil)))) (da_nil))) (da_nil))))) (da_cons (d_call ((ok_kink_at T).mono (by omega)) hr (da_cons (d_var 2) (da_cons (d_int) (da_cons (d_tup (da_cons (d_tup (da_cons (d_int) (da_cons (d_int) (da_nil)))) (da_nil))) (da_nil))))) (da_cons (d_call ((ok_kink_at T).mono (by omega)) hr (da_cons (d_tup (da_cons (d_tup (da_cons (d_str) (da_cons (d_tup (da_cons (d_tup (da_cons (d_int) (da_cons (d_int) (da_nil)))) (da_nil))) (da_nil)))) (da_nil))) (da_cons (d_int) (da_cons (d_tup (da_nil)) (da_nil))))) (da_nil))))) (d_lst (da_cons (d_tup (da_cons (d_int) (da_cons (d_int) (da_nil)))) (da_cons (d_tup (da_cons (d_int) (da_cons (d_int) (da_nil)))) (da_cons (d_tup (da_cons (d_int) (da_cons (d_int) (da_nil)))) (da_nil)))))))))
theorem fo_law (T : Tb P w K mg) {f : Addr} {fd : FuncData} (F : FunD K "law" "law" (defArgs (top 56)) (defBody (top 56)) (defScope (top 56)) [] [] f fd) : FnOk P w K mg base (L2.CX P w) 11 f fd ["script"] (spOf K F_law) :=
  fn_ok F sc_law fun hx cdv A outer s H E hr => db_law T hx cdv A outer s H E f hr
theorem ok_law (T : Tb P w K mg) : Fn P w K mg base "law" 11 ["script"] F_law := by
  obtain ⟨f, fd, F, hm⟩ := T.f_law
  exact ⟨f, fd, hm, F.kp, F.bindsN fun _ _ _ _ _ _ us hl => match us, hl with | [_], _ => rfl, fo_law T F⟩
end
def names0 : List PySem.Str := ["DuelError", "NotLawful", "NotAKink", "InvalidNumber", "is_whole", "is_between", "is_tuple_of", "fraction", "is_fraction_by", "whole", "sum_of", "times", "NOUGHT", "worth_of", "is_constant", "common_of", "line_of_form", "form_at", "CUT", "LINE"]
def names1 : List PySem.Str := ["MOST_NODES", "is_line", "is_form", "is_node", "ways_told", "is_kink_by", "line_at", "kink_worth", "MOST_NUMBERS", "check_many", "check_kink", "is_kink", "kink_at", "_law_pool", "_law_take", "_law_alike", "_law_one", "_law_ratio", "_law_plus", "_law_times"]
def names2 : List PySem.Str := ["_law_common", "_law_any_form", "_law_any_kink", "_law_line_at", "_law_kink_at", "_law_numbers", "_law_reordered", "_law_shifted", "_law_right"]
def names : List PySem.Str := names0 ++ names1 ++ names2
def dd0 : He.DefD := ⟨("is_whole", none), "is_whole", "is_whole", defArgs (top 7), defBody (top 7), defScope (top 7), [], []⟩
def dd1 : He.DefD := ⟨("is_between", none), "is_between", "is_between", defArgs (top 8), defBody (top 8), defScope (top 8), [], []⟩
def dd2 : He.DefD := ⟨("is_tuple_of", none), "is_tuple_of", "is_tuple_of", defArgs (top 9), defBody (top 9), defScope (top 9), [], []⟩
def dd3 : He.DefD := ⟨("fraction", none), "fraction", "fraction", defArgs (top 10), defBody (top 10), defScope (top 10), [], []⟩
def dd4 : He.DefD := ⟨("is_fraction_by", none), "is_fraction_by", "is_fraction_by", defArgs (top 11), defBody (top 11), defScope (top 11), [], []⟩
def dd5 : He.DefD := ⟨("whole", none), "whole", "whole", defArgs (top 12), defBody (top 12), defScope (top 12), [], []⟩
def dd6 : He.DefD := ⟨("sum_of", none), "sum_of", "sum_of", defArgs (top 13), defBody (top 13), defScope (top 13), [], []⟩
def dd7 : He.DefD := ⟨("times", none), "times", "times", defArgs (top 14), defBody (top 14), defScope (top 14), [], []⟩
def dd8 : He.DefD := ⟨("worth_of", none), "worth_of", "worth_of", defArgs (top 17), defBody (top 17), defScope (top 17), [], []⟩
def dd9 : He.DefD := ⟨("is_constant", none), "is_constant", "is_constant", defArgs (top 18), defBody (top 18), defScope (top 18), [], []⟩
def dd10 : He.DefD := ⟨("common_of", none), "common_of", "common_of", defArgs (top 19), defBody (top 19), defScope (top 19), [], []⟩
def dd11 : He.DefD := ⟨("line_of_form", none), "line_of_form", "line_of_form", defArgs (top 20), defBody (top 20), defScope (top 20), [], []⟩
def dd12 : He.DefD := ⟨("form_at", none), "form_at", "form_at", defArgs (top 21), defBody (top 21), defScope (top 21), [], []⟩
def dd13 : He.DefD := ⟨("is_line", none), "is_line", "is_line", defArgs (top 26), defBody (top 26), defScope (top 26), [], []⟩
def dd14 : He.DefD := ⟨("is_form", none), "is_form", "is_form", defArgs (top 27), defBody (top 27), defScope (top 27), [], []⟩
def dd15 : He.DefD := ⟨("is_node", none), "is_node", "is_node", defArgs (top 28), defBody (top 28), defScope (top 28), [], []⟩
def dd16 : He.DefD := ⟨("ways_told", none), "ways_told", "ways_told", defArgs (top 29), defBody (top 29), defScope (top 29), [], []⟩
def dd17 : He.DefD := ⟨("is_kink_by", none), "is_kink_by", "is_kink_by", defArgs (top 30), defBody (top 30), defScope (top 30), [], []⟩
def dd18 : He.DefD := ⟨("line_at", none), "line_at", "line_at", defArgs (top 31), defBody (top 31), defScope (top 31), [], []⟩
def dd19 : He.DefD := ⟨("kink_worth", none), "kink_worth", "kink_worth", defArgs (top 32), defBody (top 32), defScope (top 32), [], []⟩
def dd20 : He.DefD := ⟨("check_many", none), "check_many", "check_many", defArgs (top 35), defBody (top 35), defScope (top 35), [], []⟩
def dd21 : He.DefD := ⟨("check_kink", none), "check_kink", "check_kink", defArgs (top 36), defBody (top 36), defScope (top 36), [], []⟩
def dd22 : He.DefD := ⟨("is_kink", none), "is_kink", "is_kink", defArgs (top 37), defBody (top 37), defScope (top 37), [], []⟩
def dd23 : He.DefD := ⟨("kink_at", none), "kink_at", "kink_at", defArgs (top 38), defBody (top 38), defScope (top 38), [], []⟩
def dd24 : He.DefD := ⟨("_law_pool", none), "_law_pool", "_law_pool", defArgs (top 40), defBody (top 40), defScope (top 40), [], []⟩
def dd25 : He.DefD := ⟨("_law_take", none), "_law_take", "_law_take", defArgs (top 41), defBody (top 41), defScope (top 41), [], []⟩
def dd26 : He.DefD := ⟨("_law_alike", none), "_law_alike", "_law_alike", defArgs (top 42), defBody (top 42), defScope (top 42), [], []⟩
def dd27 : He.DefD := ⟨("_law_one", none), "_law_one", "_law_one", defArgs (top 43), defBody (top 43), defScope (top 43), [], []⟩
def dd28 : He.DefD := ⟨("_law_ratio", none), "_law_ratio", "_law_ratio", defArgs (top 44), defBody (top 44), defScope (top 44), [], []⟩
def dd29 : He.DefD := ⟨("_law_plus", none), "_law_plus", "_law_plus", defArgs (top 45), defBody (top 45), defScope (top 45), [], []⟩
def dd30 : He.DefD := ⟨("_law_times", none), "_law_times", "_law_times", defArgs (top 46), defBody (top 46), defScope (top 46), [], []⟩
def dd31 : He.DefD := ⟨("_law_common", none), "_law_common", "_law_common", defArgs (top 47), defBody (top 47), defScope (top 47), [], []⟩
def dd32 : He.DefD := ⟨("_law_any_form", none), "_law_any_form", "_law_any_form", defArgs (top 48), defBody (top 48), defScope (top 48), [], []⟩
def dd33 : He.DefD := ⟨("_law_any_kink", none), "_law_any_kink", "_law_any_kink", defArgs (top 49), defBody (top 49), defScope (top 49), [], []⟩
def dd34 : He.DefD := ⟨("_law_line_at", none), "_law_line_at", "_law_line_at", defArgs (top 50), defBody (top 50), defScope (top 50), [], []⟩
def dd35 : He.DefD := ⟨("_law_kink_at", none), "_law_kink_at", "_law_kink_at", defArgs (top 51), defBody (top 51), defScope (top 51), [], []⟩
def dd36 : He.DefD := ⟨("_law_numbers", none), "_law_numbers", "_law_numbers", defArgs (top 52), defBody (top 52), defScope (top 52), [], []⟩
def dd37 : He.DefD := ⟨("_law_reordered", none), "_law_reordered", "_law_reordered", defArgs (top 53), defBody (top 53), defScope (top 53), [], []⟩
def dd38 : He.DefD := ⟨("_law_shifted", none), "_law_shifted", "_law_shifted", defArgs (top 54), defBody (top 54), defScope (top 54), [], []⟩
def dd39 : He.DefD := ⟨("_law_right", none), "_law_right", "_law_right", defArgs (top 55), defBody (top 55), defScope (top 55), [], []⟩
def dd40 : He.DefD := ⟨("law", none), "law", "law", defArgs (top 56), defBody (top 56), defScope (top 56), [], []⟩
def fn : List He.DefD := [dd0, dd1, dd2, dd3, dd4, dd5, dd6, dd7, dd8, dd9, dd10, dd11, dd12, dd13, dd14, dd15, dd16, dd17, dd18, dd19, dd20, dd21, dd22, dd23, dd24, dd25, dd26, dd27, dd28, dd29, dd30, dd31, dd32, dd33, dd34, dd35, dd36, dd37, dd38, dd39, dd40]
def i1s : List (Str × Str) := []
def i0s : List Str := []
def exC (K : PySem.W.Frag) : Bool := i1s.all (ini1B K) && (i0s.all (ini0B K) && ((true && true) && (true)))
def fa : List He.Fa := [.glo "is_whole", .glo "is_between", .glo "is_tuple_of", .glo "fraction", .glo "is_fraction_by", .glo "whole", .glo "sum_of", .glo "times", .glo "worth_of", .glo "is_constant", .glo "common_of", .glo "line_of_form", .glo "form_at", .glo "is_line", .glo "is_form", .glo "is_node", .glo "ways_told", .glo "is_kink_by", .glo "line_at", .glo "kink_worth", .glo "check_many", .glo "check_kink", .glo "is_kink", .glo "kink_at", .glo "_law_pool", .glo "_law_take", .glo "_law_alike", .glo "_law_one", .glo "_law_ratio", .glo "_law_plus", .glo "_law_times", .glo "_law_common", .glo "_law_any_form", .glo "_law_any_kink", .glo "_law_line_at", .glo "_law_kink_at", .glo "_law_numbers", .glo "_law_reordered", .glo "_law_shifted", .glo "_law_right", .glo "law", .free "abs", .free "all", .free "bool", .free "dict", .free "enumerate", .free "int", .free "isinstance", .free "len", .free "list", .free "max", .free "min", .free "range", .free "sorted", .free "str", .free "tuple", .free "zip"]
def kons : List (PySem.Str × D) := [("CUT", K_CUT), ("LINE", K_LINE), ("MOST_NODES", K_MOST_NODES), ("MOST_NUMBERS", K_MOST_NUMBERS), ("NOUGHT", K_NOUGHT)]
def gcds : List PySem.Str := ["gcd"]
def exB (K : PySem.W.Frag) : Bool := (kons.all (konB K) && gcds.all (gcdB K)) && exC K
abbrev R : PySem.W.OpenRow := PySem.W.OpenLaw.row PySem.Challenge.rw_openduels_k15_main_whole_worths_of_kinks
abbrev hk : PySem.W.Hook := He.hookX 6 fa fn [] [] exB
def ob (s : PySem.W.SharedT) : He.AlX := He.obsX 6 fa fn [] [] exB (HandSHeadRun.getT s)
theorem ob_eq (s : PySem.W.SharedT) : ob s = hk.obs s.abs := He.obsX_eq (HandSHeadRun.getT_eq s)
theorem run (w : World) : HandSHeadRun.RunEqI R (PySem.W.view R.prog [0, 56]) hk ob 60000 names w := by
  unfold HandSHeadRun.RunEqI
  kernel_rfl
theorem facts {P : Program} {w : World} {K : PySem.W.Frag} {h : Heap} {mg : Str → Option Value} (X : K.In h) (G : h.Ns mainGlobals mg) (c : He.SaysX fa fn [] [] exB w h K) : Tb P w K mg := by
  have ex : exB K = true := c.more
  unfold exB at ex
  obtain ⟨ex, exc⟩ := He.ba ex
  obtain ⟨exc1, exc⟩ := He.ba exc
  obtain ⟨exc0, exc⟩ := He.ba exc
  obtain ⟨exc2, exc3⟩ := He.ba exc
  rw [Bool.and_eq_true] at ex
  have in1 : ∀ (i : Nat) (p : Str × Str), i1s[i]? = some p → IniF K mg p.1 p.2 := fun i p e => ini1B_ok X G (List.all_eq_true.mp exc1 p (List.mem_of_getElem? e))
  have in0 : ∀ (i : Nat) (C : Str), i0s[i]? = some C → Ini0 P w K mg C := fun i p e => ini0B_ok X G (List.all_eq_true.mp exc0 p (List.mem_of_getElem? e))
  have kon : ∀ (i : Nat) (p : Str × D), kons[i]? = some p → ∃ u v, mg p.1 = some u ∧ RelV v u ∧ ∀ lv H, RP K lv H p.2 v := fun i p e => konB_ok X G (List.all_eq_true.mp ex.1 p (List.mem_of_getElem? e))
  have gcd : ∀ (i : Nat) (x : Str), gcds[i]? = some x → mg x = some (.builtin "math.gcd") := fun i x e => gcdB_ok X G (List.all_eq_true.mp ex.2 x (List.mem_of_getElem? e))
  exact {
    f_is_whole := by
      obtain ⟨fd, F⟩ := c.t.d.def_ 0 (d := dd0) rfl
      exact ⟨_, fd, F, He.glo_ok X G (c.t.d.fact 0 (f := .glo "is_whole") rfl)⟩
    f_is_between := by
      obtain ⟨fd, F⟩ := c.t.d.def_ 1 (d := dd1) rfl
      exact ⟨_, fd, F, He.glo_ok X G (c.t.d.fact 1 (f := .glo "is_between") rfl)⟩
    f_is_tuple_of := by
      obtain ⟨fd, F⟩ := c.t.d.def_ 2 (d := dd2) rfl
      exact ⟨_, fd, F, He.glo_ok X G (c.t.d.fact 2 (f := .glo "is_tuple_of") rfl)⟩
    f_fraction := by
      obtain ⟨fd, F⟩ := c.t.d.def_ 3 (d := dd3) rfl
      exact ⟨_, fd, F, He.glo_ok X G (c.t.d.fact 3 (f := .glo "fraction") rfl)⟩
    f_is_fraction_by := by
      obtain ⟨fd, F⟩ := c.t.d.def_ 4 (d := dd4) rfl
      exact ⟨_, fd, F, He.glo_ok X G (c.t.d.fact 4 (f := .glo "is_fraction_by") rfl)⟩
    f_whole := by
      obtain ⟨fd, F⟩ := c.t.d.def_ 5 (d := dd5) rfl
      exact ⟨_, fd, F, He.glo_ok X G (c.t.d.fact 5 (f := .glo "whole") rfl)⟩
    f_sum_of := by
      obtain ⟨fd, F⟩ := c.t.d.def_ 6 (d := dd6) rfl
      exact ⟨_, fd, F, He.glo_ok X G (c.t.d.fact 6 (f := .glo "sum_of") rfl)⟩
    f_times := by
      obtain ⟨fd, F⟩ := c.t.d.def_ 7 (d := dd7) rfl
      exact ⟨_, fd, F, He.glo_ok X G (c.t.d.fact 7 (f := .glo "times") rfl)⟩
    f_worth_of := by
      obtain ⟨fd, F⟩ := c.t.d.def_ 8 (d := dd8) rfl
      exact ⟨_, fd, F, He.glo_ok X G (c.t.d.fact 8 (f := .glo "worth_of") rfl)⟩
    f_is_constant := by
      obtain ⟨fd, F⟩ := c.t.d.def_ 9 (d := dd9) rfl
      exact ⟨_, fd, F, He.glo_ok X G (c.t.d.fact 9 (f := .glo "is_constant") rfl)⟩
    f_common_of := by
      obtain ⟨fd, F⟩ := c.t.d.def_ 10 (d := dd10) rfl
      exact ⟨_, fd, F, He.glo_ok X G (c.t.d.fact 10 (f := .glo "common_of") rfl)⟩
    f_line_of_form := by
      obtain ⟨fd, F⟩ := c.t.d.def_ 11 (d := dd11) rfl
      exact ⟨_, fd, F, He.glo_ok X G (c.t.d.fact 11 (f := .glo "line_of_form") rfl)⟩
    f_form_at := by
      obtain ⟨fd, F⟩ := c.t.d.def_ 12 (d := dd12) rfl
      exact ⟨_, fd, F, He.glo_ok X G (c.t.d.fact 12 (f := .glo "form_at") rfl)⟩
    f_is_line := by
      obtain ⟨fd, F⟩ := c.t.d.def_ 13 (d := dd13) rfl
      exact ⟨_, fd, F, He.glo_ok X G (c.t.d.fact 13 (f := .glo "is_line") rfl)⟩
    f_is_form := by
      obtain ⟨fd, F⟩ := c.t.d.def_ 14 (d := dd14) rfl
      exact ⟨_, fd, F, He.glo_ok X G (c.t.d.fact 14 (f := .glo "is_form") rfl)⟩
    f_is_node := by
      obtain ⟨fd, F⟩ := c.t.d.def_ 15 (d := dd15) rfl
      exact ⟨_, fd, F, He.glo_ok X G (c.t.d.fact 15 (f := .glo "is_node") rfl)⟩
    f_ways_told := by
      obtain ⟨fd, F⟩ := c.t.d.def_ 16 (d := dd16) rfl
      exact ⟨_, fd, F, He.glo_ok X G (c.t.d.fact 16 (f := .glo "ways_told") rfl)⟩
    f_is_kink_by := by
      obtain ⟨fd, F⟩ := c.t.d.def_ 17 (d := dd17) rfl
      exact ⟨_, fd, F, He.glo_ok X G (c.t.d.fact 17 (f := .glo "is_kink_by") rfl)⟩
    f_line_at := by
      obtain ⟨fd, F⟩ := c.t.d.def_ 18 (d := dd18) rfl
      exact ⟨_, fd, F, He.glo_ok X G (c.t.d.fact 18 (f := .glo "line_at") rfl)⟩
    f_kink_worth := by
      obtain ⟨fd, F⟩ := c.t.d.def_ 19 (d := dd19) rfl
      exact ⟨_, fd, F, He.glo_ok X G (c.t.d.fact 19 (f := .glo "kink_worth") rfl)⟩
    f_check_many := by
      obtain ⟨fd, F⟩ := c.t.d.def_ 20 (d := dd20) rfl
      exact ⟨_, fd, F, He.glo_ok X G (c.t.d.fact 20 (f := .glo "check_many") rfl)⟩
    f_check_kink := by
      obtain ⟨fd, F⟩ := c.t.d.def_ 21 (d := dd21) rfl
      exact ⟨_, fd, F, He.glo_ok X G (c.t.d.fact 21 (f := .glo "check_kink") rfl)⟩
    f_is_kink := by
      obtain ⟨fd, F⟩ := c.t.d.def_ 22 (d := dd22) rfl
      exact ⟨_, fd, F, He.glo_ok X G (c.t.d.fact 22 (f := .glo "is_kink") rfl)⟩
    f_kink_at := by
      obtain ⟨fd, F⟩ := c.t.d.def_ 23 (d := dd23) rfl
      exact ⟨_, fd, F, He.glo_ok X G (c.t.d.fact 23 (f := .glo "kink_at") rfl)⟩
    f__law_pool := by
      obtain ⟨fd, F⟩ := c.t.d.def_ 24 (d := dd24) rfl
      exact ⟨_, fd, F, He.glo_ok X G (c.t.d.fact 24 (f := .glo "_law_pool") rfl)⟩
    f__law_take := by
      obtain ⟨fd, F⟩ := c.t.d.def_ 25 (d := dd25) rfl
      exact ⟨_, fd, F, He.glo_ok X G (c.t.d.fact 25 (f := .glo "_law_take") rfl)⟩
    f__law_alike := by
      obtain ⟨fd, F⟩ := c.t.d.def_ 26 (d := dd26) rfl
      exact ⟨_, fd, F, He.glo_ok X G (c.t.d.fact 26 (f := .glo "_law_alike") rfl)⟩
    f__law_one := by
      obtain ⟨fd, F⟩ := c.t.d.def_ 27 (d := dd27) rfl
      exact ⟨_, fd, F, He.glo_ok X G (c.t.d.fact 27 (f := .glo "_law_one") rfl)⟩
    f__law_ratio := by
      obtain ⟨fd, F⟩ := c.t.d.def_ 28 (d := dd28) rfl
      exact ⟨_, fd, F, He.glo_ok X G (c.t.d.fact 28 (f := .glo "_law_ratio") rfl)⟩
    f__law_plus := by
      obtain ⟨fd, F⟩ := c.t.d.def_ 29 (d := dd29) rfl
      exact ⟨_, fd, F, He.glo_ok X G (c.t.d.fact 29 (f := .glo "_law_plus") rfl)⟩
    f__law_times := by
      obtain ⟨fd, F⟩ := c.t.d.def_ 30 (d := dd30) rfl
      exact ⟨_, fd, F, He.glo_ok X G (c.t.d.fact 30 (f := .glo "_law_times") rfl)⟩
    f__law_common := by
      obtain ⟨fd, F⟩ := c.t.d.def_ 31 (d := dd31) rfl
      exact ⟨_, fd, F, He.glo_ok X G (c.t.d.fact 31 (f := .glo "_law_common") rfl)⟩
    f__law_any_form := by
      obtain ⟨fd, F⟩ := c.t.d.def_ 32 (d := dd32) rfl
      exact ⟨_, fd, F, He.glo_ok X G (c.t.d.fact 32 (f := .glo "_law_any_form") rfl)⟩
    f__law_any_kink := by
      obtain ⟨fd, F⟩ := c.t.d.def_ 33 (d := dd33) rfl
      exact ⟨_, fd, F, He.glo_ok X G (c.t.d.fact 33 (f := .glo "_law_any_kink") rfl)⟩
    f__law_line_at := by
      obtain ⟨fd, F⟩ := c.t.d.def_ 34 (d := dd34) rfl
      exact ⟨_, fd, F, He.glo_ok X G (c.t.d.fact 34 (f := .glo "_law_line_at") rfl)⟩
    f__law_kink_at := by
      obtain ⟨fd, F⟩ := c.t.d.def_ 35 (d := dd35) rfl
      exact ⟨_, fd, F, He.glo_ok X G (c.t.d.fact 35 (f := .glo "_law_kink_at") rfl)⟩
    f__law_numbers := by
      obtain ⟨fd, F⟩ := c.t.d.def_ 36 (d := dd36) rfl
      exact ⟨_, fd, F, He.glo_ok X G (c.t.d.fact 36 (f := .glo "_law_numbers") rfl)⟩
    f__law_reordered := by
      obtain ⟨fd, F⟩ := c.t.d.def_ 37 (d := dd37) rfl
      exact ⟨_, fd, F, He.glo_ok X G (c.t.d.fact 37 (f := .glo "_law_reordered") rfl)⟩
    f__law_shifted := by
      obtain ⟨fd, F⟩ := c.t.d.def_ 38 (d := dd38) rfl
      exact ⟨_, fd, F, He.glo_ok X G (c.t.d.fact 38 (f := .glo "_law_shifted") rfl)⟩
    f__law_right := by
      obtain ⟨fd, F⟩ := c.t.d.def_ 39 (d := dd39) rfl
      exact ⟨_, fd, F, He.glo_ok X G (c.t.d.fact 39 (f := .glo "_law_right") rfl)⟩
    f_law := by
      obtain ⟨fd, F⟩ := c.t.d.def_ 40 (d := dd40) rfl
      exact ⟨_, fd, F, He.glo_ok X G (c.t.d.fact 40 (f := .glo "law") rfl)⟩
    m_abs := He.free_ok X G (c.t.d.fact 41 (f := .free "abs") rfl)
    m_all := He.free_ok X G (c.t.d.fact 42 (f := .free "all") rfl)
    m_bool := He.free_ok X G (c.t.d.fact 43 (f := .free "bool") rfl)
    m_dict := He.free_ok X G (c.t.d.fact 44 (f := .free "dict") rfl)
    m_enumerate := He.free_ok X G (c.t.d.fact 45 (f := .free "enumerate") rfl)
    m_int := He.free_ok X G (c.t.d.fact 46 (f := .free "int") rfl)
    m_isinstance := He.free_ok X G (c.t.d.fact 47 (f := .free "isinstance") rfl)
    m_len := He.free_ok X G (c.t.d.fact 48 (f := .free "len") rfl)
    m_list := He.free_ok X G (c.t.d.fact 49 (f := .free "list") rfl)
    m_max := He.free_ok X G (c.t.d.fact 50 (f := .free "max") rfl)
    m_min := He.free_ok X G (c.t.d.fact 51 (f := .free "min") rfl)
    m_range := He.free_ok X G (c.t.d.fact 52 (f := .free "range") rfl)
    m_sorted := He.free_ok X G (c.t.d.fact 53 (f := .free "sorted") rfl)
    m_str := He.free_ok X G (c.t.d.fact 54 (f := .free "str") rfl)
    m_tuple := He.free_ok X G (c.t.d.fact 55 (f := .free "tuple") rfl)
    m_zip := He.free_ok X G (c.t.d.fact 56 (f := .free "zip") rfl)
    m_gcd := gcd 0 "gcd" rfl
    k_CUT := kon 0 ("CUT", K_CUT) rfl
    k_LINE := kon 1 ("LINE", K_LINE) rfl
    k_MOST_NODES := kon 2 ("MOST_NODES", K_MOST_NODES) rfl
    k_MOST_NUMBERS := kon 3 ("MOST_NUMBERS", K_MOST_NUMBERS) rfl
    k_NOUGHT := kon 4 ("NOUGHT", K_NOUGHT) rfl
  }
end K15
open PySem PySem.W PySem.Calls PyProof.Rows
theorem PySem.Challenge.close_k15 (hF : ∀ ns : List Int, ns.length ≤ 63 → (∀ z ∈ ns, Builtin.Int.intBits z ≤ 1048576) → ∃ S, K15.F_law [Y.scr ns] [] = .ok (.d (.bl true)) S) : PySem.Challenge.rw_openduels_k15_main_whole_worths_of_kinks.Holds := by
  w_on; o_law
  refine HandSHeadRun.head_imp (r := OpenLaw.row PySem.Challenge.rw_openduels_k15_main_whole_worths_of_kinks) (q := view (OpenLaw.row PySem.Challenge.rw_openduels_k15_main_whole_worths_of_kinks).prog [0, 56]) (H := K15.hk) (ob := K15.ob) (M := 60000) (loose := K15.names) (d := HandSHeadRun.topDef (OpenLaw.row PySem.Challenge.rw_openduels_k15_main_whole_worths_of_kinks).prog 56) (kwd := []) K15.ob_eq
     K15.run (by kernel_rfl) (by kernel_rfl) (by kernel_rfl) (by rfl) (by first | assumption | decide +kernel) (by decide +kernel) ⟨rfl, rfl, rfl, rfl, rfl, by decide +kernel⟩ ?hw ?hc
  case hw => w_witness2
  case hc =>
    refine Y.walk_Y (l := PySem.Challenge.rw_openduels_k15_main_whole_worths_of_kinks) (n := 63) (k := 11) (x := "script") (F := K15.F_law) rfl (by decide) (by kernel_rfl) ⟨rfl, by decide, by decide⟩ ?F hF
    intro w mg fa h YY G hmg0
    obtain ⟨K, KX, c⟩ := YY
    have hmg : mg ("law" : PySem.Str) = some (.ref fa) := by
      have e : (HandSHeadRun.topDef (OpenLaw.row PySem.Challenge.rw_openduels_k15_main_whole_worths_of_kinks).prog 56).name = ("law" : PySem.Str) := by kernel_rfl
      rw [← e]
      exact hmg0
    have T : K15.Tb (PySem.Challenge.rw_openduels_k15_main_whole_worths_of_kinks).prog w K mg := K15.facts KX G c
    obtain ⟨f, fd, F, hm⟩ := T.f_law
    obtain rfl : f = fa := by
      rw [hm] at hmg
      cases hmg
      rfl
    have b := L2.FunD.bindsA (ps := ["script"]) F fun _ _ _ _ _ _ us hl => match us, hl with | [_], _ => rfl
    exact ⟨K, fd, KX, fun s v => b s [v] rfl, fun base _ _ => K15.fo_law T F⟩
end
theorem PySem.Challenge.cw_openduels_k15_main_whole_worths_of_kinks_holds : PySem.Challenge.rw_openduels_k15_main_whole_worths_of_kinks.Holds := by
  exact PySem.Challenge.close_k15 fun ns h1 h2 => K15.law_ok ns h1 h2
