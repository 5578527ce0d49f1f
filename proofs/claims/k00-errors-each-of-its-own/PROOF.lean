import PyProof.Rows.All
import Wide.All
import OpenK.AllK
import Wide.FinOn
import KE.KStateDown
import HandS.Base
import HandS.Call
import HandS.List
import HandS.Comp
import HandS.Ends
import HandS.More
import HandS.Words
import HandS.WordsExc
import HandS.Defaults
import HandS.HeadHook1
import HandS.ExcInit
import HandS.TupAny
import HandS.TupMul
import HandS.Wide
import HandS.WideBits
import HandS.Gcd
import HandS.Exc
import HandS.Text
import HandS.Style
import HandS.Deep
import PyProof.StrBlock2
import HandS.Flow
import HandS.Dict
import HandS.IsInst
import HandS.SortInts
import HandS.Conv
import HandS.WordsDict
import HandS.ExcOwn
import HandS.CallSlots
import HandS.Iter
import HandS.Zip
import KE.GoesEnum
import HandS.MakeKwOnly
import HandS.MapJoin
import HandS.EndBits
import HandS.HeadEnd
import HandS.HeadWalk
import HandS.Head0
import HandS.Head1
import HandS.Head2
import HandS.HeadHook2
import HandS.HeadHook3
import HandS.HeadHook4
import HandS.ExcField
import HandS.ExcIs
import HandS.Small
import PySem.Challenge.RW_openduels_k00_errors_each_of_its_own
set_option Elab.async false
set_option linter.all false
set_option maxRecDepth 100000
section
/-! Y1: deep values, the store, the relation to the abstract heap. -/
namespace Y
open PySem PySem.Spec PyProof.Rows L2

/-- deep values: fls a list that is read alone (the script); gl x what the module's name x stands for; exo an exception held as a value -/
inductive D where
  | non | bl (b : Bool) | int (i : Int) | str (x : Str)
  | tup (l : List D) | lst (l : List D) | fls (l : List D) | dct (ks : List Key) (l : List D)
  | gl (x : Str) | ty (n : String)
  | exo (C : Str) (ns : List Str) (l : List D)
  deriving Inhabited
/-- what a name holds: deep data; the n-th cell of the store; the exception that an except suite holds -/
inductive Wt where
  | d (x : D) | loc (n : Nat) | hex (C : Str) (ns : List Str) (l : List D)
  deriving Inhabited

inductive Cell where
  | dead | lst (l : List D) | dK (l : List (Key × D)) | frz (d : D) | ins (C : Str) (l : List (Str × D))
  deriving Inhabited
def Cell.live : Cell → Bool
  | .lst _ => true
  | .dK _ => true
  | .ins _ _ => true
  | _ => false
abbrev Store := List Cell
abbrev Ads := List (Option Addr)
abbrev Ev := List (Option Wt)

/-- a list that is read alone: let alone, or the module's own -/
def FL (K : PySem.W.Frag) (lv : Addr → Prop) (H : Hp) (a : Addr) (xs : List V) : Prop := (¬ lv a ∧ Rd H a (.lst xs)) ∨
  ∃ (o : Obj) (its : Array Value) (n : Nat), K.lookup a = some o ∧ o.cls = .type "list" ∧ o.dict = none ∧ o.data = .seq its n ∧ its.size ≤ sizeLine ∧ Vals xs its.toList
theorem FL.sq {K : PySem.W.Frag} {lv : Addr → Prop} {H : Hp} {a : Addr} {xs : List V} (h : FL K lv H a xs) : SqL K H a xs := by
  rcases h with ⟨_, h⟩ | h
  · exact .inl h
  · exact .inr h
/-- at a: an exception of the class at C, its dict at d, held as a value -/
def exv (a C : Addr) (d : Option Addr) : HO := .ext fun h => ∃ (oe : Obj) (vs : Array Value), h.get? a = some oe ∧ Zc (.ref C) d oe ∧ oe.data = .fields vs
mutual
inductive RP (K : PySem.W.Frag) (lv : Addr → Prop) (H : Hp) : D → V → Prop
  | non : RP K lv H .non .non
  | bl (b : Bool) : RP K lv H (.bl b) (.bl b)
  | int (i : Int) : RP K lv H (.int i) (.int i)
  | str (x : Str) : RP K lv H (.str x) (.str x)
  | tup {a : Addr} {vs : List V} {ds : List D} : SqT K H a vs → RPs K lv H ds vs → RP K lv H (.tup ds) (.ref a)
  | lst {a : Addr} {vs : List V} {ds : List D} : ¬ lv a → H a = some (.lst vs) → RPs K lv H ds vs → RP K lv H (.lst ds) (.ref a)
  | fls {a : Addr} {vs : List V} {ds : List D} : FL K lv H a vs → RPs K lv H ds vs → RP K lv H (.fls ds) (.ref a)
  | dct {a : Addr} {kvs : List (Key × V)} {ds : List D} : ¬ lv a → Rd H a (.dK kvs) → RPs K lv H ds (kvs.map (·.2)) → RP K lv H (.dct (kvs.map (·.1)) ds) (.ref a)
  | gl (x : Str) : RP K lv H (.gl x) (.ref (He.ga K x))
  | ty (n : String) : RP K lv H (.ty n) (.ty n)
  | exo {C : Str} {ns : List Str} {ds : List D} {a d : Addr} {vs : List V} : ¬ lv a → H a = some (exv a (He.ga K C) (some d)) → ¬ lv d → H d = some (.xd (ns.zip vs)) → ns.length = ds.length → RPs K lv H ds vs → RP K lv H (.exo C ns ds) (.ref a)
  | exo0 {C : Str} {a : Addr} : ¬ lv a → H a = some (exv a (He.ga K C) none) → RP K lv H (.exo C [] []) (.ref a)
inductive RPs (K : PySem.W.Frag) (lv : Addr → Prop) (H : Hp) : List D → List V → Prop
  | nil : RPs K lv H [] []
  | cons {d : D} {v : V} {ds : List D} {vs : List V} : RP K lv H d v → RPs K lv H ds vs → RPs K lv H (d :: ds) (v :: vs)
end

section
variable {K : PySem.W.Frag} {lv lv' : Addr → Prop} {H H' : Hp}
theorem RPs.length : ∀ {ds : List D} {vs : List V}, RPs K lv H ds vs → ds.length = vs.length
  | [], _, h => by cases h; rfl
  | _ :: ds, _, h => by
    cases h with
    | cons _ h2 => simp [RPs.length h2]
theorem rd_mono (hl : ∀ a u, ¬ lv a → H a = some u → ¬ lv' a ∧ H' a = some u) {a : Addr} {u : HO} (n : ¬ lv a) (h : Rd H a u) : ¬ lv' a ∧ Rd H' a u := by
  rcases h with h | ⟨o, h⟩
  · exact ⟨(hl a _ n h).1, .inl (hl a _ n h).2⟩
  · exact ⟨(hl a _ n h).1, .inr ⟨o, (hl a _ n h).2⟩⟩
theorem FL.mono (hl : ∀ a u, ¬ lv a → H a = some u → ¬ lv' a ∧ H' a = some u) {a : Addr} {xs : List V} (h : FL K lv H a xs) : FL K lv' H' a xs := by
  rcases h with ⟨n, h⟩ | h
  · exact .inl (rd_mono hl n h)
  · exact .inr h
mutual
theorem RP.mono (ht : ∀ a vs, SqT K H a vs → SqT K H' a vs) (hl : ∀ a u, ¬ lv a → H a = some u → ¬ lv' a ∧ H' a = some u) : ∀ (d : D) (v : V), RP K lv H d v → RP K lv' H' d v
  | .non, _, h => by cases h; exact .non
  | .bl b, _, h => by cases h; exact .bl b
  | .int b, _, h => by cases h; exact .int b
  | .str b, _, h => by cases h; exact .str b
  | .tup ds, _, h => by
    cases h with
    | tup h1 h2 => exact .tup (ht _ _ h1) (RPs.mono ht hl ds _ h2)
  | .lst ds, _, h => by
    cases h with
    | lst h0 h1 h2 => exact .lst (hl _ _ h0 h1).1 (hl _ _ h0 h1).2 (RPs.mono ht hl ds _ h2)
  | .fls ds, _, h => by
    cases h with
    | fls h1 h2 => exact .fls (h1.mono hl) (RPs.mono ht hl ds _ h2)
  | .dct ks ds, _, h => by
    cases h with
    | dct h0 h1 h2 => exact .dct (rd_mono hl h0 h1).1 (rd_mono hl h0 h1).2 (RPs.mono ht hl ds _ h2)
  | .gl x, _, h => by cases h; exact .gl x
  | .ty n, _, h => by cases h; exact .ty n
  | .exo C ns ds, _, h => by
    cases h with
    | exo h0 h1 h2 h3 h4 h5 => exact .exo (hl _ _ h0 h1).1 (hl _ _ h0 h1).2 (hl _ _ h2 h3).1 (hl _ _ h2 h3).2 h4 (RPs.mono ht hl ds _ h5)
    | exo0 h0 h1 => exact .exo0 (hl _ _ h0 h1).1 (hl _ _ h0 h1).2
theorem RPs.mono (ht : ∀ a vs, SqT K H a vs → SqT K H' a vs) (hl : ∀ a u, ¬ lv a → H a = some u → ¬ lv' a ∧ H' a = some u) : ∀ (ds : List D) (vs : List V), RPs K lv H ds vs → RPs K lv' H' ds vs
  | [], _, h => by cases h; exact .nil
  | d :: ds, _, h => by
    cases h with
    | cons h1 h2 => exact .cons (RP.mono ht hl d _ h1) (RPs.mono ht hl ds _ h2)
end
theorem RPs.get : ∀ {ds : List D} {vs : List V} {i : Nat} {d : D}, RPs K lv H ds vs → ds[i]? = some d → ∃ v, vs[i]? = some v ∧ RP K lv H d v
  | _, _, _, _, .nil, e => by simp at e
  | _, _, 0, _, .cons r _, e => by simp at e; subst e; exact ⟨_, rfl, r⟩
  | _, _, i + 1, x, .cons _ t, e => by
    obtain ⟨u, h1, h2⟩ := RPs.get (i := i) (d := x) t (by simpa using e)
    exact ⟨u, by simpa using h1, h2⟩
theorem RPs.get' : ∀ {ds : List D} {vs : List V} {i : Nat} {v : V}, RPs K lv H ds vs → vs[i]? = some v → ∃ d, ds[i]? = some d ∧ RP K lv H d v
  | _, _, _, _, .nil, e => by simp at e
  | _, _, 0, _, .cons r _, e => by simp at e; subst e; exact ⟨_, rfl, r⟩
  | _, _, i + 1, x, .cons _ t, e => by
    obtain ⟨u, h1, h2⟩ := RPs.get' (i := i) (v := x) t (by simpa using e)
    exact ⟨u, by simpa using h1, h2⟩
theorem RPs.append : ∀ {ds es : List D} {vs us : List V}, RPs K lv H ds vs → RPs K lv H es us → RPs K lv H (ds ++ es) (vs ++ us)
  | _, _, _, _, .nil, s => s
  | _, _, _, _, .cons r t, s => .cons r (RPs.append t s)
theorem RPs.one {d : D} {v : V} (h : RP K lv H d v) : RPs K lv H [d] [v] := .cons h .nil
theorem RPs.take : ∀ {ds : List D} {vs : List V} (n : Nat), RPs K lv H ds vs → RPs K lv H (ds.take n) (vs.take n)
  | _, _, 0, _ => by simpa using RPs.nil
  | _, _, _ + 1, .nil => by simpa using RPs.nil
  | _, _, n + 1, .cons r t => by simpa using RPs.cons r (RPs.take n t)
theorem RPs.drop : ∀ {ds : List D} {vs : List V} (n : Nat), RPs K lv H ds vs → RPs K lv H (ds.drop n) (vs.drop n)
  | _, _, 0, h => by simpa using h
  | _, _, _ + 1, .nil => by simpa using RPs.nil
  | _, _, n + 1, .cons r t => by simpa using RPs.drop n t
theorem RPs.set {d : D} {v : V} (r : RP K lv H d v) : ∀ {ds : List D} {vs : List V} (i : Nat), RPs K lv H ds vs → RPs K lv H (ds.set i d) (vs.set i v)
  | _, _, _, .nil => by simpa using RPs.nil
  | _, _, 0, .cons _ t => by simpa using RPs.cons r t
  | _, _, i + 1, .cons q t => by simpa using RPs.cons q (RPs.set r i t)
theorem RPs.rev : ∀ {ds : List D} {vs : List V}, RPs K lv H ds vs → RPs K lv H ds.reverse vs.reverse
  | _, _, .nil => by simpa using RPs.nil
  | _, _, .cons r t => by simpa using RPs.append (RPs.rev t) (RPs.one r)
end

/-! ### the store over the heap -/
def Live (A : Ads) (S : Store) (a : Addr) : Prop := ∃ (n : Nat) (c : Cell), A[n]? = some (some a) ∧ S[n]? = some c ∧ c.live = true
def COk (K : PySem.W.Frag) (lv : Addr → Prop) (H : Hp) (a : Addr) : Cell → Prop
  | .dead => False
  | .lst l => ∃ vs, H a = some (.lst vs) ∧ RPs K lv H l vs
  | .dK l => ∃ kvs, H a = some (.dK kvs) ∧ kvs.map (·.1) = l.map (·.1) ∧ RPs K lv H (l.map (·.2)) (kvs.map (·.2))
  | .frz d => RP K lv H d (.ref a) ∧ ∃ u, H a = some u
  | .ins C l => ∃ dx fs, H a = some (.ins (He.ga K C) dx fs) ∧ fs.map (·.1) = l.map (·.1) ∧ RPs K lv H (l.map (·.2)) (fs.map (·.2))
structure Rel (K : PySem.W.Frag) (A : Ads) (S : Store) (H : Hp) : Prop where
  len : A.length = S.length
  inj : ∀ (n m : Nat) (a : Addr), A[n]? = some (some a) → A[m]? = some (some a) → n = m
  cell : ∀ (n : Nat) (c : Cell), S[n]? = some c → (c = .dead ∧ A[n]? = some none) ∨ ∃ a, A[n]? = some (some a) ∧ COk K (Live A S) H a c
/-- what is not live stands as it stood, what is live was so or is new -/
structure Fr (A : Ads) (S : Store) (H : Hp) (A' : Ads) (S' : Store) (H' : Hp) : Prop where
  frame : ∀ b o, H b = some o → ¬ Live A S b → H' b = some o
  new : ∀ b, Live A' S' b → Live A S b ∨ H b = none
structure Stp (A : Ads) (S : Store) (H : Hp) (A' : Ads) (S' : Store) (H' : Hp) : Prop where
  ext : ∀ (n : Nat) (a : Addr), A[n]? = some (some a) → A'[n]? = some (some a)
  le : A.length ≤ A'.length
  fr : Fr A S H A' S' H'
section
variable {K : PySem.W.Frag} {A A' A1 A2 : Ads} {S S' S1 S2 : Store} {H H' H1 H2 : Hp}
theorem Fr.refl : Fr A S H A S H := ⟨fun _ _ h _ => h, fun _ h => .inl h⟩
theorem Fr.trans (x : Fr A S H A1 S1 H1) (y : Fr A1 S1 H1 A2 S2 H2) : Fr A S H A2 S2 H2 := by
  refine ⟨fun b o h n => y.frame b o (x.frame b o h n) fun l => ?_, fun b l => ?_⟩
  · rcases x.new b l with l | e
    · exact n l
    · rw [e] at h; cases h
  · rcases y.new b l with l | e
    · exact x.new b l
    · by_cases n : Live A S b
      · exact .inl n
      · cases q : H b with
        | none => exact .inr rfl
        | some o => rw [x.frame b o q n] at e; cases e
theorem Stp.refl : Stp A S H A S H := ⟨fun _ _ h => h, Nat.le_refl _, .refl⟩
theorem Stp.trans (x : Stp A S H A1 S1 H1) (y : Stp A1 S1 H1 A2 S2 H2) : Stp A S H A2 S2 H2 := ⟨fun n a h => y.ext n a (x.ext n a h), Nat.le_trans x.le y.le, x.fr.trans y.fr⟩
/-- a live address holds a list, a dict, an instance -/
theorem Rel.live (R : Rel K A S H) {a : Addr} (l : Live A S a) : ∃ u, H a = some u ∧ ((∃ vs, u = .lst vs) ∨ (∃ kvs, u = .dK kvs) ∨ ∃ C dx fs, u = .ins C dx fs) := by
  obtain ⟨n, c, ha, hc, hl⟩ := l
  rcases R.cell n c hc with ⟨rfl, _⟩ | ⟨a', ha', ok⟩
  · cases hl
  · rw [ha] at ha'
    obtain rfl := Option.some.inj (Option.some.inj ha')
    cases c with
    | dead => cases hl
    | frz d => cases hl
    | lst l => obtain ⟨vs, h, _⟩ := ok; exact ⟨_, h, .inl ⟨_, rfl⟩⟩
    | dK l => obtain ⟨vs, h, _⟩ := ok; exact ⟨_, h, .inr (.inl ⟨_, rfl⟩)⟩
    | ins C l => obtain ⟨dx, vs, h, _⟩ := ok; exact ⟨_, h, .inr (.inr ⟨_, _, _, rfl⟩)⟩
theorem Rel.notLive (R : Rel K A S H) {a : Addr} {u : HO} (h : H a = some u) (n : ∀ vs, u ≠ .lst vs) (n2 : ∀ kvs, u ≠ .dK kvs) (n3 : ∀ C dx fs, u ≠ .ins C dx fs) : ¬ Live A S a := fun l => by
  obtain ⟨u', h', q⟩ := R.live l
  rw [h] at h'
  cases h'
  rcases q with ⟨_, e⟩ | ⟨_, e⟩ | ⟨_, _, _, e⟩
  · exact n _ e
  · exact n2 _ e
  · exact n3 _ _ _ e
theorem Rel.known (R : Rel K A S H) {n : Nat} {a : Addr} (h : A[n]? = some (some a)) : ∃ c u, S[n]? = some c ∧ H a = some u ∧ COk K (Live A S) H a c := by
  have hn : n < S.length := by rw [← R.len]; exact (List.getElem?_eq_some_iff.mp h).1
  have hc : S[n]? = some S[n] := List.getElem?_eq_getElem hn
  rcases R.cell n _ hc with ⟨_, e⟩ | ⟨a', ha', ok⟩
  · rw [h] at e; cases e
  · rw [h] at ha'
    obtain rfl := Option.some.inj (Option.some.inj ha')
    generalize S[n] = c at hc ok
    cases c with
    | dead => exact ok.elim
    | frz d => exact ⟨_, _, hc, ok.2.choose_spec, ok⟩
    | lst l => obtain ⟨vs, q, z⟩ := id ok; exact ⟨_, _, hc, q, ok⟩
    | dK l => obtain ⟨vs, q, z⟩ := id ok; exact ⟨_, _, hc, q, ok⟩
    | ins C l => obtain ⟨dx, vs, q, z⟩ := id ok; exact ⟨_, _, hc, q, ok⟩
theorem Fr.sqT (R : Rel K A S H) (f : Fr A S H A' S' H') {a : Addr} {vs : List V} (h : SqT K H a vs) : SqT K H' a vs := by
  rcases h with (h | ⟨o, h⟩) | h
  · exact .inl (.inl (f.frame _ _ h (R.notLive h (fun _ e => nomatch e) (fun _ e => nomatch e) (fun _ _ _ e => nomatch e))))
  · exact .inl (.inr ⟨o, f.frame _ _ h (R.notLive h (fun _ e => nomatch e) (fun _ e => nomatch e) (fun _ _ _ e => nomatch e))⟩)
  · exact .inr h
theorem Fr.tr (f : Fr A S H A' S' H') (a : Addr) (u : HO) (n : ¬ Live A S a) (h : H a = some u) : ¬ Live A' S' a ∧ H' a = some u := by
  refine ⟨fun l => ?_, f.frame _ _ h n⟩
  rcases f.new a l with l | e
  · exact n l
  · rw [e] at h; cases h
theorem RP.fr (R : Rel K A S H) (f : Fr A S H A' S' H') {d : D} {v : V} (h : RP K (Live A S) H d v) : RP K (Live A' S') H' d v :=
  RP.mono (fun _ _ q => f.sqT R q) f.tr d v h
theorem RPs.fr (R : Rel K A S H) (f : Fr A S H A' S' H') {ds : List D} {vs : List V} (h : RPs K (Live A S) H ds vs) : RPs K (Live A' S') H' ds vs :=
  RPs.mono (fun _ _ q => f.sqT R q) f.tr ds vs h
end

/-! ### what a slot holds -/
/-- the exception that a suite holds: where it stands, its class, its dict -/
abbrev Hx := Addr → Addr → Addr → Prop
abbrev hx0 : Hx := fun _ _ _ => False
def RV (K : PySem.W.Frag) (hx : Hx) (A : Ads) (lv : Addr → Prop) (H : Hp) (d : Wt) (v : V) : Prop := match d with
  | .loc n => ∃ a, A[n]? = some (some a) ∧ v = .ref a
  | .hex C ns l => ∃ a dd vs, v = .ref a ∧ hx a (He.ga K C) dd ∧ H dd = some (.xd (ns.zip vs)) ∧ RPs K lv H l vs ∧ ns.length = l.length
  | .d x => RP K lv H x v
structure RE (K : PySem.W.Frag) (hx : Hx) (A : Ads) (lv : Addr → Prop) (H : Hp) (σd : Ev) (σ : L2.St) : Prop where
  len : σd.length = σ.length
  at_ : ∀ (i : Nat) (d : Wt), σd[i]? = some (some d) → ∃ v, σ[i]? = some (some v) ∧ RV K hx A lv H d v
section
variable {K : PySem.W.Frag} {hx : Hx} {A A' A1 A2 : Ads} {S S' S1 S2 : Store} {H H' H1 H2 : Hp} {d : Wt} {x : D} {v : V} {lv : Addr → Prop}
theorem RV.of (h : RP K lv H x v) : RV K hx A lv H (.d x) v := h
theorem RV.fr (R : Rel K A S H) (f : Fr A S H A' S' H') (e : ∀ (n : Nat) (a : Addr), d = .loc n → A[n]? = some (some a) → A'[n]? = some (some a)) (h : RV K hx A (Live A S) H d v) : RV K hx A' (Live A' S') H' d v := by
  cases d with
  | loc n =>
    obtain ⟨a, h1, h2⟩ := h
    exact ⟨a, e n a rfl h1, h2⟩
  | hex C ns l =>
    obtain ⟨a, dd, vs, h1, h2, h3, h4, h5⟩ := h
    exact ⟨a, dd, vs, h1, h2, f.frame _ _ h3 (R.notLive h3 (fun _ e => nomatch e) (fun _ e => nomatch e) (fun _ _ _ e => nomatch e)), h4.fr R f, h5⟩
  | d x => exact RP.fr R f h
theorem RV.step (R : Rel K A S H) (f : Stp A S H A' S' H') (h : RV K hx A (Live A S) H d v) : RV K hx A' (Live A' S') H' d v := h.fr R f.fr fun n a _ q => f.ext n a q
theorem RE.step {σd : Ev} {σ : L2.St} (R : Rel K A S H) (f : Stp A S H A' S' H') (h : RE K hx A (Live A S) H σd σ) : RE K hx A' (Live A' S') H' σd σ :=
  ⟨h.len, fun i d e => let ⟨v, h1, h2⟩ := h.at_ i d e; ⟨v, h1, h2.step R f⟩⟩
theorem RE.set {σd : Ev} {σ : L2.St} {i : Nat} (h : RE K hx A lv H σd σ) (r : RV K hx A lv H d v) : RE K hx A lv H (σd.set i (some d)) (σ.set i (some v)) := by
  refine ⟨by simp [h.len], fun j d' e => ?_⟩
  by_cases hj : i = j
  · subst hj
    by_cases hl : i < σd.length
    · rw [List.getElem?_set_self hl] at e
      cases e
      exact ⟨v, by rw [List.getElem?_set_self (by rw [← h.len]; exact hl)], r⟩
    · rw [List.getElem?_eq_none (by simpa using hl)] at e; cases e
  · rw [List.getElem?_set_ne hj] at e
    obtain ⟨v', h1, h2⟩ := h.at_ j d' e
    exact ⟨v', by rw [List.getElem?_set_ne hj]; exact h1, h2⟩
/-- fewer slots known -/
theorem RE.weak {σd : Ev} {σ σ' : L2.St} {σd' : Ev} (h : RE K hx A lv H σd σ) (l : σd'.length = σ'.length) (e : ∀ (i : Nat) (d : Wt), σd'[i]? = some (some d) → σd[i]? = some (some d) ∧ ∀ v, σ[i]? = some (some v) → σ'[i]? = some (some v)) : RE K hx A lv H σd' σ' :=
  ⟨l, fun i d q => let ⟨v, h1, h2⟩ := h.at_ i d (e i d q).1; ⟨v, (e i d q).2 v h1, h2⟩⟩
end

/-! ### read through a loc -/
def cellD : Option Cell → Option D
  | some (.lst l) => some (.lst l)
  | some (.dK l) => some (.dct (l.map (·.1)) (l.map (·.2)))
  | some (.frz d) => some d
  | _ => none
def deref (S : Store) : Wt → Option D
  | .d x => some x
  | .loc n => cellD S[n]?
  | .hex _ _ _ => none
/-- what is read, its top not asked to be let alone -/
def RX (K : PySem.W.Frag) (lv : Addr → Prop) (H : Hp) (d : D) (v : V) : Prop :=
  RP K lv H d v ∨ (∃ l a vs, d = .lst l ∧ v = .ref a ∧ H a = some (.lst vs) ∧ RPs K lv H l vs) ∨
    ∃ l a kvs, d = .dct (kvs.map (·.1)) l ∧ v = .ref a ∧ H a = some (.dK kvs) ∧ RPs K lv H l (kvs.map (·.2))
section
variable {K : PySem.W.Frag} {hx : Hx} {A : Ads} {S : Store} {H : Hp} {d : Wt} {x : D} {v : V} {lv : Addr → Prop}
theorem RV.read (R : Rel K A S H) (h : RV K hx A (Live A S) H d v) (e : deref S d = some x) : RX K (Live A S) H x v := by
  cases d with
  | loc n =>
    obtain ⟨a, ha, rfl⟩ := h
    have e : cellD S[n]? = some x := e
    cases hc : S[n]? with
    | none => rw [hc] at e; cases e
    | some c =>
      rw [hc] at e
      rcases R.cell n c hc with ⟨rfl, _⟩ | ⟨a', ha', ok⟩
      · cases e
      · rw [ha] at ha'
        obtain rfl := Option.some.inj (Option.some.inj ha')
        cases c with
        | dead => cases e
        | frz d => cases e; exact .inl ok.1
        | lst l => cases e; obtain ⟨vs, h1, h2⟩ := ok; exact .inr (.inl ⟨l, a, vs, rfl, rfl, h1, h2⟩)
        | dK l =>
          cases e
          obtain ⟨kvs, h1, h2, h3⟩ := ok
          refine .inr (.inr ⟨l.map (·.2), a, kvs, ?_, rfl, h1, h3⟩)
          show D.dct (l.map (·.1)) (l.map (·.2)) = _
          rw [h2]
        | ins C l => cases e
  | hex C ns l => cases e
  | d y => cases e; exact .inl h
theorem RX.lst {l : List D} (h : RX K lv H (.lst l) v) : ∃ a vs, v = .ref a ∧ H a = some (.lst vs) ∧ RPs K lv H l vs := by
  rcases h with h | ⟨l', a, vs, e, rfl, h1, h2⟩ | ⟨l', a, kvs, e, _⟩
  · cases h with
    | lst h0 h1 h2 => exact ⟨_, _, rfl, h1, h2⟩
  · cases e; exact ⟨_, _, rfl, h1, h2⟩
  · cases e
theorem RX.fls {l : List D} (h : RX K lv H (.fls l) v) : ∃ a vs, v = .ref a ∧ SqL K H a vs ∧ RPs K lv H l vs := by
  rcases h with h | ⟨l', a, vs, e, rfl, h1, h2⟩ | ⟨l', a, kvs, e, _⟩
  · cases h with
    | fls h1 h2 => exact ⟨_, _, rfl, h1.sq, h2⟩
  · cases e
  · cases e
theorem RX.tup {l : List D} (h : RX K lv H (.tup l) v) : ∃ a vs, v = .ref a ∧ SqT K H a vs ∧ RPs K lv H l vs := by
  rcases h with h | ⟨l', a, vs, e, _⟩ | ⟨l', a, kvs, e, _⟩
  · cases h with
    | tup h1 h2 => exact ⟨_, _, rfl, h1, h2⟩
  · cases e
  · cases e
theorem RX.dct {ks : List Key} {l : List D} (h : RX K lv H (.dct ks l) v) : ∃ a kvs, v = .ref a ∧ Rd H a (.dK kvs) ∧ kvs.map (·.1) = ks ∧ RPs K lv H l (kvs.map (·.2)) := by
  rcases h with h | ⟨l', a, vs, e, _⟩ | ⟨l', a, kvs, e, rfl, h1, h2⟩
  · cases h with
    | dct h0 h1 h2 => exact ⟨_, _, rfl, h1, rfl, h2⟩
  · cases e
  · cases e; exact ⟨_, _, rfl, .inl h1, rfl, h2⟩
theorem RX.int {i : Int} (h : RX K lv H (.int i) v) : v = .int i := by
  rcases h with h | ⟨l', a, vs, e, _⟩ | ⟨l', a, kvs, e, _⟩
  · cases h; rfl
  · cases e
  · cases e
theorem RX.str {i : Str} (h : RX K lv H (.str i) v) : v = .str i := by
  rcases h with h | ⟨l', a, vs, e, _⟩ | ⟨l', a, kvs, e, _⟩
  · cases h; rfl
  · cases e
  · cases e
theorem RX.bl {i : Bool} (h : RX K lv H (.bl i) v) : v = .bl i := by
  rcases h with h | ⟨l', a, vs, e, _⟩ | ⟨l', a, kvs, e, _⟩
  · cases h; rfl
  · cases e
  · cases e
theorem RX.non (h : RX K lv H .non v) : v = .non := by
  rcases h with h | ⟨l', a, vs, e, _⟩ | ⟨l', a, kvs, e, _⟩
  · cases h; rfl
  · cases e
  · cases e
theorem RX.gl {x : Str} (h : RX K lv H (.gl x) v) : v = .ref (He.ga K x) := by
  rcases h with h | ⟨l', a, vs, e, _⟩ | ⟨l', a, kvs, e, _⟩
  · cases h; rfl
  · cases e
  · cases e
theorem RX.ty {x : String} (h : RX K lv H (.ty x) v) : v = .ty x := by
  rcases h with h | ⟨l', a, vs, e, _⟩ | ⟨l', a, kvs, e, _⟩
  · cases h; rfl
  · cases e
  · cases e
end
end Y
end
section
/-! Y2: what a part does over deep values, and that the machine does it. -/
namespace Y
open PySem PySem.Spec PyProof.Rows L2

inductive Res (α : Type) where
  | ok (a : α) (S : Store) | exc (C : Str) (ns : List Str) (l : List D) (S : Store) | bad
  deriving Inhabited
def Res.bind {α β : Type} (r : Res α) (f : α → Store → Res β) : Res β := match r with
  | .ok a S => f a S
  | .exc C ns l S => .exc C ns l S
  | .bad => .bad
abbrev EM := Ev → Store → Res Wt
abbrev AM := Ev → Store → Res (List Wt)
abbrev TM := Ev → Store → Res Bool

structure Cn where
  K : PySem.W.Frag
  hx : Hx
  W : WX
abbrev RR (α β : Type) := Ads → Store → Hp → α → β → Prop
def rV (c : Cn) : RR Wt V := fun A S H d v => RV c.K c.hx A (Live A S) H d v
def rVs (c : Cn) : RR (List Wt) (List V) := fun A S H ds vs => Paired (rV c A S H) ds vs
def rB : RR Bool Bool := fun _ _ _ a b => a = b
def Post {α β : Type} (c : Cn) (R : RR α β) (σ : L2.St) (A : Ads) (S : Store) (H : Hp) (Q : β → Hp → Prop) : Res α → Prop
  | .ok a S' => ∀ A' H' b, Rel c.K A' S' H' → Stp A S H A' S' H' → R A' S' H' a b → Q b H'
  | .exc C ns l S' => ∀ A' H' dx vs, Rel c.K A' S' H' → Stp A S H A' S' H' → H' dx = some (.xd (ns.zip vs)) → RPs c.K (Live A' S') H' l vs → ns.length = l.length → c.W (.ref (He.ga c.K C)) (some dx) σ H'
  | .bad => False
section
variable {α β γ δ : Type} {c : Cn} {R1 : RR α β} {R2 : RR γ δ} {σ : L2.St} {A A1 : Ads} {S S1 : Store} {H H1 : Hp}
theorem Post.mono {Q Q' : β → Hp → Prop} {r : Res α} (p : Post c R1 σ A S H Q r) (h : ∀ b H', Q b H' → Q' b H') : Post c R1 σ A S H Q' r := by
  cases r with
  | ok a S' => exact fun A' H' b x y z => h _ _ (p A' H' b x y z)
  | exc C ns l S' => exact p
  | bad => exact p
theorem Post.shift {Q : β → Hp → Prop} {r : Res α} (f : Stp A S H A1 S1 H1) (p : Post c R1 σ A S H Q r) : Post c R1 σ A1 S1 H1 Q r := by
  cases r with
  | ok a S' => exact fun A' H' b x y z => p A' H' b x (f.trans y) z
  | exc C ns l S' => exact fun A' H' dx vs x y => p A' H' dx vs x (f.trans y)
  | bad => exact p
theorem Post.bind {Q : δ → Hp → Prop} {r : Res α} {g : α → Store → Res γ} (p : Post c R2 σ A S H Q (r.bind g)) :
    Post c R1 σ A S H (fun b H1 => ∃ A1 S1 a, Rel c.K A1 S1 H1 ∧ Stp A S H A1 S1 H1 ∧ R1 A1 S1 H1 a b ∧ Post c R2 σ A1 S1 H1 Q (g a S1)) r := by
  cases r with
  | ok a S' => exact fun A' H' b x y z => ⟨A', S', a, x, y, z, Post.shift y p⟩
  | exc C ns l S' => exact p
  | bad => exact p
end

/-! ### steps of the store -/
section
variable {K : PySem.W.Frag} {A A' : Ads} {S S' : Store} {H H' : Hp} {p : Addr} {o : HO}
theorem Live.ne (R : Rel K A S H) {a : Addr} (l : Live A S a) (h : H p = none) : a ≠ p := fun e => by
  obtain ⟨u, hu, _⟩ := R.live l
  rw [e, h] at hu
  cases hu
theorem Fr.upd_new (h : H p = none) : Fr A S H A S (upd H p o) := ⟨fun b u e _ => by rw [upd_ne (ne_of_none e h)]; exact e, fun b l => .inl l⟩
theorem COk.fr (R : Rel K A S H) (f : Fr A S H A' S' H') {a : Addr} {c : Cell} (hk : ∀ u, H a = some u → H' a = some u) (ok : COk K (Live A S) H a c) : COk K (Live A' S') H' a c := by
  cases c with
  | dead => exact ok
  | lst l => obtain ⟨vs, h1, h2⟩ := ok; exact ⟨vs, hk _ h1, h2.fr R f⟩
  | dK l => obtain ⟨vs, h1, h2, h3⟩ := ok; exact ⟨vs, hk _ h1, h2, h3.fr R f⟩
  | frz d => exact ⟨RP.fr R f ok.1, _, hk _ ok.2.choose_spec⟩
  | ins C l => obtain ⟨dx, vs, h1, h2, h3⟩ := ok; exact ⟨dx, vs, hk _ h1, h2, h3.fr R f⟩
theorem Rel.new (R : Rel K A S H) (h : H p = none) : Rel K A S (upd H p o) := by
  refine ⟨R.len, R.inj, fun n c hc => ?_⟩
  rcases R.cell n c hc with e | ⟨a, ha, ok⟩
  · exact .inl e
  · exact .inr ⟨a, ha, ok.fr R (Fr.upd_new h) fun u hu => by rw [upd_ne (ne_of_none hu h)]; exact hu⟩
theorem Stp.new (h : H p = none) : Stp A S H A S (upd H p o) := ⟨fun _ _ e => e, Nat.le_refl _, Fr.upd_new h⟩
theorem live_app {c : Cell} (len : A.length = S.length) {b : Addr} (l : Live (A ++ [some p]) (S ++ [c]) b) : Live A S b ∨ (b = p ∧ c.live = true) := by
  obtain ⟨n, c', h1, h2, h3⟩ := l
  by_cases hn : n < A.length
  · rw [List.getElem?_append_left hn] at h1
    rw [List.getElem?_append_left (by omega)] at h2
    exact .inl ⟨n, c', h1, h2, h3⟩
  · rw [List.getElem?_append_right (by omega)] at h1
    rw [List.getElem?_append_right (by omega)] at h2
    have e : n = A.length := by
      have := (List.getElem?_eq_some_iff.mp h1).1
      simp at this
      omega
    subst e
    simp at h1
    rw [len] at h2
    simp at h2
    subst h1 h2
    exact .inr ⟨rfl, h3⟩
/-- a new cell at a new address -/
theorem Fr.alloc {c : Cell} (len : A.length = S.length) (h : H p = none) : Fr A S H (A ++ [some p]) (S ++ [c]) (upd H p o) :=
  ⟨fun b u e _ => by rw [upd_ne (ne_of_none e h)]; exact e, fun b l => by
    rcases live_app len l with l | ⟨e, _⟩
    · exact .inl l
    · rw [e]; exact .inr h⟩
theorem Rel.alloc {c : Cell} (R : Rel K A S H) (h : H p = none) (new : COk K (Live (A ++ [some p]) (S ++ [c])) (upd H p o) p c) :
    Rel K (A ++ [some p]) (S ++ [c]) (upd H p o) ∧ Stp A S H (A ++ [some p]) (S ++ [c]) (upd H p o) := by
  have f : Fr A S H (A ++ [some p]) (S ++ [c]) (upd H p o) := Fr.alloc R.len h
  refine ⟨⟨by simp [R.len], fun n m a h1 h2 => ?_, fun n c' hc => ?_⟩, fun n a e => by rw [List.getElem?_append_left (List.getElem?_eq_some_iff.mp e).1]; exact e, by simp, f⟩
  · have cs : ∀ k : Nat, (A ++ [some p])[k]? = some (some a) → (k < A.length ∧ A[k]? = some (some a)) ∨ (k = A.length ∧ a = p) := fun k hk => by
      by_cases hn : k < A.length
      · rw [List.getElem?_append_left hn] at hk
        exact .inl ⟨hn, hk⟩
      · rw [List.getElem?_append_right (by omega)] at hk
        have e : k = A.length := by
          have := (List.getElem?_eq_some_iff.mp hk).1
          simp at this
          omega
        subst e
        simp at hk
        exact .inr ⟨rfl, hk.symm⟩
    rcases cs n h1 with ⟨l1, q1⟩ | ⟨l1, q1⟩ <;> rcases cs m h2 with ⟨l2, q2⟩ | ⟨l2, q2⟩
    · exact R.inj n m a q1 q2
    · subst q2
      obtain ⟨_, u, _, hu, _⟩ := R.known q1
      rw [h] at hu; cases hu
    · subst q1
      obtain ⟨_, u, _, hu, _⟩ := R.known q2
      rw [h] at hu; cases hu
    · omega
  · by_cases hn : n < S.length
    · rw [List.getElem?_append_left hn] at hc
      rcases R.cell n c' hc with ⟨e, e2⟩ | ⟨a, ha, ok⟩
      · exact .inl ⟨e, by rw [List.getElem?_append_left (by rw [R.len]; exact hn)]; exact e2⟩
      · exact .inr ⟨a, by rw [List.getElem?_append_left (by rw [R.len]; exact hn)]; exact ha, ok.fr R f fun u hu => by rw [upd_ne (ne_of_none hu h)]; exact hu⟩
    · rw [List.getElem?_append_right (by omega)] at hc
      have e : n = S.length := by
        have := (List.getElem?_eq_some_iff.mp hc).1
        simp at this
        omega
      subst e
      simp at hc
      subst hc
      exact .inr ⟨p, by rw [← R.len]; simp, new⟩
end
end Y
end
section
/-! Y3: the judgements, names, constants, displays, operators, tests. -/
namespace Y
open PySem PySem.Spec PyProof.Rows L2

def tE (c : Cn) (f : EM) : TE := fun σ H Q => ∃ A S σd, Rel c.K A S H ∧ RE c.K c.hx A (Live A S) H σd σ ∧ Post c (rV c) σ A S H Q (f σd S)
def tT (c : Cn) (f : TM) : TT := fun σ H Q => ∃ A S σd, Rel c.K A S H ∧ RE c.K c.hx A (Live A S) H σd σ ∧ Post c rB σ A S H Q (f σd S)
def tA (c : Cn) (f : AM) : TA := fun σ H Q => ∃ A S σd, Rel c.K A S H ∧ RE c.K c.hx A (Live A S) H σd σ ∧ Post c (rVs c) σ A S H Q (f σd S)
structure DE (X : Cx) (hx : Hx) (e : Expr) (f : EM) : Prop where
  run : ∀ W, Takes X W → PE X e (tE ⟨X.K, hx, W⟩ f)
structure DT (X : Cx) (hx : Hx) (e : Expr) (f : TM) : Prop where
  run : ∀ W, Takes X W → PT X e (tT ⟨X.K, hx, W⟩ f)
structure DW (X : Cx) (hx : Hx) (e : Expr) (f : TM) : Prop where
  run : ∀ W, Takes X W → PW X e (tT ⟨X.K, hx, W⟩ f)
structure DA (X : Cx) (hx : Hx) (es : List Expr) (f : AM) : Prop where
  run : ∀ W, Takes X W → PA X es (tA ⟨X.K, hx, W⟩ f)
theorem DW.dt {X : Cx} {hx : Hx} {e : Expr} {f : TM} (h : DW X hx e f) : DT X hx e f := ⟨fun W tk => (h.run W tk).pt⟩
theorem PEimp {X : Cx} {e : Expr} {t t' : TE} (h : PE X e t) (i : ∀ σ H Q, t' σ H Q → t σ H Q) : PE X e t' := ⟨fun pins s σ H Q I q => h.run pins s σ H Q I (i σ H Q q)⟩
theorem PTimp {X : Cx} {e : Expr} {t t' : TT} (h : PT X e t) (i : ∀ σ H Q, t' σ H Q → t σ H Q) : PT X e t' := ⟨fun pins s σ H Q I q => h.run pins s σ H Q I (i σ H Q q)⟩
theorem PWimp {X : Cx} {e : Expr} {t t' : TT} (h : PW X e t) (i : ∀ σ H Q, t' σ H Q → t σ H Q) : PW X e t' := ⟨fun w pins s σ H Q I q => h.run w pins s σ H Q I (i σ H Q q)⟩
theorem PAimp {X : Cx} {e : List Expr} {t t' : TA} (h : PA X e t) (i : ∀ σ H Q, t' σ H Q → t σ H Q) : PA X e t' := ⟨fun p pins s σ H Q I q => h.run p pins s σ H Q I (i σ H Q q)⟩
theorem PSimp {X : Cx} {e : Stmt} {t t' : TS} (h : PS X e t) (i : ∀ σ H Q, t' Q σ H → t Q σ H) : PS X e t' := ⟨fun pins s σ H Q I q => h.run pins s σ H Q I (i σ H Q q)⟩

section
variable {α β γ δ : Type} {c : Cn} {R1 : RR α β} {σ : L2.St} {A : Ads} {S : Store} {H : Hp} {Q : V → Hp → Prop}
theorem Post.here {Q : β → Hp → Prop} {a : α} {b : β} (p : Post c R1 σ A S H Q (.ok a S)) (R : Rel c.K A S H) (r : R1 A S H a b) : Q b H := p A H b R .refl r
theorem Post.hereV {d : D} {v : V} (p : Post c (rV c) σ A S H Q (.ok (.d d) S)) (R : Rel c.K A S H) (r : RP c.K (Live A S) H d v) : Q v H := p A H v R .refl (RV.of r)
theorem fr_new {K : PySem.W.Frag} {p : Addr} {o : HO} {ds : List D} {vs : List V} (R : Rel K A S H) (h : H p = none) (r : RPs K (Live A S) H ds vs) : RPs K (Live A S) (upd H p o) ds vs := r.fr R (Fr.upd_new h)
theorem notLive_new {K : PySem.W.Frag} {p : Addr} (R : Rel K A S H) (h : H p = none) : ¬ Live A S p := fun l => (Live.ne R l h) rfl
theorem Post.tup {l : List D} {vs : List V} {p : Addr} (q : Post c (rV c) σ A S H Q (.ok (.d (.tup l)) S)) (R : Rel c.K A S H) (r : RPs c.K (Live A S) H l vs) (h : H p = none) : Q (.ref p) (upd H p (.tup vs)) :=
  q A _ _ (R.new h) (Stp.new h) (RV.of (.tup (SqT.of upd_same) (fr_new R h r)))
theorem Post.lst {l : List D} {vs : List V} {p : Addr} (q : Post c (rV c) σ A S H Q (.ok (.d (.lst l)) S)) (R : Rel c.K A S H) (r : RPs c.K (Live A S) H l vs) (h : H p = none) : Q (.ref p) (upd H p (.lst vs)) :=
  q A _ _ (R.new h) (Stp.new h) (RV.of (.lst (notLive_new R h) upd_same (fr_new R h r)))
end

/-! ### names and constants -/
def eVar (i : Nat) : EM := fun σd S => match σd[i]? with
  | some (some d) => .ok d S
  | _ => .bad
def eC (d : D) : EM := fun _ S => .ok (.d d) S
section
variable {X : Cx} {hx : Hx}
theorem d_var (i : Nat) {x : Str} {pos : Pos} (hN : X.N[i]? = some x := by rfl) (hv : Vis X.env.scope x := by first | exact Or.inl rfl | exact Or.inr (Or.inl rfl) | exact Or.inr (Or.inr rfl)) (hd : (x == ("__debug__" : Str)) = false := by decide)
    (hcd : (x == ("__classdict__" : Str)) = false := by decide) : DE X hx (.Name x pos) (eVar i) := ⟨fun W tk => PEimp (pv i hN hv hd hcd) fun σ H Q ⟨A, S, σd, R, E, p⟩ => by
  unfold eVar at p
  split at p
  · rename_i d e
    obtain ⟨v, h1, h2⟩ := E.at_ i d e
    exact ⟨v, h1, p.here R h2⟩
  · exact p.elim⟩
theorem d_c {e : Expr} {d : D} {v : V} (h : PE X e (tC v)) (r : ∀ lv H, RP X.K lv H d v) : DE X hx e (eC d) := ⟨fun W tk => PEimp h fun σ H Q ⟨A, S, σd, R, E, p⟩ => Post.hereV (c := ⟨X.K, hx, W⟩) p R (r _ _)⟩
theorem d_int {i j pos} : DE X hx (.Constant (.int i) j pos) (eC (.int i)) := d_c pe_int fun _ _ => .int i
theorem d_bl {b j pos} : DE X hx (.Constant (.bool b) j pos) (eC (.bl b)) := d_c pe_bl fun _ _ => .bl b
theorem d_non {j pos} : DE X hx (.Constant .none j pos) (eC .non) := d_c pe_non fun _ _ => .non
theorem d_str {x j pos} : DE X hx (.Constant (.str x) j pos) (eC (.str x)) := d_c pe_str fun _ _ => .str x
/-- a module's constant -/
structure Kon (X : Cx) (x : Str) (d : D) : Prop where
  is : ∃ u v, X.mg x = some u ∧ RelV v u ∧ ∀ lv H, RP X.K lv H d v
theorem d_glob {x : Str} {pos : Pos} {d : D} (k : Kon X x d) (hg : Gl X x := by rfl) (hd : (x == ("__debug__" : Str)) = false := by decide) : DE X hx (.Name x pos) (eC d) := by
  obtain ⟨u, v, h1, h2, h3⟩ := k.is
  exact d_c (pe_glob hg h1 h2 hd) h3

/-! ### argument lists, displays -/
def aNil : AM := fun _ S => .ok [] S
def aCons (f : EM) (g : AM) : AM := fun σd S => (f σd S).bind fun d S1 => (g σd S1).bind fun ds S2 => .ok (d :: ds) S2
theorem da_nil : DA X hx [] aNil := ⟨fun W tk => PAimp pa_nil fun σ H Q ⟨A, S, σd, R, E, p⟩ => p.here R .nil⟩
theorem da_cons {e : Expr} {es : List Expr} {f : EM} {g : AM} (h1 : DE X hx e f) (h2 : DA X hx es g) (hs : starEach (e :: es) X.env = (false, eval e X.env) :: starEach es X.env := by rfl) : DA X hx (e :: es) (aCons f g) :=
  ⟨fun W tk => PAimp (pa_cons (h1.run W tk) (h2.run W tk) hs) fun σ H Q ⟨A, S, σd, R, E, p⟩ =>
    ⟨A, S, σd, R, E, (Post.bind (R1 := rV _) p).mono fun v H1 ⟨A1, S1, d, R1, T1, r1, p1⟩ => ⟨A1, S1, σd, R1, E.step R T1, (Post.bind (R1 := rVs _) p1).mono fun vs H2 ⟨A2, S2, ds, R2, T2, r2, p2⟩ =>
      p2.here R2 (.cons (r1.step R1 T2) r2)⟩⟩⟩
/-- what goes into a container is let alone from then on -/
def fzC (S : Store) (n : Nat) : Option Cell → Res D
  | some (.lst l) => .ok (.lst l) (S.set n (.frz (.lst l)))
  | some (.dK l) => .ok (.dct (l.map (·.1)) (l.map (·.2))) (S.set n (.frz (.dct (l.map (·.1)) (l.map (·.2)))))
  | some (.frz d) => .ok d S
  | _ => .bad
def fz1 (S : Store) : Wt → Res D
  | .d x => .ok x S
  | .loc n => fzC S n S[n]?
  | .hex _ _ _ => .bad
def fzs (S : Store) : List Wt → Res (List D)
  | [] => .ok [] S
  | d :: ds => (fz1 S d).bind fun d' S1 => (fzs S1 ds).bind fun ds' S2 => .ok (d' :: ds') S2
end
section
variable {K : PySem.W.Frag} {hx : Hx} {A : Ads} {S : Store} {H : Hp} {d : Wt} {v : V}
theorem set_cases {S : Store} {n m : Nat} {c c' : Cell} (h : (S.set n c)[m]? = some c') : (m = n ∧ c' = c) ∨ (m ≠ n ∧ S[m]? = some c') := by
  by_cases e : n = m
  · subst e
    by_cases hl : n < S.length
    · rw [List.getElem?_set_self hl] at h
      exact .inl ⟨rfl, (Option.some.inj h).symm⟩
    · rw [List.getElem?_eq_none (by simpa using hl)] at h; cases h
  · rw [List.getElem?_set_ne e] at h
    exact .inr ⟨fun z => e z.symm, h⟩
/-- a live cell is let alone from now on -/
theorem freeze_ok {n : Nat} {a : Addr} {e : D} (R : Rel K A S H) (ha : A[n]? = some (some a)) (hr : ∀ lv, ¬ lv a → (∀ b, lv b → Live A S b) → RP K lv H e (.ref a)) (hu : ∃ u, H a = some u) :
    Rel K A (S.set n (.frz e)) H ∧ Stp A S H A (S.set n (.frz e)) H ∧ RP K (Live A (S.set n (.frz e))) H e (.ref a) := by
  have sub : ∀ b, Live A (S.set n (.frz e)) b → Live A S b ∧ b ≠ a := fun b ⟨m, c, h1, h2, h3⟩ => by
    rcases set_cases h2 with ⟨rfl, rfl⟩ | ⟨hm, h2⟩
    · cases h3
    · refine ⟨⟨m, c, h1, h2, h3⟩, fun z => hm (R.inj m n a (by rw [← z]; exact h1) ha)⟩
  have f : Fr A S H A (S.set n (.frz e)) H := ⟨fun _ _ h _ => h, fun b l => .inl (sub b l).1⟩
  have rp : RP K (Live A (S.set n (.frz e))) H e (.ref a) := hr _ (fun l => (sub a l).2 rfl) fun b l => (sub b l).1
  refine ⟨⟨by simp [R.len], R.inj, fun m c hc => ?_⟩, ⟨fun _ _ h => h, Nat.le_refl _, f⟩, rp⟩
  rcases set_cases hc with ⟨rfl, rfl⟩ | ⟨hm, h2⟩
  · exact .inr ⟨a, ha, rp, hu⟩
  · rcases R.cell m c h2 with q | ⟨a', ha', ok⟩
    · exact .inl q
    · exact .inr ⟨a', ha', ok.fr R f fun _ h => h⟩
theorem fz1_ok (R : Rel K A S H) (r : RV K hx A (Live A S) H d v) {d' : D} {S' : Store} (h : fz1 S d = .ok d' S') : Rel K A S' H ∧ Stp A S H A S' H ∧ RP K (Live A S') H d' v := by
  cases d with
  | loc n =>
    obtain ⟨a, ha, rfl⟩ := r
    obtain ⟨c, u, hc, hu, ok⟩ := R.known ha
    have h : fzC S n S[n]? = .ok d' S' := h
    rw [hc] at h
    cases c with
    | dead => exact ok.elim
    | ins C l => cases h
    | frz d => cases h; exact ⟨R, .refl, ok.1⟩
    | lst l =>
      cases h
      obtain ⟨vs, h1, h2⟩ := ok
      exact freeze_ok R ha (fun lv n s => .lst n h1 (RPs.mono (fun _ _ q => q) (fun b u nb q => ⟨fun z => nb (s b z), q⟩) _ _ h2)) ⟨_, h1⟩
    | dK l =>
      cases h
      obtain ⟨kvs, h1, h2, h3⟩ := ok
      refine freeze_ok R ha (fun lv n s => ?_) ⟨_, h1⟩
      rw [← h2]
      exact .dct n (.inl h1) (RPs.mono (fun _ _ q => q) (fun b u nb q => ⟨fun z => nb (s b z), q⟩) _ _ h3)
  | hex C ns l => cases h
  | d x => cases h; exact ⟨R, .refl, r⟩
theorem fz1_exc {C : Str} {ns : List Str} {l : List D} {S' : Store} : fz1 S d ≠ .exc C ns l S' := by
  cases d with
  | loc n =>
    intro h
    have h : fzC S n S[n]? = .exc C ns l S' := h
    unfold fzC at h
    split at h <;> cases h
  | _ => intro h; cases h
theorem fzs_ok : ∀ {S : Store} {ds : List Wt} {vs : List V}, Rel K A S H → Paired (fun d v => RV K hx A (Live A S) H d v) ds vs → ∀ {l : List D} {S' : Store}, fzs S ds = .ok l S' → Rel K A S' H ∧ Stp A S H A S' H ∧ RPs K (Live A S') H l vs
  | S, _, _, R, .nil, l, S', h => by cases h; exact ⟨R, .refl, .nil⟩
  | S, _, _, R, .cons (a := d) (l₁ := ds) r t, l, S', h => by
    unfold fzs Res.bind at h
    cases e : fz1 S d with
    | bad => rw [e] at h; cases h
    | exc C ns k S2 => exact (fz1_exc e).elim
    | ok d' S1 =>
      rw [e] at h
      obtain ⟨R1, T1, r1⟩ := fz1_ok R r e
      cases e2 : fzs S1 ds with
      | bad => simp [e2] at h
      | exc C ns k S2 => simp [e2] at h
      | ok ds' S2 =>
        simp only [e2] at h
        cases h
        obtain ⟨R2, T2, r2⟩ := fzs_ok R1 (Paired.mapP t fun d v q => RV.step (hx := hx) R T1 q) e2
        exact ⟨R2, T1.trans T2, .cons (r1.fr R1 T2.fr) r2⟩
theorem fzs_exc : ∀ {S : Store} {ds : List Wt} {C : Str} {ns : List Str} {l : List D} {S' : Store}, fzs S ds ≠ .exc C ns l S'
  | S, [], _, _, _, _ => fun h => by cases h
  | S, d :: ds, C, ns, l, S' => fun h => by
    unfold fzs Res.bind at h
    cases e : fz1 S d with
    | bad => rw [e] at h; cases h
    | exc C ns k S2 => exact (fz1_exc e).elim
    | ok d' S1 =>
      rw [e] at h
      cases e2 : fzs S1 ds with
      | bad => simp [e2] at h
      | exc C ns k S2 => exact (fzs_exc e2).elim
      | ok ds' S2 => simp [e2] at h
end
abbrev lim : Nat := 10000000
theorem lim_line {n : Nat} (h : n ≤ lim) : n ≤ sizeLine := by rw [sizeLine_eq]; have : n ≤ 10000000 := h; omega
theorem lim_lt {n : Nat} (h : n < lim) : n < sizeLine := by rw [sizeLine_eq]; have : n < 10000000 := h; omega
/-- a tuple, a list of written items; listL: a new cell of the store -/
def mkSeq (t : Bool) (l : List D) (S : Store) : Res Wt := if l.length ≤ lim then .ok (.d (if t then .tup l else .lst l)) S else .bad
def eTup (g : AM) : EM := fun σd S => (g σd S).bind fun ds S1 => (fzs S1 ds).bind fun l S2 => mkSeq true l S2
def eLst (g : AM) : EM := fun σd S => (g σd S).bind fun ds S1 => (fzs S1 ds).bind fun l S2 => mkSeq false l S2
def eLstL (g : AM) : EM := fun σd S => (g σd S).bind fun ds S1 => (fzs S1 ds).bind fun l S2 => if l.length ≤ lim then .ok (.loc S2.length) (S2 ++ [.lst l]) else .bad
section
variable {X : Cx} {hx : Hx} {es : List Expr} {g : AM} {pos : Pos}
/-- what goes in is made ready -/
theorem Post.fzs {c : Cn} {σ : L2.St} {A : Ads} {S : Store} {H : Hp} {ds : List Wt} {vs : List V} {γ δ : Type} {R2 : RR γ δ} {Q : δ → Hp → Prop} {k : List D → Store → Res γ} (R : Rel c.K A S H) (r : rVs c A S H ds vs)
    (p : Post c R2 σ A S H Q ((Y.fzs S ds).bind k)) : ∃ l S', Rel c.K A S' H ∧ Stp A S H A S' H ∧ RPs c.K (Live A S') H l vs ∧ l.length = vs.length ∧ Post c R2 σ A S' H Q (k l S') := by
  cases e : Y.fzs S ds with
  | bad => rw [e] at p; exact p.elim
  | exc C ns k S2 => exact (fzs_exc e).elim
  | ok l S' =>
    rw [e] at p
    obtain ⟨R1, T1, r1⟩ := fzs_ok R r e
    exact ⟨l, S', R1, T1, r1, r1.length, Post.shift T1 p⟩
theorem Post.fz1 {c : Cn} {σ : L2.St} {A : Ads} {S : Store} {H : Hp} {d : Wt} {v : V} {γ δ : Type} {R2 : RR γ δ} {Q : δ → Hp → Prop} {k : D → Store → Res γ} (R : Rel c.K A S H) (r : rV c A S H d v)
    (p : Post c R2 σ A S H Q ((Y.fz1 S d).bind k)) : ∃ d' S', Rel c.K A S' H ∧ Stp A S H A S' H ∧ RP c.K (Live A S') H d' v ∧ Post c R2 σ A S' H Q (k d' S') := by
  cases e : Y.fz1 S d with
  | bad => rw [e] at p; exact p.elim
  | exc C ns k S2 => exact (fz1_exc e).elim
  | ok l S' =>
    rw [e] at p
    obtain ⟨R1, T1, r1⟩ := fz1_ok R r e
    exact ⟨l, S', R1, T1, r1, Post.shift T1 p⟩
theorem Post.iteP {c : Cn} {γ δ : Type} {R2 : RR γ δ} {σ : L2.St} {A : Ads} {S : Store} {H : Hp} {Q : δ → Hp → Prop} {b : Prop} [Decidable b] {r : Res γ} (p : Post c R2 σ A S H Q (if b then r else .bad)) : b ∧ Post c R2 σ A S H Q r := by
  by_cases h : b
  · rw [if_pos h] at p; exact ⟨h, p⟩
  · rw [if_neg h] at p; exact p.elim
theorem d_tup {x1} (h : DA X hx es g) : DE X hx (.Tuple es x1 pos) (eTup g) := ⟨fun W tk => PEimp (pe_tup (h.run W tk)) fun σ H Q ⟨A, S, σd, R, E, p⟩ =>
  ⟨A, S, σd, R, E, (Post.bind (R1 := rVs _) p).mono fun vs H1 ⟨A1, S1, ds, R1, T1, r1, p1⟩ => by
    obtain ⟨l, S2, R2, T2, r2, hl, p2⟩ := p1.fzs R1 r1
    obtain ⟨hz, p3⟩ := Post.iteP p2
    exact ⟨by rw [← hl]; exact lim_line hz, fun q hq => p3.tup R2 r2 hq⟩⟩⟩
theorem d_lst (h : DA X hx es g) : DE X hx (.List es pos) (eLst g) := ⟨fun W tk => PEimp (pe_lst (h.run W tk)) fun σ H Q ⟨A, S, σd, R, E, p⟩ =>
  ⟨A, S, σd, R, E, (Post.bind (R1 := rVs _) p).mono fun vs H1 ⟨A1, S1, ds, R1, T1, r1, p1⟩ => by
    obtain ⟨l, S2, R2, T2, r2, hl, p2⟩ := p1.fzs R1 r1
    obtain ⟨hz, p3⟩ := Post.iteP p2
    exact ⟨by rw [← hl]; exact lim_line hz, fun q hq => p3.lst R2 r2 hq⟩⟩⟩
theorem Post.alloc {c : Cn} {σ : L2.St} {A : Ads} {S : Store} {H : Hp} {Q : V → Hp → Prop} {l : List D} {vs : List V} {p : Addr} (q : Post c (rV c) σ A S H Q (.ok (.loc S.length) (S ++ [.lst l]))) (R : Rel c.K A S H) (r : RPs c.K (Live A S) H l vs) (h : H p = none) :
    Q (.ref p) (upd H p (.lst vs)) := by
  obtain ⟨R1, T1⟩ := Rel.alloc (c := .lst l) (o := .lst vs) R h ⟨vs, upd_same, r.fr R (Fr.alloc R.len h)⟩
  exact q _ _ _ R1 T1 ⟨p, by rw [← R.len]; simp, rfl⟩
theorem d_lstL (h : DA X hx es g) : DE X hx (.List es pos) (eLstL g) := ⟨fun W tk => PEimp (pe_lst (h.run W tk)) fun σ H Q ⟨A, S, σd, R, E, p⟩ =>
  ⟨A, S, σd, R, E, (Post.bind (R1 := rVs _) p).mono fun vs H1 ⟨A1, S1, ds, R1, T1, r1, p1⟩ => by
    obtain ⟨l, S2, R2, T2, r2, hl, p2⟩ := p1.fzs R1 r1
    obtain ⟨hz, p3⟩ := Post.iteP p2
    exact ⟨by rw [← hl]; exact lim_line hz, fun q hq => p3.alloc R2 r2 hq⟩⟩⟩
end
end Y
end
section
/-! Y4: operators and comparisons. -/
namespace Y
open PySem PySem.Spec PyProof.Rows L2

def rD (c : Cn) (f : Wt → Wt → Store → Res Wt) : R2 := fun x y H Q => ∃ A S σ d1 d2, Rel c.K A S H ∧ rV c A S H d1 x ∧ rV c A S H d2 y ∧ Post c (rV c) σ A S H Q (f d1 d2 S)
def OpD (X : Cx) (hx : Hx) (op : Value → Value → Sem Value) (f : Wt → Wt → Store → Res Wt) : Prop := ∀ W, OpR X op (rD ⟨X.K, hx, W⟩ f)
theorem readAs {c : Cn} {A : Ads} {S : Store} {H : Hp} {d : Wt} {d' : D} {v : V} (R : Rel c.K A S H) (r : rV c A S H d v) (e : deref S d = some d') : RX c.K (Live A S) H d' v := RV.read R r e

def opAdd (a b : Wt) (S : Store) : Res Wt := match deref S a, deref S b with
  | some (.int i), some (.int j) => .ok (.d (.int (i + j))) S
  | some (.str x), some (.str y) => if x.length + y.length ≤ lim then .ok (.d (.str (x ++ y))) S else .bad
  | some (.tup l), some (.tup m) => if l.length + m.length ≤ lim then .ok (.d (.tup (l ++ m))) S else .bad
  | some (.lst l), some (.lst m) => if l.length + m.length ≤ lim then .ok (.d (.lst (l ++ m))) S else .bad
  | _, _ => .bad
/-- a list + a list, into a new cell -/
def opCatL (a b : Wt) (S : Store) : Res Wt := match deref S a, deref S b with
  | some (.lst l), some (.lst m) => if l.length + m.length ≤ lim then .ok (.loc S.length) (S ++ [.lst (l ++ m)]) else .bad
  | _, _ => .bad
def opSub (a b : Wt) (S : Store) : Res Wt := match deref S a, deref S b with
  | some (.int i), some (.int j) => .ok (.d (.int (i - j))) S
  | _, _ => .bad
def mulOk (i j : Int) : Bool := decide (i.natAbs.log2 + j.natAbs.log2 ≤ 100000000)
def repT (l : List D) (k : Int) : Option (List D) := if l = [] ∨ k ≤ 0 then none else none
def opMul (a b : Wt) (S : Store) : Res Wt := match deref S a, deref S b with
  | some (.int i), some (.int j) => if mulOk i j then .ok (.d (.int (i * j))) S else .bad
  | some (.lst l), some (.int k) => if 0 ≤ k ∧ k < 10000000 ∧ l.length * k.toNat ≤ lim then .ok (.d (.lst (List.replicate k.toNat l).flatten)) S else .bad
  | some (.str x), some (.int k) => if 0 ≤ k ∧ k ≤ 1000 ∧ x.length ≤ 1000 then .ok (.d (.str (Txt.mul x k))) S else .bad
  | some (.tup l), some (.int k) => if l ≠ [] ∧ 2 ≤ k ∧ k ≤ 1000 ∧ l.length ≤ 1000 then .ok (.d (.tup (List.replicate k.toNat l).flatten)) S else .bad
  | _, _ => .bad
def opRepL (a b : Wt) (S : Store) : Res Wt := match deref S a, deref S b with
  | some (.lst l), some (.int k) => if 0 ≤ k ∧ k < 10000000 ∧ l.length * k.toNat ≤ lim then .ok (.loc S.length) (S ++ [.lst (List.replicate k.toNat l).flatten]) else .bad
  | _, _ => .bad
def opFdiv (a b : Wt) (S : Store) : Res Wt := match deref S a, deref S b with
  | some (.int i), some (.int j) => if j ≠ 0 ∧ j.natAbs.log2 < 9000 then .ok (.d (.int (i.fdiv j))) S else .bad
  | _, _ => .bad
def opMod (a b : Wt) (S : Store) : Res Wt := match deref S a, deref S b with
  | some (.int i), some (.int j) => if j ≠ 0 then .ok (.d (.int (i.fmod j))) S else .bad
  | _, _ => .bad
def opPow (a b : Wt) (S : Store) : Res Wt := match deref S a, deref S b with
  | some (.int i), some (.int j) => if 0 ≤ j ∧ j ≤ 1000000 ∧ i.natAbs < 2 ^ 64 then .ok (.d (.int (i ^ j.toNat))) S else .bad
  | _, _ => .bad
def opNeg (a : Wt) (S : Store) : Res Wt := match deref S a with
  | some (.int i) => .ok (.d (.int (-i))) S
  | _ => .bad

section
variable {X : Cx} {hx : Hx}
theorem RPs.len {K : PySem.W.Frag} {lv : Addr → Prop} {H : Hp} {l : List D} {vs : List V} (h : RPs K lv H l vs) : l.length = vs.length := h.length
theorem rps_nil {K : PySem.W.Frag} {lv : Addr → Prop} {H : Hp} {l : List D} (h : RPs K lv H l []) : l = [] := by cases h; rfl
theorem od_add : OpD X hx (binaryOp .Add) opAdd := by
  intro W pins s σ H x y v u Q I rx ry h
  obtain ⟨A, S, σ', d1, d2, R, r1, r2, p⟩ := h
  unfold opAdd at p
  split at p
  · rename_i i j e1 e2
    exact op_add pins s σ H x y v u Q I rx ry ⟨i, j, (readAs R r1 e1).int, (readAs R r2 e2).int, p.hereV R (.int _)⟩
  · rename_i i j e1 e2
    obtain ⟨hz, p⟩ := Post.iteP p
    exact op_add_str pins s σ H x y v u Q I rx ry ⟨i, j, (readAs R r1 e1).str, (readAs R r2 e2).str, lim_line hz, p.hereV R (.str _)⟩
  · rename_i i j e1 e2
    obtain ⟨hz, p⟩ := Post.iteP p
    obtain ⟨a, vs, rfl, h1, g1⟩ := (readAs R r1 e1).tup
    obtain ⟨b, us, rfl, h2, g2⟩ := (readAs R r2 e2).tup
    refine op_catA pins s σ H _ _ v u Q I rx ry ⟨a, b, vs, us, rfl, rfl, h1, h2, ?_, fun e => ?_, fun _ e => ?_, fun _ _ q hq => ?_⟩
    · rw [← g1.len, ← g2.len]; exact lim_line hz
    · subst e
      have := rps_nil g1
      subst this
      exact p.hereV R (.tup h2 g2)
    · subst e
      have := rps_nil g2
      subst this
      rw [List.append_nil] at p
      exact p.hereV R (.tup h1 g1)
    · exact p.tup R (g1.append g2) hq
  · rename_i i j e1 e2
    obtain ⟨hz, p⟩ := Post.iteP p
    obtain ⟨a, vs, rfl, h1, g1⟩ := (readAs R r1 e1).lst
    obtain ⟨b, us, rfl, h2, g2⟩ := (readAs R r2 e2).lst
    exact op_cat pins s σ H _ _ v u Q I rx ry ⟨a, b, vs, us, rfl, rfl, h1, h2, by rw [← g1.len, ← g2.len]; exact lim_line hz, fun q hq => p.lst R (g1.append g2) hq⟩
  · exact p.elim
theorem od_catL : OpD X hx (binaryOp .Add) opCatL := by
  intro W pins s σ H x y v u Q I rx ry h
  obtain ⟨A, S, σ', d1, d2, R, r1, r2, p⟩ := h
  unfold opCatL at p
  split at p
  · rename_i i j e1 e2
    obtain ⟨hz, p⟩ := Post.iteP p
    obtain ⟨a, vs, rfl, h1, g1⟩ := (readAs R r1 e1).lst
    obtain ⟨b, us, rfl, h2, g2⟩ := (readAs R r2 e2).lst
    exact op_cat pins s σ H _ _ v u Q I rx ry ⟨a, b, vs, us, rfl, rfl, h1, h2, by rw [← g1.len, ← g2.len]; exact lim_line hz, fun q hq => p.alloc R (g1.append g2) hq⟩
  · exact p.elim
theorem od_sub : OpD X hx (binaryOp .Sub) opSub := by
  intro W pins s σ H x y v u Q I rx ry h
  obtain ⟨A, S, σ', d1, d2, R, r1, r2, p⟩ := h
  unfold opSub at p
  split at p
  · rename_i i j e1 e2
    exact op_sub pins s σ H x y v u Q I rx ry ⟨i, j, (readAs R r1 e1).int, (readAs R r2 e2).int, p.hereV R (.int _)⟩
  · exact p.elim
theorem rps_rep {K : PySem.W.Frag} {lv : Addr → Prop} {H : Hp} {l : List D} {vs : List V} (h : RPs K lv H l vs) : ∀ n : Nat, RPs K lv H (List.replicate n l).flatten (List.replicate n vs).flatten
  | 0 => by simpa using RPs.nil
  | n + 1 => by
    rw [List.replicate_succ, List.replicate_succ, List.flatten_cons, List.flatten_cons]
    exact h.append (rps_rep h n)
theorem mulOk_ok {i j : Int} (h : mulOk i j = true) : CMulX i j := by
  have h := of_decide_eq_true h
  have b : ∀ x : Int, Builtin.Int.intBits x ≤ x.natAbs.log2 + 1 := fun x => by
    unfold Builtin.Int.intBits
    split <;> omega
  have h1 := b i
  have h2 := b j
  unfold CMulX
  omega
theorem mulS_ok {x : Str} {k : Int} (h0 : 0 ≤ k) (h1 : k ≤ 1000) (h2 : x.length ≤ 1000) : MulOk x k := by
  refine ⟨by rw [decide_eq_false (by omega), decide_eq_false (by omega)]; rfl, fun a _ b => ?_, fun a _ => ?_⟩
  · have : ((x.length : Nat) : Int) ≤ (2 ^ 63 - 1) / k := by
      rw [Int.le_ediv_iff_mul_le (by omega)]
      have a1 : ((x.length : Nat) : Int) * k ≤ 1000 * k := Int.mul_le_mul_of_nonneg_right (by omega) (by omega)
      omega
    omega
  · have a1 : x.length * k.toNat ≤ 1000 * 1000 := Nat.mul_le_mul h2 (by omega)
    unfold Builtin.Str.tooLong
    rw [sizeLine_eq]
    exact decide_eq_false (by omega)
theorem op_mulS {X : Cx} : OpR X (binaryOp .Mult) (fun x y H Q => ∃ (i : Str) (k : Int), x = .str i ∧ y = .int k ∧ 0 ≤ k ∧ k ≤ 1000 ∧ i.length ≤ 1000 ∧ Q (.str (Txt.mul i k)) H) := by
  intro pins s σ H x y v u Q I rx ry h
  obtain ⟨i, k, rfl, rfl, h0, h1, h2, q⟩ := h
  obtain ⟨t, rfl⟩ := rx
  obtain ⟨t', rfl⟩ := ry
  exact SB.mul (mulS_ok h0 h1 h2) fun t' tk => ⟨.str (Txt.mul i k), H, I.tok _, ⟨_, rfl⟩, q⟩
theorem od_mul : OpD X hx (binaryOp .Mult) opMul := by
  intro W pins s σ H x y v u Q I rx ry h
  obtain ⟨A, S, σ', d1, d2, R, r1, r2, p⟩ := h
  unfold opMul at p
  split at p
  · rename_i i j e1 e2
    obtain ⟨hz, p⟩ := Post.iteP p
    exact op_mulX pins s σ H x y v u Q I rx ry ⟨i, j, (readAs R r1 e1).int, (readAs R r2 e2).int, mulOk_ok hz, p.hereV R (.int _)⟩
  · rename_i i j e1 e2
    obtain ⟨⟨z1, z2, z3⟩, p⟩ := Post.iteP p
    obtain ⟨a, vs, rfl, h1, g1⟩ := (readAs R r1 e1).lst
    have h2 := (readAs R r2 e2).int
    exact op_rep pins s σ H _ _ v u Q I rx ry ⟨a, j, vs, rfl, h2, h1, by omega, by omega, by rw [← g1.len]; exact lim_line z3, fun q hq => p.lst R (rps_rep g1 _) hq⟩
  · rename_i i j e1 e2
    obtain ⟨⟨z0, z1, z2⟩, p⟩ := Post.iteP p
    exact op_mulS pins s σ H x y v u Q I rx ry ⟨i, j, (readAs R r1 e1).str, (readAs R r2 e2).int, z0, z1, z2, p.hereV R (.str _)⟩
  · rename_i i j e1 e2
    obtain ⟨⟨z0, z1, z2, z3⟩, p⟩ := Post.iteP p
    obtain ⟨a, vs, rfl, h1, g1⟩ := (readAs R r1 e1).tup
    have h2 := (readAs R r2 e2).int
    exact op_repT pins s σ H _ _ v u Q I rx ry ⟨a, j, vs, rfl, h2, h1, fun e => z0 (by subst e; exact rps_nil g1), z1, z2, by rw [← g1.len]; exact z3, fun q hq => p.tup R (rps_rep g1 _) hq⟩
  · exact p.elim
theorem od_repL : OpD X hx (binaryOp .Mult) opRepL := by
  intro W pins s σ H x y v u Q I rx ry h
  obtain ⟨A, S, σ', d1, d2, R, r1, r2, p⟩ := h
  unfold opRepL at p
  split at p
  · rename_i i j e1 e2
    obtain ⟨⟨z1, z2, z3⟩, p⟩ := Post.iteP p
    obtain ⟨a, vs, rfl, h1, g1⟩ := (readAs R r1 e1).lst
    have h2 := (readAs R r2 e2).int
    exact op_rep pins s σ H _ _ v u Q I rx ry ⟨a, j, vs, rfl, h2, h1, by omega, by omega, by rw [← g1.len]; exact lim_line z3, fun q hq => p.alloc R (rps_rep g1 _) hq⟩
  · exact p.elim
theorem op_fdivG : OpR X (binaryOp .FloorDiv) (rI (fun _ j => j ≠ 0 ∧ j.natAbs.log2 < 9000) fun i j => .int (i.fdiv j)) := opI fun i j _ _ _ _ _ hc q =>
  floordiv_int hc.1 q (.inl (PyProof.noPylong_of_log2 hc.2))
theorem od_fdiv : OpD X hx (binaryOp .FloorDiv) opFdiv := by
  intro W pins s σ H x y v u Q I rx ry h
  obtain ⟨A, S, σ', d1, d2, R, r1, r2, p⟩ := h
  unfold opFdiv at p
  split at p
  · rename_i i j e1 e2
    obtain ⟨hz, p⟩ := Post.iteP p
    exact op_fdivG pins s σ H x y v u Q I rx ry ⟨i, j, (readAs R r1 e1).int, (readAs R r2 e2).int, hz, p.hereV R (.int _)⟩
  · exact p.elim
theorem od_mod : OpD X hx (binaryOp .Mod) opMod := by
  intro W pins s σ H x y v u Q I rx ry h
  obtain ⟨A, S, σ', d1, d2, R, r1, r2, p⟩ := h
  unfold opMod at p
  split at p
  · rename_i i j e1 e2
    obtain ⟨hz, p⟩ := Post.iteP p
    exact op_modN pins s σ H x y v u Q I rx ry ⟨i, j, (readAs R r1 e1).int, (readAs R r2 e2).int, hz, p.hereV R (.int _)⟩
  · exact p.elim
theorem od_pow : OpD X hx (binaryOp .Pow) opPow := by
  intro W pins s σ H x y v u Q I rx ry h
  obtain ⟨A, S, σ', d1, d2, R, r1, r2, p⟩ := h
  unfold opPow at p
  split at p
  · rename_i i j e1 e2
    obtain ⟨hz, p⟩ := Post.iteP p
    exact op_pow pins s σ H x y v u Q I rx ry ⟨i, j, (readAs R r1 e1).int, (readAs R r2 e2).int, hz, p.hereV R (.int _)⟩
  · exact p.elim
end

/-! ### equality -/
mutual
def toPy : D → Option PyData
  | .non => some .none
  | .bl b => some (.bool b)
  | .int i => some (.int i)
  | .str x => some (.str x)
  | .tup l => match toPys l with
    | some ds => some (.tuple ds)
    | none => none
  | .lst l => match toPys l with
    | some ds => some (.list ds)
    | none => none
  | _ => none
def toPys : List D → Option (List PyData)
  | [] => some []
  | d :: ds => match toPy d, toPys ds with
    | some p, some ps => some (p :: ps)
    | _, _ => none
end
section
variable {K : PySem.W.Frag} {lv : Addr → Prop} {H : Hp}
mutual
theorem dp_of : ∀ (d : D) (v : V) (p : PyData), RP K lv H d v → toPy d = some p → Dp K H v p
  | .non, _, _, h, e => by cases h; simp [toPy] at e; subst e; exact .non
  | .bl b, _, _, h, e => by cases h; simp [toPy] at e; subst e; exact .bl b
  | .int b, _, _, h, e => by cases h; simp [toPy] at e; subst e; exact .int b
  | .str b, _, _, h, e => by cases h; simp [toPy] at e; subst e; exact .str b
  | .tup l, _, _, h, e => by
    cases h with
    | tup h1 h2 =>
      rw [toPy] at e
      cases q : toPys l with
      | none => rw [q] at e; cases e
      | some ds => rw [q] at e; cases e; exact .tup h1 (dps_of l _ ds h2 q)
  | .lst l, _, _, h, e => by
    cases h with
    | lst h0 h1 h2 =>
      rw [toPy] at e
      cases q : toPys l with
      | none => rw [q] at e; cases e
      | some ds => rw [q] at e; cases e; exact .lst (SqL.of h1) (dps_of l _ ds h2 q)
  | .fls _, _, _, _, e => by simp [toPy] at e
  | .dct _ _, _, _, _, e => by simp [toPy] at e
  | .gl _, _, _, _, e => by simp [toPy] at e
  | .ty _, _, _, _, e => by simp [toPy] at e
  | .exo _ _ _, _, _, _, e => by simp [toPy] at e
theorem dps_of : ∀ (ds : List D) (vs : List V) (ps : List PyData), RPs K lv H ds vs → toPys ds = some ps → DpAll K H vs ps
  | [], _, _, h, e => by cases h; simp [toPys] at e; subst e; exact .nil
  | d :: ds, _, _, h, e => by
    cases h with
    | cons h1 h2 =>
      rw [toPys] at e
      cases q1 : toPy d with
      | none => rw [q1] at e; cases e
      | some p =>
        cases q2 : toPys ds with
        | none => rw [q1, q2] at e; cases e
        | some ps => rw [q1, q2] at e; cases e; exact .cons (dp_of d _ p h1 q1) (dps_of ds _ ps h2 q2)
end
theorem dpx_of {d : D} {v : V} {p : PyData} (h : RX K lv H d v) (e : toPy d = some p) : Dp K H v p := by
  rcases h with h | ⟨l, a, vs, rfl, rfl, h1, h2⟩ | ⟨l, a, kvs, rfl, _⟩
  · exact dp_of d v p h e
  · rw [toPy] at e
    cases q : toPys l with
    | none => rw [q] at e; cases e
    | some ds => rw [q] at e; cases e; exact .lst (SqL.of h1) (dps_of l _ ds h2 q)
  · simp [toPy] at e
end
/-- none, bools, ints, texts -/
def D.scal : D → D → Bool
  | .non, .non => true | .non, .int _ => true | .int _, .non => true | .non, .bl _ => true | .bl _, .non => true | .non, .str _ => true | .str _, .non => true
  | .int _, .int _ => true | .bl _, .bl _ => true | .str _, .str _ => true
  | .int _, .str _ => true | .str _, .int _ => true | .bl _, .str _ => true | .str _, .bl _ => true
  | _, _ => false
def deq (a b : D) : Bool := match toPy a, toPy b with
  | some p, some q => PyData.eqv p q
  | _, _ => false
/-- plain data, not too deep: == is told of it -/
def D.shp (d : D) : Bool := match toPy d with
  | some p => SeqAt.shaped p
  | none => false
def eqOk (a b : D) : Bool := a.scal b || (a.shp && b.shp)
def opEq (neg : Bool) (a b : Wt) (S : Store) : Res Wt := match deref S a, deref S b with
  | some x, some y => if eqOk x y then .ok (.d (.bl (if neg then !deq x y else deq x y))) S else .bad
  | _, _ => .bad
theorem shp_ok {d : D} (h : d.shp = true) : ∃ p, toPy d = some p ∧ SeqAt.shaped p = true := by
  unfold D.shp at h
  cases e : toPy d with
  | none => rw [e] at h; cases h
  | some p => rw [e] at h; exact ⟨p, rfl, h⟩
theorem scal_ok {K : PySem.W.Frag} {lv : Addr → Prop} {H : Hp} {a b : D} {x y : V} (ra : RX K lv H a x) (rb : RX K lv H b y) (h : a.scal b = true) : L2.scal x y = true ∧ decide (x = y) = deq a b := by
  unfold D.scal at h
  split at h <;> first
    | ((first | obtain rfl := ra.non | obtain rfl := ra.int | obtain rfl := ra.bl | obtain rfl := ra.str) <;> (first | obtain rfl := rb.non | obtain rfl := rb.int | obtain rfl := rb.bl | obtain rfl := rb.str) <;> refine ⟨rfl, ?_⟩ <;> simp [deq, toPy, PyData.eqv, Bool.beq_eq_decide_eq]; done)
    | cases h
section
variable {X : Cx} {hx : Hx}
theorem od_eq (hu : X.A.units + 64 < cLine) : OpD X hx (compareOp .Eq) (opEq false) := by
  intro W pins s σ H x y v u Q I rx ry h
  obtain ⟨A, S, σ', d1, d2, R, r1, r2, p⟩ := h
  unfold opEq at p
  split at p
  · rename_i a b g1 g2
    obtain ⟨hz, p⟩ := Post.iteP p
    unfold eqOk at hz
    cases hs : a.scal b with
    | true =>
      obtain ⟨q1, q2⟩ := scal_ok (readAs R r1 g1) (readAs R r2 g2) hs
      refine op_eq pins s σ H x y v u Q I rx ry ⟨q1, ?_⟩
      rw [q2]
      exact p.hereV R (.bl _)
    | false =>
      rw [hs, Bool.false_or, Bool.and_eq_true] at hz
      obtain ⟨p1, e1, s1⟩ := shp_ok hz.1
      obtain ⟨p2, e2, s2⟩ := shp_ok hz.2
      refine op_eqD hu pins s σ H x y v u Q I rx ry ⟨p1, p2, dpx_of (readAs R r1 g1) e1, dpx_of (readAs R r2 g2) e2, s1, s2, ?_⟩
      have e : deq a b = PyData.eqv p1 p2 := by unfold deq; rw [e1, e2]
      rw [← e]
      exact p.hereV R (.bl _)
  · exact p.elim
theorem od_ne (hu : X.A.units + 64 < cLine) : OpD X hx (compareOp .NotEq) (opEq true) := by
  intro W pins s σ H x y v u Q I rx ry h
  obtain ⟨A, S, σ', d1, d2, R, r1, r2, p⟩ := h
  unfold opEq at p
  split at p
  · rename_i a b g1 g2
    obtain ⟨hz, p⟩ := Post.iteP p
    unfold eqOk at hz
    cases hs : a.scal b with
    | true =>
      obtain ⟨q1, q2⟩ := scal_ok (readAs R r1 g1) (readAs R r2 g2) hs
      refine op_ne pins s σ H x y v u Q I rx ry ⟨q1, ?_⟩
      rw [q2]
      exact p.hereV R (.bl _)
    | false =>
      rw [hs, Bool.false_or, Bool.and_eq_true] at hz
      obtain ⟨p1, e1, s1⟩ := shp_ok hz.1
      obtain ⟨p2, e2, s2⟩ := shp_ok hz.2
      refine op_neD hu pins s σ H x y v u Q I rx ry ⟨p1, p2, dpx_of (readAs R r1 g1) e1, dpx_of (readAs R r2 g2) e2, s1, s2, ?_⟩
      have e : deq a b = PyData.eqv p1 p2 := by unfold deq; rw [e1, e2]
      rw [← e]
      exact p.hereV R (.bl _)
  · exact p.elim
end
end Y
end
section
/-! Y5: comparisons, in, is, subscripts, slices, and, or, not, if, tests. -/
namespace Y
open PySem PySem.Spec PyProof.Rows L2

def eOp (f : Wt → Wt → Store → Res Wt) (fa fb : EM) : EM := fun σd S => (fa σd S).bind fun x S1 => (fb σd S1).bind fun y S2 => f x y S2
def eUn (f : Wt → Store → Res Wt) (fa : EM) : EM := fun σd S => (fa σd S).bind fun x S1 => f x S1
theorem eOp_tOp {c : Cn} {f : Wt → Wt → Store → Res Wt} {fa fb : EM} {σ : L2.St} {H : Hp} {Q : VK} (h : tE c (eOp f fa fb) σ H Q) : tOp (rD c f) (tE c fa) (tE c fb) σ H Q := by
  obtain ⟨A, S, σd, R, E, p⟩ := h
  exact ⟨A, S, σd, R, E, (Post.bind (R1 := rV c) p).mono fun v H1 ⟨A1, S1, d, R1, T1, r1, p1⟩ => ⟨A1, S1, σd, R1, E.step R T1, (Post.bind (R1 := rV c) p1).mono fun u H2 ⟨A2, S2, d2, R2, T2, r2, p2⟩ =>
    ⟨A2, S2, σ, d, d2, R2, r1.step R1 T2, r2, p2⟩⟩⟩
/-- a bool -/
def asB : Wt → Store → Res Bool
  | .d (.bl b), S => .ok b S
  | _, _ => .bad
def tBl (f : EM) : TM := fun σd S => (f σd S).bind asB
theorem asB_cases (d : Wt) (S : Store) : (∃ b, d = .d (.bl b)) ∨ Y.asB d S = .bad := by
  cases d with
  | d x => cases x <;> first | exact .inl ⟨_, rfl⟩ | exact .inr rfl
  | _ => exact .inr rfl
theorem Post.asB {c : Cn} {σ : L2.St} {A : Ads} {S : Store} {H : Hp} {d : Wt} {v : V} {Q : Bool → Hp → Prop} (R : Rel c.K A S H) (r : rV c A S H d v) (p : Post c rB σ A S H Q (Y.asB d S)) : ∃ k, v = .bl k ∧ Q k H := by
  rcases asB_cases d S with ⟨b, rfl⟩ | e
  · have e : RP c.K (Live A S) H (.bl b) v := r
    cases e
    exact ⟨b, rfl, p.here R rfl⟩
  · rw [e] at p; exact p.elim
theorem tBl_of {c : Cn} {f : EM} {σ : L2.St} {H : Hp} {Q : Bool → Hp → Prop} (h : tT c (tBl f) σ H Q) : tE c f σ H fun x H' => ∃ k, x = .bl k ∧ Q k H' := by
  obtain ⟨A, S, σd, R, E, p⟩ := h
  exact ⟨A, S, σd, R, E, (Post.bind (R1 := rV c) p).mono fun v H1 ⟨A1, S1, d, R1, T1, r1, p1⟩ => p1.asB R1 r1⟩
section
variable {X : Cx} {hx : Hx} {a b c : Expr} {fa fb fc : EM} {f f' : Wt → Wt → Store → Res Wt} {pos : Pos}
theorem d_bin {op : Operator} (ho : OpD X hx (binaryOp op) f) (ha : DE X hx a fa) (hb : DE X hx b fb) : DE X hx (.BinOp a op b pos) (eOp f fa fb) := ⟨fun W tk => PEimp (pe_op (ho W) (ha.run W tk) (hb.run W tk)) fun σ H Q h => eOp_tOp h⟩
theorem d_cmp {op : CmpOp} (ho : OpD X hx (compareOp op) f) (ha : DE X hx a fa) (hb : DE X hx b fb) (hm : behindInMarks op b = false := by first | exact nobehind _ (by decide) (by decide) | rfl | with_unfolding_all rfl) : DE X hx (.Compare a [op] [b] pos) (eOp f fa fb) :=
  ⟨fun W tk => PEimp (pe_cmpR (ho W) (ha.run W tk) (hb.run W tk) hm) fun σ H Q h => eOp_tOp h⟩
theorem dt_cmp {op : CmpOp} (ho : OpD X hx (compareOp op) f) (ha : DE X hx a fa) (hb : DE X hx b fb) (hm : behindInMarks op b = false := by first | exact nobehind _ (by decide) (by decide) | rfl | with_unfolding_all rfl) : DT X hx (.Compare a [op] [b] pos) (tBl (eOp f fa fb)) :=
  ⟨fun W tk => PTimp (pt_cmpR (ho W) (ha.run W tk) (hb.run W tk) hm) fun σ H Q h => eOp_tOp (tBl_of h)⟩
theorem d_neg (ha : DE X hx a fa) : DE X hx (.UnaryOp .USub a pos) (eUn opNeg fa) := ⟨fun W tk => PEimp (pe_un un_neg (ha.run W tk)) fun σ H Q ⟨A, S, σd, R, E, p⟩ =>
  ⟨A, S, σd, R, E, (Post.bind (R1 := rV _) p).mono fun v H1 ⟨A1, S1, d, R1, T1, r1, p1⟩ => by
    unfold opNeg at p1
    split at p1
    · rename_i i e
      exact ⟨i, (readAs R1 r1 e).int, p1.hereV R1 (.int _)⟩
    · exact p1.elim⟩⟩
/-- a op b op' c -/
def eChain (f f' : Wt → Wt → Store → Res Wt) (fa fb fc : EM) : EM := fun σd S => (fa σd S).bind fun x S1 => (fb σd S1).bind fun y S2 => (f x y S2).bind fun z S3 => (asB z S3).bind fun k S4 => if k = true then (fc σd S4).bind fun w S5 => f' y w S5 else .ok (.d (.bl false)) S4
theorem asB_bind {c : Cn} {σ : L2.St} {A : Ads} {S : Store} {H : Hp} {d : Wt} {v : V} {γ δ : Type} {R2 : RR γ δ} {Q : δ → Hp → Prop} {g : Bool → Store → Res γ} (r : rV c A S H d v) (p : Post c R2 σ A S H Q ((asB d S).bind g)) : ∃ k, d = .d (.bl k) ∧ v = .bl k ∧ Post c R2 σ A S H Q (g k S) := by
  rcases asB_cases d S with ⟨b, rfl⟩ | e
  · have e : RP c.K (Live A S) H (.bl b) v := r
    cases e
    exact ⟨b, rfl, rfl, p⟩
  · rw [e] at p; exact p.elim
theorem eChain_of {cn : Cn} {σ : L2.St} {H : Hp} {Q : VK} (h : tE cn (eChain f f' fa fb fc) σ H Q) : tChain (rD cn f) (rD cn f') (tE cn fa) (tE cn fb) (tE cn fc) σ H Q := by
  obtain ⟨A, S, σd, R, E, p⟩ := h
  refine ⟨A, S, σd, R, E, (Post.bind (R1 := rV cn) p).mono fun v H1 ⟨A1, S1, d, R1, T1, r1, p1⟩ => ⟨A1, S1, σd, R1, E.step R T1, (Post.bind (R1 := rV cn) p1).mono fun u H2 ⟨A2, S2, d2, R2, T2, r2, p2⟩ =>
    ⟨A2, S2, σ, d, d2, R2, r1.step R1 T2, r2, (Post.bind (R1 := rV cn) p2).mono fun z H3 ⟨A3, S3, d3, R3, T3, r3, p3⟩ => ?_⟩⟩⟩
  obtain ⟨k, e, ev, p4⟩ := asB_bind r3 p3
  refine ⟨k, ev, ?_⟩
  cases k with
  | false =>
    rw [if_neg Bool.false_ne_true] at p4 ⊢
    exact p4.hereV R3 (.bl _)
  | true =>
    rw [if_pos rfl] at p4 ⊢
    exact ⟨A3, S3, σd, R3, ((E.step R T1).step R1 T2).step R2 T3, (Post.bind (R1 := rV cn) p4).mono fun w H4 ⟨A4, S4, d4, R4, T4, r4, p5⟩ => ⟨A4, S4, σ, d2, d4, R4, (r2.step R2 T3).step R3 T4, r4, p5⟩⟩
theorem d_chain {op op' : CmpOp} (ho : OpD X hx (compareOp op) f) (ho' : OpD X hx (compareOp op') f') (ha : DE X hx a fa) (hb : DE X hx b fb) (hc : DE X hx c fc) (hm : lastMarks [op, op'] [b, c] = false := by with_unfolding_all rfl) :
    DE X hx (.Compare a [op, op'] [b, c] pos) (eChain f f' fa fb fc) := ⟨fun W tk => PEimp (pe_chain (ho W) (ho' W) (ha.run W tk) (hb.run W tk) (hc.run W tk) hm) fun σ H Q h => eChain_of h⟩
theorem dt_chain {op op' : CmpOp} (ho : OpD X hx (compareOp op) f) (ho' : OpD X hx (compareOp op') f') (ha : DE X hx a fa) (hb : DE X hx b fb) (hc : DE X hx c fc) (hm : lastMarks [op, op'] [b, c] = false := by with_unfolding_all rfl) :
    DT X hx (.Compare a [op, op'] [b, c] pos) (tBl (eChain f f' fa fb fc)) := ⟨fun W tk => PTimp (pt_chain (ho W) (ho' W) (ha.run W tk) (hb.run W tk) (hc.run W tk) hm) fun σ H Q h => eChain_of (tBl_of h)⟩

/-! ### order of ints, of texts -/
def opCmp (p : Int → Int → Bool) (q : Str → Str → Bool) (a b : Wt) (S : Store) : Res Wt := match deref S a, deref S b with
  | some (.int i), some (.int j) => .ok (.d (.bl (p i j))) S
  | some (.str i), some (.str j) => .ok (.d (.bl (q i j))) S
  | _, _ => .bad
theorem od_cmp {op : CmpOp} {p : Int → Int → Bool} {q : Str → Str → Bool} (h1 : OpR X (compareOp op) (rI0 fun i j => .bl (p i j))) (h2 : OpR X (compareOp op) (fun x y H Q => ∃ i j, x = .str i ∧ y = .str j ∧ Q (.bl (q i j)) H)) : OpD X hx (compareOp op) (opCmp p q) := by
  intro W pins s σ H x y v u Q I rx ry h
  obtain ⟨A, S, σ', d1, d2, R, r1, r2, p⟩ := h
  unfold opCmp at p
  split at p
  · rename_i i j e1 e2
    exact h1 pins s σ H x y v u Q I rx ry ⟨i, j, (readAs R r1 e1).int, (readAs R r2 e2).int, p.hereV R (.bl _)⟩
  · rename_i i j e1 e2
    exact h2 pins s σ H x y v u Q I rx ry ⟨i, j, (readAs R r1 e1).str, (readAs R r2 e2).str, p.hereV R (.bl _)⟩
  · exact p.elim
abbrev opLt : Wt → Wt → Store → Res Wt := opCmp (fun i j => decide (i < j)) fun i j => decide (i.cps.toList < j.cps.toList)
abbrev opLe : Wt → Wt → Store → Res Wt := opCmp (fun i j => decide (i ≤ j)) fun i j => !decide (j.cps.toList < i.cps.toList)
abbrev opGt : Wt → Wt → Store → Res Wt := opCmp (fun i j => decide (j < i)) fun i j => decide (j.cps.toList < i.cps.toList)
abbrev opGe : Wt → Wt → Store → Res Wt := opCmp (fun i j => decide (j ≤ i)) fun i j => !decide (i.cps.toList < j.cps.toList)
theorem od_lt : OpD X hx (compareOp .Lt) opLt := od_cmp op_lt op_lt_str
theorem od_le : OpD X hx (compareOp .LtE) opLe := od_cmp op_le op_le_str
theorem od_gt : OpD X hx (compareOp .Gt) opGt := od_cmp op_gt op_gt_str
theorem od_ge : OpD X hx (compareOp .GtE) opGe := od_cmp op_ge op_ge_str

/-! ### is -/
def opIs (neg : Bool) (a b : Wt) (S : Store) : Res Wt := match deref S a, deref S b with
  | some (.bl i), some (.bl j) => .ok (.d (.bl (if neg then !(i == j) else i == j))) S
  | some .non, some .non => .ok (.d (.bl (!neg))) S
  | some (.bl _), some .non => .ok (.d (.bl neg)) S
  | some (.int _), some .non => .ok (.d (.bl neg)) S
  | some (.str _), some .non => .ok (.d (.bl neg)) S
  | some (.tup _), some .non => .ok (.d (.bl neg)) S
  | some (.lst _), some .non => .ok (.d (.bl neg)) S
  | some (.dct _ _), some .non => .ok (.d (.bl neg)) S
  | some (.gl _), some .non => .ok (.d (.bl neg)) S
  | _, _ => .bad
theorem od_is_aux {neg : Bool} {c : Cn} {A : Ads} {S : Store} {σ : L2.St} {H : Hp} {d1 d2 : Wt} {x y : V} {Q : VK} (R : Rel c.K A S H) (r1 : rV c A S H d1 x) (r2 : rV c A S H d2 y) (p : Post c (rV c) σ A S H Q (opIs neg d1 d2 S)) :
    (y = .non ∧ Q (.bl (if neg then !decide (x = .non) else decide (x = .non))) H) ∨ ∃ i j, x = .bl i ∧ y = .bl j ∧ Q (.bl (if neg then !decide (i = j) else decide (i = j))) H := by
  unfold opIs at p
  split at p
  · rename_i i j e1 e2
    refine .inr ⟨i, j, (readAs R r1 e1).bl, (readAs R r2 e2).bl, ?_⟩
    rw [← Bool.beq_eq_decide_eq]
    exact p.hereV R (.bl _)
  all_goals first
    | exact p.elim
    | (rename_i e1 e2
       refine .inl ⟨(readAs R r2 e2).non, ?_⟩
       have hx := readAs R r1 e1
       first
        | (obtain rfl := hx.non; have := p.hereV R (.bl _); cases neg <;> simpa using this)
        | (obtain rfl := hx.bl; have := p.hereV R (.bl _); cases neg <;> simpa using this)
        | (obtain rfl := hx.int; have := p.hereV R (.bl _); cases neg <;> simpa using this)
        | (obtain rfl := hx.str; have := p.hereV R (.bl _); cases neg <;> simpa using this)
        | (obtain rfl := hx.gl; have := p.hereV R (.bl _); cases neg <;> simpa using this)
        | (obtain ⟨a, vs, rfl, _⟩ := hx.tup; have := p.hereV R (.bl _); cases neg <;> simpa using this)
        | (obtain ⟨a, vs, rfl, _⟩ := hx.lst; have := p.hereV R (.bl _); cases neg <;> simpa using this)
        | (obtain ⟨a, vs, rfl, _⟩ := hx.dct; have := p.hereV R (.bl _); cases neg <;> simpa using this))
theorem od_is : OpD X hx (compareOp .Is) (opIs false) := by
  intro W pins s σ H x y v u Q I rx ry h
  obtain ⟨A, S, σ', d1, d2, R, r1, r2, p⟩ := h
  rcases od_is_aux R r1 r2 p with ⟨e, q⟩ | ⟨i, j, e1, e2, q⟩
  · exact op_isN pins s σ H x y v u Q I rx ry ⟨e, q⟩
  · exact op_isBl pins s σ H x y v u Q I rx ry ⟨i, j, e1, e2, q⟩
theorem od_isnot : OpD X hx (compareOp .IsNot) (opIs true) := by
  intro W pins s σ H x y v u Q I rx ry h
  obtain ⟨A, S, σ', d1, d2, R, r1, r2, p⟩ := h
  rcases od_is_aux R r1 r2 p with ⟨e, q⟩ | ⟨i, j, e1, e2, q⟩
  · exact op_notN pins s σ H x y v u Q I rx ry ⟨e, q⟩
  · exact op_notBl pins s σ H x y v u Q I rx ry ⟨i, j, e1, e2, q⟩
end
end Y
end
section
/-! Y6: in, subscripts, slices, and, or, not, if, tests. -/
namespace Y
open PySem PySem.Spec PyProof.Rows L2

def D.flat : D → Bool
  | .non => true | .bl _ => true | .int _ => true | .str _ => true
  | _ => false
def D.key : D → Option Key
  | .int i => some (.inl i)
  | .str x => some (.inr x)
  | _ => none
def inSeq (x : D) (l : List D) : Bool := l.any fun y => deq y x
def inOk (x : D) (l : List D) : Bool := (x.flat && l.all D.flat) || (x.shp && (D.tup l).shp)
def keyIn (k : Key) (ks : List Key) : Bool := ks.any fun j => decide (j = k)
def opIn (neg : Bool) (a b : Wt) (S : Store) : Res Wt := match deref S a, deref S b with
  | some x, some (.tup l) => if inOk x l then .ok (.d (.bl (if neg then !inSeq x l else inSeq x l))) S else .bad
  | some x, some (.lst l) => if inOk x l then .ok (.d (.bl (if neg then !inSeq x l else inSeq x l))) S else .bad
  | some x, some (.dct ks l) => match x.key with
    | some k => .ok (.d (.bl (if neg then !keyIn k ks else keyIn k ks))) S
    | none => .bad
  | some (.str w), some (.str z) => if w.cps.size = 1 then .ok (.d (.bl (if neg then !decide (w.cps.getD 0 0 ∈ z.cps.toList) else decide (w.cps.getD 0 0 ∈ z.cps.toList)))) S else .bad
  | _, _ => .bad
section
variable {K : PySem.W.Frag} {lv : Addr → Prop} {H : Hp}
theorem flat_ok {d : D} {v : V} (h : RX K lv H d v) (f : d.flat = true) : flatV v = true ∧ ∀ (e : D) (w : V), RX K lv H e w → e.flat = true → eqV w v = deq e d := by
  cases d <;> first
    | (cases f; done)
    | (first | obtain rfl := h.non | obtain rfl := h.int | obtain rfl := h.bl | obtain rfl := h.str) <;> (refine ⟨rfl, fun e w he fe => ?_⟩; cases e <;> first
        | (cases fe; done)
        | (first | obtain rfl := he.non | obtain rfl := he.int | obtain rfl := he.bl | obtain rfl := he.str) <;> simp [deq, toPy, PyData.eqv, eqV])
theorem flats_ok {d : D} {v : V} (h : RX K lv H d v) (f : d.flat = true) : ∀ {l : List D} {vs : List V}, RPs K lv H l vs → l.all D.flat = true → vs.all flatV = true ∧ inV v vs = inSeq d l
  | _, _, .nil, _ => ⟨rfl, rfl⟩
  | _, _, .cons r t, fs => by
    rw [List.all_cons, Bool.and_eq_true] at fs
    obtain ⟨q1, q2⟩ := flats_ok h f t fs.2
    refine ⟨?_, ?_⟩
    · rw [List.all_cons, q1, (flat_ok (.inl r) fs.1).1]; rfl
    · unfold inV inSeq at *
      rw [List.any_cons, List.any_cons, q2, (flat_ok h f).2 _ _ (.inl r) fs.1]
theorem toPys_any {d : D} {p : PyData} (e : toPy d = some p) : ∀ {l : List D} {ps : List PyData}, toPys l = some ps → ps.any (fun y => PyData.eqv y p) = inSeq d l
  | [], _, h => by simp [toPys] at h; subst h; rfl
  | a :: l, _, h => by
    rw [toPys] at h
    cases q1 : toPy a with
    | none => rw [q1] at h; cases h
    | some p1 =>
      cases q2 : toPys l with
      | none => rw [q1, q2] at h; cases h
      | some ps =>
        rw [q1, q2] at h
        cases h
        unfold inSeq
        rw [List.any_cons, List.any_cons]
        congr 1
        · unfold deq; rw [q1, e]
        · exact toPys_any e q2
end
theorem shp_tup {l : List D} (h : (D.tup l).shp = true) : ∃ ps, toPys l = some ps ∧ SeqAt.shaped (.tuple ps) = true := by
  obtain ⟨p, e, s⟩ := shp_ok h
  rw [toPy] at e
  cases q : toPys l with
  | none => rw [q] at e; cases e
  | some ps => rw [q] at e; cases e; exact ⟨ps, rfl, s⟩
def rInTD (K : PySem.W.Frag) (neg : Bool) : R2 := fun x y H Q => ∃ d ds, Dp K H x d ∧ (Dp K H y (.list ds) ∨ Dp K H y (.tuple ds)) ∧ SeqAt.shaped d = true ∧ SeqAt.shaped (.tuple ds) = true ∧ Q (.bl (if neg then !ds.any fun z => PyData.eqv z d else ds.any fun z => PyData.eqv z d)) H
theorem room_in {A : Around} {d : PyData} {ds : List PyData} (h : SeqAt.shaped d = true) (hu : A.units + 65 < cLine) : A.units + 1 + min (PyData.depthAll ds) d.depth < cLine := by
  have h1 := SeqAt.depth_of_shaped h
  have h2 : min (PyData.depthAll ds) d.depth ≤ d.depth := Nat.min_le_right _ _
  omega
section
variable {X : Cx} {hx : Hx}
theorem op_inTD (hu : X.A.units + 65 < cLine) : OpR X (compareOp .In) (rInTD X.K false) := by
  intro pins s σ H x y v u Q I rx ry h
  obtain ⟨d, ds, hd, he, sd, se, q⟩ := h
  obtain ⟨as, r1⟩ := Dp.reads I d x v hd rx
  rcases he with he | he
  · obtain ⟨bs, r2⟩ := Dp.reads I (.list ds) y u he ry
    exact SeqAt.in_list_reads r2 r1 (SeqAt.canLay_of_shaped se) (SeqAt.canLay_of_shaped sd) (room_in sd hu) ⟨.bl _, H, I, rfl, q⟩
  · obtain ⟨bs, r2⟩ := Dp.reads I (.tuple ds) y u he ry
    exact SeqAt.in_tuple_reads r2 r1 (SeqAt.canLay_of_shaped se) (SeqAt.canLay_of_shaped sd) (room_in sd hu) ⟨.bl _, H, I, rfl, q⟩
theorem op_notInTD (hu : X.A.units + 65 < cLine) : OpR X (compareOp .NotIn) (rInTD X.K true) := by
  intro pins s σ H x y v u Q I rx ry h
  obtain ⟨d, ds, hd, he, sd, se, q⟩ := h
  obtain ⟨as, r1⟩ := Dp.reads I d x v hd rx
  rcases he with he | he
  · obtain ⟨bs, r2⟩ := Dp.reads I (.list ds) y u he ry
    exact SeqAt.notIn_list_reads r2 r1 (SeqAt.canLay_of_shaped se) (SeqAt.canLay_of_shaped sd) (room_in sd hu) ⟨.bl _, H, I, rfl, q⟩
  · obtain ⟨bs, r2⟩ := Dp.reads I (.tuple ds) y u he ry
    exact SeqAt.notIn_tuple_reads r2 r1 (SeqAt.canLay_of_shaped se) (SeqAt.canLay_of_shaped sd) (room_in sd hu) ⟨.bl _, H, I, rfl, q⟩
theorem key_ok {K : PySem.W.Frag} {lv : Addr → Prop} {H : Hp} {d : D} {v : V} {k : Key} (h : RX K lv H d v) (e : d.key = some k) : v = kV k := by
  cases d <;> first
    | (cases e; done)
    | (cases e; first | exact h.int | exact h.str)
theorem valV_some {kvs : List (Key × V)} {k : Key} : (valV kvs k).isSome = keyIn k (kvs.map (·.1)) := by
  unfold valV keyIn
  induction kvs with
  | nil => rfl
  | cons a r ih =>
    rw [List.find?_cons, List.map_cons, List.any_cons]
    by_cases e : a.1 = k
    · rw [decide_eq_true e]
      rfl
    · rw [decide_eq_false e, Bool.false_or]
      exact ih
theorem od_in_aux {neg : Bool} {op : CmpOp} (hu : X.A.units + 65 < cLine) (h1 : OpR X (compareOp op) (rIn X.K neg)) (h2 : OpR X (compareOp op) (rInTD X.K neg))
    (h3 : OpR X (compareOp op) fun x y H Q => ∃ (c : Nat) (z : Str), x = .str ⟨#[c]⟩ ∧ y = .str z ∧ Q (.bl (if neg then !decide (c ∈ z.cps.toList) else decide (c ∈ z.cps.toList))) H)
    (h4 : ∀ {pins : List (Addr × Obj)} {s : Shared} {σ : L2.St} {H : Hp} {a : Addr} {y : V} {o : Option V} {u : Value} {Q : Value → Shared → Prop}, Inv X pins σ H s → DGet H a y o → RelV y u → (∀ s', Inv X pins σ H s' → Q (.bool (if neg then !o.isSome else o.isSome)) s') → wpAny (model X.prog X.w) X.A (compareOp op u (.ref a)) Q X.xe s) :
    OpD X hx (compareOp op) (opIn neg) := by
  intro W pins s σ H x y v u Q I rx ry h
  obtain ⟨A, S, σ', d1, d2, R, r1, r2, p⟩ := h
  have seq : ∀ {x1 : D} {l : List D} {b : Addr} {us : List V}, RX X.K (Live A S) H x1 x → y = .ref b → (SqL X.K H b us ∨ SqT X.K H b us) → RPs X.K (Live A S) H l us → Post ⟨X.K, hx, W⟩ (rV ⟨X.K, hx, W⟩) σ' A S H Q (if inOk x1 l then .ok (.d (.bl (if neg then !inSeq x1 l else inSeq x1 l))) S else .bad) →
      wpAny (model X.prog X.w) X.A (compareOp op v u) (EP X pins σ Q) X.xe s := by
    intro x1 l b us q1 ey hq g p
    obtain ⟨hz, p⟩ := Post.iteP p
    unfold inOk at hz
    cases hf : (x1.flat && l.all D.flat) with
    | true =>
      rw [Bool.and_eq_true] at hf
      obtain ⟨q2, q3⟩ := flats_ok q1 hf.1 g hf.2
      refine h1 pins s σ H x y v u Q I rx ry ⟨b, us, ey, hq, (flat_ok q1 hf.1).1, q2, ?_⟩
      rw [q3]
      exact p.hereV R (.bl _)
    | false =>
      rw [hf, Bool.false_or, Bool.and_eq_true] at hz
      obtain ⟨p1, e1, s1⟩ := shp_ok hz.1
      obtain ⟨ps, e2, s2⟩ := shp_tup hz.2
      have dx := dpx_of q1 e1
      have dy := dps_of l us ps g e2
      refine h2 pins s σ H x y v u Q I rx ry ⟨p1, ps, dx, ?_, s1, s2, ?_⟩
      · subst ey
        rcases hq with hq | hq
        · exact .inl (.lst hq dy)
        · exact .inr (.tup hq dy)
      · rw [toPys_any e1 e2]
        exact p.hereV R (.bl _)
  unfold opIn at p
  split at p
  · rename_i x1 l g1 e
    obtain ⟨b, us, ey, hq, g⟩ := (readAs R r2 e).tup
    exact seq (readAs R r1 g1) ey (.inr hq) g p
  · rename_i x1 l g1 e
    obtain ⟨b, us, ey, hq, g⟩ := (readAs R r2 e).lst
    exact seq (readAs R r1 g1) ey (.inl (SqL.of hq)) g p
  · rename_i x1 ks l g1 e
    split at p
    · rename_i k ek
      obtain ⟨b, kvs, ey, hq, hk, g⟩ := (readAs R r2 e).dct
      subst ey
      obtain rfl : u = Value.ref b := ry
      have ex := key_ok (readAs R r1 g1) ek
      subst ex
      refine h4 I (.inl ⟨kvs, k, hq, rfl, rfl⟩) rx fun s' I' => ⟨.bl _, H, I', rfl, ?_⟩
      rw [valV_some, hk]
      exact p.hereV R (.bl _)
    · exact p.elim
  · rename_i w z ew e
    obtain ⟨hz, p⟩ := Post.iteP p
    obtain ⟨⟨l⟩⟩ := w
    have ex := (readAs R r1 ew).str
    have el : ∃ c, l = [c] := by
      match l, hz with
      | [c], _ => exact ⟨c, rfl⟩
    obtain ⟨c, rfl⟩ := el
    exact h3 pins s σ H x y v u Q I rx ry ⟨c, z, ex, (readAs R r2 e).str, p.hereV R (.bl _)⟩
  · exact p.elim
theorem od_in (hu : X.A.units + 65 < cLine) : OpD X hx (compareOp .In) (opIn false) := od_in_aux hu op_in_seq (op_inTD hu) op_in_sign fun I g r h => d_in (by omega) I g r h
theorem od_notIn (hu : X.A.units + 65 < cLine) : OpD X hx (compareOp .NotIn) (opIn true) := od_in_aux hu op_notIn_seq (op_notInTD hu) op_notIn_sign fun I g r h => d_notIn (by omega) I g r h
end
end Y
end
section
/-! Y7: subscripts, slices, truth, and, or, not, if, tests. -/
namespace Y
open PySem PySem.Spec PyProof.Rows L2

def dGet (k : Key) : List Key → List D → Option D
  | j :: ks, d :: ds => if j = k then some d else dGet k ks ds
  | _, _ => none
def optR (S : Store) : Option D → Res Wt
  | some d => .ok (.d d) S
  | none => .bad
def opIx (a b : Wt) (S : Store) : Res Wt := match deref S a, deref S b with
  | some (.tup l), some (.int i) => optR S (atI l i)
  | some (.lst l), some (.int i) => optR S (atI l i)
  | some (.fls l), some (.int i) => optR S (atI l i)
  | some (.str z), some (.int i) => if z.length ≤ lim then optR S ((atI z.cps.toList i).map fun c => .str ⟨#[c]⟩) else .bad
  | some (.dct ks l), some y => optR S (y.key.bind fun k => dGet k ks l)
  | _, _ => .bad
section
variable {K : PySem.W.Frag} {lv : Addr → Prop} {H : Hp}
theorem atI_rps {l : List D} {vs : List V} {i : Int} {d : D} (h : RPs K lv H l vs) (e : atI l i = some d) : ∃ v, atI vs i = some v ∧ RP K lv H d v := by
  unfold atI at e ⊢
  rw [← h.len]
  cases q : ixN l.length i with
  | none => rw [q] at e; cases e
  | some j =>
    rw [q] at e
    exact h.get e
theorem dGet_rps {k : Key} : ∀ {kvs : List (Key × V)} {l : List D} {d : D}, RPs K lv H l (kvs.map (·.2)) → dGet k (kvs.map (·.1)) l = some d → ∃ v, valV kvs k = some v ∧ RP K lv H d v
  | [], _, _, h, e => by cases h; cases e
  | a :: r, _, d, h, e => by
    cases h with
    | cons h1 h2 =>
      rw [List.map_cons, dGet] at e
      unfold valV
      rw [List.find?_cons]
      by_cases q : a.1 = k
      · rw [if_pos q] at e
        cases e
        rw [decide_eq_true q]
        exact ⟨a.2, rfl, h1⟩
      · rw [if_neg q] at e
        rw [decide_eq_false q]
        exact dGet_rps h2 e
end
section
variable {X : Cx} {hx : Hx} {a b c : Expr} {fa fb fc : EM} {pos : Pos}
theorem optR_ok {c : Cn} {σ : L2.St} {A : Ads} {S : Store} {H : Hp} {Q : VK} {o : Option D} (p : Post c (rV c) σ A S H Q (optR S o)) : ∃ d, o = some d ∧ Post c (rV c) σ A S H Q (.ok (.d d) S) := by
  cases o with
  | none => exact p.elim
  | some d => exact ⟨d, rfl, p⟩
theorem ixd (hu : X.A.units + 65 < cLine) (W : WX) : IxR X (rD ⟨X.K, hx, W⟩ opIx) := by
  intro value slice pins s σ H x y v u Q I rx ry h hs
  obtain ⟨A, S, σ', d1, d2, R, r1, r2, p⟩ := h
  unfold opIx at p
  split at p
  · rename_i l i e1 e2
    obtain ⟨b, us, ex, hq, g⟩ := (readAs R r1 e1).tup
    obtain ⟨d, q, p⟩ := optR_ok p
    obtain ⟨w, hw, rw'⟩ := atI_rps g q
    exact ix_tup value slice pins s σ H x y v u Q I rx ry ⟨b, us, i, w, ex, (readAs R r2 e2).int, hq, hw, p.hereV R rw'⟩ hs
  · rename_i l i e1 e2
    obtain ⟨b, us, ex, hq, g⟩ := (readAs R r1 e1).lst
    obtain ⟨d, q, p⟩ := optR_ok p
    obtain ⟨w, hw, rw'⟩ := atI_rps g q
    exact ix_list value slice pins s σ H x y v u Q I rx ry ⟨b, us, i, w, ex, (readAs R r2 e2).int, SqL.of hq, hw, p.hereV R rw'⟩ hs
  · rename_i l i e1 e2
    obtain ⟨b, us, ex, hq, g⟩ := (readAs R r1 e1).fls
    obtain ⟨d, q, p⟩ := optR_ok p
    obtain ⟨w, hw, rw'⟩ := atI_rps g q
    exact ix_list value slice pins s σ H x y v u Q I rx ry ⟨b, us, i, w, ex, (readAs R r2 e2).int, hq, hw, p.hereV R rw'⟩ hs
  · rename_i z i e1 e2
    obtain ⟨hz, p⟩ := Post.iteP p
    obtain ⟨d, q, p⟩ := optR_ok p
    cases q2 : atI z.cps.toList i with
    | none => rw [q2] at q; cases q
    | some c =>
      rw [q2] at q
      cases q
      exact ix_str value slice pins s σ H x y v u Q I rx ry ⟨z, i, c, (readAs R r1 e1).str, (readAs R r2 e2).int, lim_line hz, q2, p.hereV R (.str _)⟩ hs
  · rename_i ks l y1 e1 e2
    obtain ⟨d, q, p2⟩ := optR_ok p
    cases ek : y1.key with
    | none => rw [ek] at q; cases q
    | some k =>
      rw [ek] at q
      obtain ⟨b, kvs, ex, hq, hk, g⟩ := (readAs R r1 e1).dct
      subst hk
      obtain ⟨w, hw, rw'⟩ := dGet_rps g q
      have ey := key_ok (readAs R r2 e2) ek
      subst ex ey
      obtain rfl : v = Value.ref b := rx
      have G : DGet H b (kV k) (some w) := .inl ⟨kvs, k, hq, rfl, hw.symm⟩
      exact tail_any (dict_typeIs I G) PySem.F.slot_dict_getitem.lookup (d_getItem (by omega) I G ry fun w' s' I' rw2 => ⟨w, H, I', rw2, p2.hereV R rw'⟩) hs
  · exact p.elim
theorem d_ix (hu : X.A.units + 65 < cLine) (ha : DE X hx a fa) (hb : DE X hx b fb) (hs : PlainIx b := by intro _ _; rfl) : DE X hx (.Subscript a b pos) (eOp opIx fa fb) :=
  ⟨fun W tk => PEimp (pe_ix (ixd hu W) (ha.run W tk) (hb.run W tk) hs) fun σ H Q h => eOp_tOp h⟩

/-! ### slices -/
abbrev OM := Ev → Store → Res (Option Int)
def oNone : OM := fun _ S => .ok none S
def asI : Wt → Store → Res (Option Int)
  | .d (.int i), S => .ok (some i) S
  | _, _ => .bad
theorem asI_cases (d : Wt) (S : Store) : (∃ b, d = .d (.int b)) ∨ asI d S = .bad := by
  cases d with
  | d x => cases x <;> first | exact .inl ⟨_, rfl⟩ | exact .inr rfl
  | _ => exact .inr rfl
def oSome (f : EM) : OM := fun σd S => (f σd S).bind asI
def rO : RR (Option Int) (Option Int) := fun _ _ _ a b => a = b
def tO (c : Cn) (f : OM) : TO := fun σ H Q => ∃ A S σd, Rel c.K A S H ∧ RE c.K c.hx A (Live A S) H σd σ ∧ Post c rO σ A S H Q (f σd S)
structure DO (X : Cx) (hx : Hx) (e : Option Expr) (f : OM) : Prop where
  run : ∀ W, Takes X W → PO X e (tO ⟨X.K, hx, W⟩ f)
theorem POimp {X : Cx} {e : Option Expr} {t t' : TO} (h : PO X e t) (i : ∀ σ H Q, t' σ H Q → t σ H Q) : PO X e t' := ⟨fun pins s σ H Q I q => h.run pins s σ H Q I (i σ H Q q)⟩
theorem do_none : DO X hx none oNone := ⟨fun W tk => POimp po_none fun σ H Q ⟨A, S, σd, R, E, p⟩ => p.here R rfl⟩
theorem do_some (h : DE X hx a fa) : DO X hx (some a) (oSome fa) := ⟨fun W tk => POimp (po_some (h.run W tk)) fun σ H Q ⟨A, S, σd, R, E, p⟩ =>
  ⟨A, S, σd, R, E, (Post.bind (R1 := rV _) p).mono fun v H1 ⟨A1, S1, d, R1, T1, r1, p1⟩ => by
    rcases asI_cases d S1 with ⟨i, rfl⟩ | e
    · have e : RP X.K (Live A1 S1) H1 (.int i) v := r1
      cases e
      exact ⟨i, rfl, p1.here R1 rfl⟩
    · rw [e] at p1; exact p1.elim⟩⟩
def cutD (xs : List D) (lo hi : Option Int) : List D := (xs.drop (HT.sIx xs.length 0 lo)).take (HT.sIx xs.length xs.length hi - HT.sIx xs.length 0 lo)
theorem cut_rps {K : PySem.W.Frag} {lv : Addr → Prop} {H : Hp} {l : List D} {vs : List V} (h : RPs K lv H l vs) (lo hi : Option Int) : RPs K lv H (cutD l lo hi) (cutV vs lo hi) := by
  unfold cutD cutV
  rw [← h.len]
  exact (h.drop _).take _
def opSl (d : Wt) (lo hi : Option Int) (S : Store) : Res Wt := match deref S d with
  | some (.tup l) => .ok (.d (.tup (cutD l lo hi))) S
  | some (.lst l) => .ok (.d (.lst (cutD l lo hi))) S
  | some (.fls l) => .ok (.d (.lst (cutD l lo hi))) S
  | some (.str z) => if z.length ≤ lim then .ok (.d (.str (cutS z lo hi))) S else .bad
  | _ => .bad
/-- a list's, into a new cell -/
def opSlL (d : Wt) (lo hi : Option Int) (S : Store) : Res Wt := match deref S d with
  | some (.lst l) => .ok (.loc S.length) (S ++ [.lst (cutD l lo hi)])
  | some (.fls l) => .ok (.loc S.length) (S ++ [.lst (cutD l lo hi)])
  | _ => .bad
def eSl (op : Wt → Option Int → Option Int → Store → Res Wt) (fa : EM) (fl fh : OM) : EM := fun σd S => (fa σd S).bind fun d S1 => (fl σd S1).bind fun lo S2 => (fh σd S2).bind fun hi S3 => op d lo hi S3
def rSlD (c : Cn) (f : Wt → Option Int → Option Int → Store → Res Wt) : V → Option Int → Option Int → Hp → VK → Prop := fun x lo hi H Q => ∃ A S σ d, Rel c.K A S H ∧ rV c A S H d x ∧ Post c (rV c) σ A S H Q (f d lo hi S)
theorem cut_whole {xs : List V} {lo hi : Option Int} (h : HT.sIx xs.length 0 lo = 0 ∧ HT.sIx xs.length xs.length hi = xs.length) : cutV xs lo hi = xs := by
  unfold cutV
  rw [h.1, h.2]
  simp
theorem sld (W : WX) : SlR X (rSlD ⟨X.K, hx, W⟩ opSl) := by
  intro pins s σ H x v vl vu lo hi sl Q I rx hs pl pu h
  obtain ⟨A, S, σ', d, R, r, p⟩ := h
  unfold opSl at p
  split at p
  · rename_i l e
    obtain ⟨b, us, ex, hq, g⟩ := (readAs R r e).tup
    refine sl_tupA pins s σ H x v vl vu lo hi sl Q I rx hs pl pu ⟨b, us, ex, hq, fun hw => ?_, fun hw q hq => p.tup R (cut_rps g lo hi) hq⟩
    have := cut_rps g lo hi
    rw [cut_whole hw] at this
    exact p.hereV R (.tup hq this)
  · rename_i l e
    obtain ⟨b, us, ex, hq, g⟩ := (readAs R r e).lst
    exact sl_list pins s σ H x v vl vu lo hi sl Q I rx hs pl pu ⟨b, us, ex, SqL.of hq, fun q hq => p.lst R (cut_rps g lo hi) hq⟩
  · rename_i l e
    obtain ⟨b, us, ex, hq, g⟩ := (readAs R r e).fls
    exact sl_list pins s σ H x v vl vu lo hi sl Q I rx hs pl pu ⟨b, us, ex, hq, fun q hq => p.lst R (cut_rps g lo hi) hq⟩
  · rename_i z e
    obtain ⟨hz, p⟩ := Post.iteP p
    exact sl_str pins s σ H x v vl vu lo hi sl Q I rx hs pl pu ⟨z, (readAs R r e).str, lim_line hz, p.hereV R (.str _)⟩
  · exact p.elim
theorem sldL (W : WX) : SlR X (rSlD ⟨X.K, hx, W⟩ opSlL) := by
  intro pins s σ H x v vl vu lo hi sl Q I rx hs pl pu h
  obtain ⟨A, S, σ', d, R, r, p⟩ := h
  unfold opSlL at p
  split at p
  · rename_i l e
    obtain ⟨b, us, ex, hq, g⟩ := (readAs R r e).lst
    exact sl_list pins s σ H x v vl vu lo hi sl Q I rx hs pl pu ⟨b, us, ex, SqL.of hq, fun q hq => p.alloc R (cut_rps g lo hi) hq⟩
  · rename_i l e
    obtain ⟨b, us, ex, hq, g⟩ := (readAs R r e).fls
    exact sl_list pins s σ H x v vl vu lo hi sl Q I rx hs pl pu ⟨b, us, ex, hq, fun q hq => p.alloc R (cut_rps g lo hi) hq⟩
  · exact p.elim
theorem d_slG {op : Wt → Option Int → Option Int → Store → Res Wt} {lo hi : Option Expr} {fl fh : OM} {p2 : Pos} (ho : ∀ W, SlR X (rSlD ⟨X.K, hx, W⟩ op)) (ha : DE X hx a fa) (hl : DO X hx lo fl) (hh : DO X hx hi fh) : DE X hx (.Subscript a (.Slice lo hi none p2) pos) (eSl op fa fl fh) :=
  ⟨fun W tk => PEimp (pe_slice (ho W) (ha.run W tk) (hl.run W tk) (hh.run W tk)) fun σ H Q ⟨A, S, σd, R, E, p⟩ =>
    ⟨A, S, σd, R, E, (Post.bind (R1 := rV _) p).mono fun v H1 ⟨A1, S1, d, R1, T1, r1, p1⟩ => ⟨A1, S1, σd, R1, E.step R T1, (Post.bind (R1 := rO) p1).mono fun o2 H2 ⟨A2, S2, o2', R2, T2, r2, p2⟩ =>
      ⟨A2, S2, σd, R2, (E.step R T1).step R1 T2, (Post.bind (R1 := rO) p2).mono fun o3 H3 ⟨A3, S3, o3', R3, T3, r3, p3⟩ => by
        cases r2
        cases r3
        exact ⟨A3, S3, σ, d, R3, (r1.step R1 T2).step R2 T3, p3⟩⟩⟩⟩⟩
theorem d_sl {lo hi : Option Expr} {fl fh : OM} {p2 : Pos} (ha : DE X hx a fa) (hl : DO X hx lo fl) (hh : DO X hx hi fh) : DE X hx (.Subscript a (.Slice lo hi none p2) pos) (eSl opSl fa fl fh) := d_slG sld ha hl hh
theorem d_slL {lo hi : Option Expr} {fl fh : OM} {p2 : Pos} (ha : DE X hx a fa) (hl : DO X hx lo fl) (hh : DO X hx hi fh) : DE X hx (.Subscript a (.Slice lo hi none p2) pos) (eSl opSlL fa fl fh) := d_slG sldL ha hl hh

/-! ### truth -/
def truth (d : Wt) (S : Store) : Res Bool := match deref S d with
  | some .non => .ok false S
  | some (.bl b) => .ok b S
  | some (.int i) => .ok (i != 0) S
  | some (.str x) => if x.length ≤ lim then .ok ((x.length : Int) != 0) S else .bad
  | some (.tup l) => .ok (!l.isEmpty) S
  | some (.lst l) => .ok (!l.isEmpty) S
  | some (.fls l) => .ok (!l.isEmpty) S
  | _ => .bad
theorem isEmpty_rps {K : PySem.W.Frag} {lv : Addr → Prop} {H : Hp} {l : List D} {vs : List V} (h : RPs K lv H l vs) : l.isEmpty = vs.isEmpty := by cases h <;> rfl
theorem Post.truth {c : Cn} {σ : L2.St} {A : Ads} {S : Store} {H : Hp} {d : Wt} {v : V} {γ δ : Type} {R2 : RR γ δ} {Q : δ → Hp → Prop} {k : Bool → Store → Res γ} (R : Rel c.K A S H) (r : rV c A S H d v)
    (p : Post c R2 σ A S H Q ((Y.truth d S).bind k)) : ∃ b, TruV c.K v H b ∧ Post c R2 σ A S H Q (k b S) := by
  unfold Y.truth at p
  split at p
  · rename_i e; obtain rfl := (readAs R r e).non; exact ⟨false, rfl, p⟩
  · rename_i b e; obtain rfl := (readAs R r e).bl; exact ⟨b, rfl, p⟩
  · rename_i b e; obtain rfl := (readAs R r e).int; exact ⟨_, rfl, p⟩
  · rename_i x e
    obtain rfl := (readAs R r e).str
    by_cases hz : x.length ≤ lim
    · rw [if_pos hz] at p; exact ⟨_, ⟨lim_line hz, rfl⟩, p⟩
    · rw [if_neg hz] at p; exact p.elim
  · rename_i l e
    obtain ⟨b, us, rfl, hq, g⟩ := (readAs R r e).tup
    exact ⟨!l.isEmpty, .inr (.inl ⟨us, hq, by rw [isEmpty_rps g]⟩), p⟩
  · rename_i l e
    obtain ⟨b, us, rfl, hq, g⟩ := (readAs R r e).lst
    exact ⟨!l.isEmpty, .inl ⟨us, SqL.of hq, by rw [isEmpty_rps g]⟩, p⟩
  · rename_i l e
    obtain ⟨b, us, rfl, hq, g⟩ := (readAs R r e).fls
    exact ⟨!l.isEmpty, .inl ⟨us, hq, by rw [isEmpty_rps g]⟩, p⟩
  · exact p.elim
def tTru (f : EM) : TM := fun σd S => (f σd S).bind fun d S1 => (truth d S1).bind fun b S2 => .ok b S2
/-- an expression as a test, by its value's truth -/
theorem dt_tru (h : DE X hx a fa) (he : ∀ whole, isTrue a X.env whole = (do let v ← whole; standAt a.pos; holding [v] (truthy v)) := by intro _; rfl) : DT X hx a (tTru fa) :=
  ⟨fun W tk => PTimp (pt_truth (h.run W tk) he) fun σ H Q ⟨A, S, σd, R, E, p⟩ => ⟨A, S, σd, R, E, (Post.bind (R1 := rV _) p).mono fun v H1 ⟨A1, S1, d, R1, T1, r1, p1⟩ => by
    obtain ⟨b, t, p2⟩ := p1.truth R1 r1
    exact ⟨b, t, p2.here R1 rfl⟩⟩⟩
def tNot (f : TM) : TM := fun σd S => (f σd S).bind fun b S1 => .ok (!b) S1
def tAnd (f g : TM) : TM := fun σd S => (f σd S).bind fun b S1 => if b = true then g σd S1 else .ok false S1
def tOr (f g : TM) : TM := fun σd S => (f σd S).bind fun b S1 => if b = true then .ok true S1 else g σd S1
section
variable {rest : List Expr} {f g : TM}
theorem dt_not (h : DT X hx a f) : DT X hx (.UnaryOp .Not a pos) (tNot f) := ⟨fun W tk => PTimp (pt_not (h.run W tk)) fun σ H Q ⟨A, S, σd, R, E, p⟩ =>
  ⟨A, S, σd, R, E, (Post.bind (R1 := rB) p).mono fun b H1 ⟨A1, S1, d, R1, T1, r1, p1⟩ => by cases r1; exact p1.here R1 rfl⟩⟩
theorem dw_and1 (h : DT X hx a f) : DW X hx (.BoolOp .And [a] pos) f := ⟨fun W tk => pw_and1 (h.run W tk)⟩
theorem dw_or1 (h : DT X hx a f) : DW X hx (.BoolOp .Or [a] pos) f := ⟨fun W tk => pw_or1 (h.run W tk)⟩
theorem dw_and (h1 : DT X hx a f) (h2 : DW X hx (.BoolOp .And (b :: rest) pos) g) : DW X hx (.BoolOp .And (a :: b :: rest) pos) (tAnd f g) := ⟨fun W tk => PWimp (pw_and (h1.run W tk) (h2.run W tk)) fun σ H Q ⟨A, S, σd, R, E, p⟩ =>
  ⟨A, S, σd, R, E, (Post.bind (R1 := rB) p).mono fun b H1 ⟨A1, S1, d, R1, T1, r1, p1⟩ => by
    cases r1
    cases b with
    | true => exact ⟨A1, S1, σd, R1, E.step R T1, p1⟩
    | false => exact p1.here R1 rfl⟩⟩
theorem dw_or (h1 : DT X hx a f) (h2 : DW X hx (.BoolOp .Or (b :: rest) pos) g) : DW X hx (.BoolOp .Or (a :: b :: rest) pos) (tOr f g) := ⟨fun W tk => PWimp (pw_or (h1.run W tk) (h2.run W tk)) fun σ H Q ⟨A, S, σd, R, E, p⟩ =>
  ⟨A, S, σd, R, E, (Post.bind (R1 := rB) p).mono fun b H1 ⟨A1, S1, d, R1, T1, r1, p1⟩ => by
    cases r1
    cases b with
    | false => exact ⟨A1, S1, σd, R1, E.step R T1, p1⟩
    | true => exact p1.here R1 rfl⟩⟩
/-- .. as values -/
def eAnd (fa fb : EM) : EM := fun σd S => (fa σd S).bind fun d S1 => (truth d S1).bind fun b S2 => if b = true then fb σd S2 else .ok d S2
def eOr (fa fb : EM) : EM := fun σd S => (fa σd S).bind fun d S1 => (truth d S1).bind fun b S2 => if b = true then .ok d S2 else fb σd S2
def eNot (fa : EM) : EM := fun σd S => (fa σd S).bind fun d S1 => (truth d S1).bind fun b S2 => .ok (.d (.bl (!b))) S2
theorem d_one {op} (h : DE X hx a fa) : DE X hx (.BoolOp op [a] pos) fa := ⟨fun W tk => pe_one (h.run W tk)⟩
theorem d_and (h1 : DE X hx a fa) (h2 : DE X hx (.BoolOp .And (b :: rest) pos) fb) : DE X hx (.BoolOp .And (a :: b :: rest) pos) (eAnd fa fb) := ⟨fun W tk => PEimp (pe_andT (h1.run W tk) (h2.run W tk)) fun σ H Q ⟨A, S, σd, R, E, p⟩ =>
  ⟨A, S, σd, R, E, (Post.bind (R1 := rV _) p).mono fun v H1 ⟨A1, S1, d, R1, T1, r1, p1⟩ => by
    obtain ⟨b, t, p2⟩ := p1.truth R1 r1
    refine ⟨b, t, ?_⟩
    cases b with
    | true => exact ⟨A1, S1, σd, R1, E.step R T1, p2⟩
    | false => exact p2.here R1 r1⟩⟩
theorem d_or (h1 : DE X hx a fa) (h2 : DE X hx (.BoolOp .Or (b :: rest) pos) fb) : DE X hx (.BoolOp .Or (a :: b :: rest) pos) (eOr fa fb) := ⟨fun W tk => PEimp (pe_orT (h1.run W tk) (h2.run W tk)) fun σ H Q ⟨A, S, σd, R, E, p⟩ =>
  ⟨A, S, σd, R, E, (Post.bind (R1 := rV _) p).mono fun v H1 ⟨A1, S1, d, R1, T1, r1, p1⟩ => by
    obtain ⟨b, t, p2⟩ := p1.truth R1 r1
    refine ⟨b, t, ?_⟩
    cases b with
    | false => exact ⟨A1, S1, σd, R1, E.step R T1, p2⟩
    | true => exact p2.here R1 r1⟩⟩
theorem d_not (h : DE X hx a fa) : DE X hx (.UnaryOp .Not a pos) (eNot fa) := ⟨fun W tk => PEimp (pe_notT (h.run W tk)) fun σ H Q ⟨A, S, σd, R, E, p⟩ =>
  ⟨A, S, σd, R, E, (Post.bind (R1 := rV _) p).mono fun v H1 ⟨A1, S1, d, R1, T1, r1, p1⟩ => by
    obtain ⟨b, t, p2⟩ := p1.truth R1 r1
    exact ⟨b, t, p2.hereV R1 (.bl _)⟩⟩⟩
def eIf (t : TM) (fa fb : EM) : EM := fun σd S => (t σd S).bind fun b S1 => if b = true then fa σd S1 else fb σd S1
theorem d_if (hc : DT X hx c f) (ha : DE X hx a fa) (hb : DE X hx b fb) : DE X hx (.IfExp c a b pos) (eIf f fa fb) := ⟨fun W tk => PEimp (pe_ifExp (hc.run W tk) (ha.run W tk) (hb.run W tk)) fun σ H Q ⟨A, S, σd, R, E, p⟩ =>
  ⟨A, S, σd, R, E, (Post.bind (R1 := rB) p).mono fun b H1 ⟨A1, S1, d, R1, T1, r1, p1⟩ => by
    cases r1
    cases b with
    | true => exact ⟨A1, S1, σd, R1, E.step R T1, p1⟩
    | false => exact ⟨A1, S1, σd, R1, E.step R T1, p1⟩⟩⟩
end
end
end Y
end
section
/-! Y8: calls of built-in functions and types. -/
namespace Y
open PySem PySem.Spec PyProof.Rows L2

def eB (f : List Wt → Store → Res Wt) (g : AM) : EM := fun σd S => (g σd S).bind fun ds S1 => f ds S1
def rCD (c : Cn) (f : List Wt → Store → Res Wt) : List V → Hp → VK → Prop := fun vs H Q => ∃ A S σ ds, Rel c.K A S H ∧ rVs c A S H ds vs ∧ Post c (rV c) σ A S H Q (f ds S)
def CalD (X : Cx) (hx : Hx) (v : Value) (f : List Wt → Store → Res Wt) : Prop := ∀ W, CallR X v (rCD ⟨X.K, hx, W⟩ f)
theorem eB_of {c : Cn} {f : List Wt → Store → Res Wt} {g : AM} {σ : L2.St} {H : Hp} {Q : VK} (h : tE c (eB f g) σ H Q) : tCB (rCD c f) (tA c g) σ H Q := by
  obtain ⟨A, S, σd, R, E, p⟩ := h
  exact ⟨A, S, σd, R, E, (Post.bind (R1 := rVs c) p).mono fun v H1 ⟨A1, S1, d, R1, T1, r1, p1⟩ => ⟨A1, S1, σ, d, R1, r1, p1⟩⟩
section
variable {X : Cx} {hx : Hx} {e : Expr} {es : List Expr} {g : AM} {f : List Wt → Store → Res Wt} {x : Str} {p pos : Pos} {id T : String}
theorem d_callB (hc : CalD X hx (.builtin id) f) (hm : X.mg x = none) (ha : DA X hx (e :: es) g) (hg : Gl X x := by rfl) (hv : bootBuiltins x = some (.builtin id) := by decide +kernel) (hn : x ≠ "__name__" := by decide) (hdb : (x == ("__debug__" : Str)) = false := by decide)
    (he : starEach (e :: es) X.env = (false, eval e X.env) :: starEach es X.env := by rfl) (hpl : (backTo pos (starEach es X.env)).any (·.1) = false := by rfl) : DE X hx (.Call (.Name x p) (e :: es) [] pos) (eB f g) :=
  ⟨fun W tk => PEimp (pe_callB (hc W) hg hm hv (ha.run W tk) hn hdb he hpl) fun σ H Q h => eB_of h⟩
theorem d_callTy (hc : CalD X hx (.type T) f) (hm : X.mg x = none) (ha : DA X hx (e :: es) g) (hg : Gl X x := by rfl) (hv : bootBuiltins x = some (.type T) := by decide +kernel) (hn : x ≠ "__name__" := by decide) (hdb : (x == ("__debug__" : Str)) = false := by decide)
    (he : starEach (e :: es) X.env = (false, eval e X.env) :: starEach es X.env := by rfl) (hpl : (backTo pos (starEach es X.env)).any (·.1) = false := by rfl) : DE X hx (.Call (.Name x p) (e :: es) [] pos) (eB f g) :=
  ⟨fun W tk => PEimp (pe_callTy (hc W) hg hm hv (ha.run W tk) hn hdb he hpl) fun σ H Q h => eB_of h⟩
theorem d_callG (hc : CalD X hx (.builtin id) f) (hm : X.mg x = some (.builtin id)) (ha : DA X hx (e :: es) g) (hg : Gl X x := by rfl) (hdb : (x == ("__debug__" : Str)) = false := by decide)
    (he : starEach (e :: es) X.env = (false, eval e X.env) :: starEach es X.env := by rfl) (hpl : (backTo pos (starEach es X.env)).any (·.1) = false := by rfl) : DE X hx (.Call (.Name x p) (e :: es) [] pos) (eB f g) :=
  ⟨fun W tk => PEimp (pe_callBfun (hc W) hg hm (ha.run W tk) hdb he hpl) fun σ H Q h => eB_of h⟩
/-- a built-in type as a value -/
theorem d_ty {n : String} (hm : X.mg x = none) (hg : Gl X x := by rfl) (hv : bootBuiltins x = some (.type n) := by decide +kernel) (hn : x ≠ "__name__" := by decide) (hd : (x == ("__debug__" : Str)) = false := by decide) : DE X hx (.Name x pos) (eC (.ty n)) :=
  d_c (pe_bltn (v := .ty n) hg hm hv rfl hn hd) fun _ _ => .ty n
end

/-! ### one, two arguments -/
theorem rvs1 {c : Cn} {A : Ads} {S : Store} {H : Hp} {d : Wt} {vs : List V} (h : rVs c A S H [d] vs) : ∃ v, vs = [v] ∧ rV c A S H d v := by
  cases h with
  | cons r t => cases t; exact ⟨_, rfl, r⟩
theorem rvs2 {c : Cn} {A : Ads} {S : Store} {H : Hp} {d e : Wt} {vs : List V} (h : rVs c A S H [d, e] vs) : ∃ v u, vs = [v, u] ∧ rV c A S H d v ∧ rV c A S H e u := by
  cases h with
  | cons r t =>
    obtain ⟨u, rfl, r'⟩ := rvs1 t
    exact ⟨_, _, rfl, r, r'⟩
def f1 (f : D → Store → Res Wt) : List Wt → Store → Res Wt
  | [d], S => match deref S d with
    | some x => f x S
    | none => .bad
  | _, _ => .bad
def f2 (f : D → D → Store → Res Wt) : List Wt → Store → Res Wt
  | [d, e], S => match deref S d, deref S e with
    | some x, some y => f x y S
    | _, _ => .bad
  | _, _ => .bad
theorem rcd1 {c : Cn} {f : D → Store → Res Wt} {vs : List V} {H : Hp} {Q : VK} (h : rCD c (f1 f) vs H Q) : ∃ A S σ x v, Rel c.K A S H ∧ vs = [v] ∧ RX c.K (Live A S) H x v ∧ Post c (rV c) σ A S H Q (f x S) := by
  obtain ⟨A, S, σ, ds, R, r, p⟩ := h
  match ds, r, p with
  | [d], r, p =>
    obtain ⟨v, rfl, r'⟩ := rvs1 r
    unfold f1 at p
    dsimp only at p
    split at p
    · rename_i x e
      exact ⟨A, S, σ, x, v, R, rfl, readAs R r' e, p⟩
    · exact p.elim
  | [], _, p => exact p.elim
  | _ :: _ :: _, _, p => exact p.elim
theorem rcd2 {c : Cn} {f : D → D → Store → Res Wt} {vs : List V} {H : Hp} {Q : VK} (h : rCD c (f2 f) vs H Q) : ∃ A S σ x y v u, Rel c.K A S H ∧ vs = [v, u] ∧ RX c.K (Live A S) H x v ∧ RX c.K (Live A S) H y u ∧ Post c (rV c) σ A S H Q (f x y S) := by
  obtain ⟨A, S, σ, ds, R, r, p⟩ := h
  match ds, r, p with
  | [d, e], r, p =>
    obtain ⟨v, u, rfl, r1, r2⟩ := rvs2 r
    unfold f2 at p
    dsimp only at p
    split at p
    · rename_i x y e1 e2
      exact ⟨A, S, σ, x, y, v, u, R, rfl, readAs R r1 e1, readAs R r2 e2, p⟩
    · exact p.elim
  | [], _, p => exact p.elim
  | [_], _, p => exact p.elim
  | _ :: _ :: _ :: _, _, p => exact p.elim

/-! ### len -/
def bLen : List Wt → Store → Res Wt := f1 fun d S => match d with
  | .str x => if x.length ≤ lim then .ok (.d (.int x.length)) S else .bad
  | .tup l => .ok (.d (.int l.length)) S
  | .lst l => .ok (.d (.int l.length)) S
  | .fls l => .ok (.d (.int l.length)) S
  | .dct ks l => .ok (.d (.int ks.length)) S
  | _ => .bad
section
variable {X : Cx} {hx : Hx}
theorem cal_len : CalD X hx (.builtin "len") bLen := by
  intro W pins s σ H xs us Q I r h
  obtain ⟨A, S, σ', d, v, R, rfl, rv, p⟩ := rcd1 h
  split at p
  · rename_i x
    obtain ⟨hz, p⟩ := Post.iteP p
    exact call_len_str pins s σ H _ us Q I r ⟨x, by rw [rv.str], lim_line hz, p.hereV R (.int _)⟩
  · rename_i l
    obtain ⟨b, vs, rfl, hq, g⟩ := rv.tup
    refine call_len_seq pins s σ H _ us Q I r ⟨b, vs, rfl, .inr hq, ?_⟩
    rw [← g.len]
    exact p.hereV R (.int _)
  · rename_i l
    obtain ⟨b, vs, rfl, hq, g⟩ := rv.lst
    refine call_len_seq pins s σ H _ us Q I r ⟨b, vs, rfl, .inl (SqL.of hq), ?_⟩
    rw [← g.len]
    exact p.hereV R (.int _)
  · rename_i l
    obtain ⟨b, vs, rfl, hq, g⟩ := rv.fls
    refine call_len_seq pins s σ H _ us Q I r ⟨b, vs, rfl, .inl hq, ?_⟩
    rw [← g.len]
    exact p.hereV R (.int _)
  · rename_i ks l
    obtain ⟨b, kvs, rfl, hq, hk, g⟩ := rv.dct
    obtain ⟨u, rfl, ru⟩ := vals1 r
    cases ru
    refine d_len I hq fun t s' I' => ⟨.int kvs.length, H, I', ⟨t, rfl⟩, ?_⟩
    have : kvs.length = ks.length := by rw [← hk, List.length_map]
    rw [this]
    exact p.hereV R (.int _)
  · exact p.elim

/-! ### abs, int, min, max, divmod, gcd -/
def bAbs : List Wt → Store → Res Wt := f1 fun d S => match d with
  | .int i => .ok (.d (.int (if i < 0 then -i else i))) S
  | _ => .bad
theorem cal_abs : CalD X hx (.builtin "abs") bAbs := by
  intro W pins s σ H xs us Q I r h
  obtain ⟨A, S, σ', d, v, R, rfl, rv, p⟩ := rcd1 h
  split at p
  · rename_i x
    exact call_abs pins s σ H _ us Q I r ⟨x, by rw [rv.int], p.hereV R (.int _)⟩
  · exact p.elim
def bInt : List Wt → Store → Res Wt := f1 fun d S => match d with
  | .int i => .ok (.d (.int i)) S
  | .bl b => .ok (.d (.int (if b then 1 else 0))) S
  | .str a => match PySem.intText? a with
    | some n => if a.length ≤ 640 then .ok (.d (.int n)) S else .bad
    | none => .bad
  | _ => .bad
theorem cal_int : CalD X hx (.type "int") bInt := by
  intro W pins s σ H xs us Q I r h
  obtain ⟨A, S, σ', d, v, R, rfl, rv, p⟩ := rcd1 h
  split at p
  · rename_i x
    exact call_int1 pins s σ H _ us Q I r (.inl ⟨x, by rw [rv.int], p.hereV R (.int _)⟩)
  · rename_i x
    exact call_int1 pins s σ H _ us Q I r (.inr ⟨x, by rw [rv.bl], p.hereV R (.int _)⟩)
  · rename_i x
    split at p
    · rename_i n q
      obtain ⟨hz, p⟩ := Post.iteP p
      exact call_int_str pins s σ H _ us Q I r ⟨x, n, by rw [rv.str], q, hz, p.hereV R (.int _)⟩
    · exact p.elim
  · exact p.elim
def bInts (f : Int → Int → Int) : List Wt → Store → Res Wt := f2 fun d e S => match d, e with
  | .int i, .int j => .ok (.d (.int (f i j))) S
  | _, _ => .bad
theorem cal_ints {v : Value} {f : Int → Int → Int} (h0 : CallR X v (fun xs H Q => ∃ i j, xs = [.int i, .int j] ∧ Q (.int (f i j)) H)) : CalD X hx v (bInts f) := by
  intro W pins s σ H xs us Q I r h
  obtain ⟨A, S, σ', d, e, v, u, R, rfl, rv, ru, p⟩ := rcd2 h
  split at p
  · rename_i i j
    exact h0 pins s σ H _ us Q I r ⟨i, j, by rw [rv.int, ru.int], p.hereV R (.int _)⟩
  · exact p.elim
abbrev bMax := bInts fun i j => if j > i then j else i
abbrev bMin := bInts fun i j => if j < i then j else i
abbrev bGcd := bInts fun i j => ((Nat.gcd i.natAbs j.natAbs : Nat) : Int)
theorem cal_max (hc : X.calm = true) : CalD X hx (.builtin "max") bMax := cal_ints (call_max2 hc)
theorem cal_min (hc : X.calm = true) : CalD X hx (.builtin "min") bMin := cal_ints (call_min2 hc)
theorem cal_gcd : CalD X hx (.builtin "math.gcd") bGcd := cal_ints cr_gcd
def bDivmod : List Wt → Store → Res Wt := f2 fun d e S => match d, e with
  | .int i, .int j => if 0 < j ∧ j.natAbs.log2 < 9000 then .ok (.d (.tup [.int (i / j), .int (i % j)])) S else .bad
  | _, _ => .bad
theorem cal_divmod : CalD X hx (.builtin "divmod") bDivmod := by
  intro W pins s σ H xs us Q I r h
  obtain ⟨A, S, σ', d, e, v, u, R, rfl, rv, ru, p⟩ := rcd2 h
  split at p
  · rename_i i j
    obtain ⟨hz, p⟩ := Post.iteP p
    exact call_divmodW pins s σ H _ us Q I r ⟨i, j, by rw [rv.int, ru.int], ⟨hz.1, PyProof.noPylong_of_log2 hz.2⟩, fun q hq => p.tup R (.cons (.int _) (.cons (.int _) .nil)) hq⟩
  · exact p.elim

/-! ### all, any, sum, sorted, over lists -/
def asBools : List D → Option (List Bool)
  | [] => some []
  | .bl b :: l => (asBools l).map (b :: ·)
  | _ => none
def asInts : List D → Option (List Int)
  | [] => some []
  | .int b :: l => (asInts l).map (b :: ·)
  | _ => none
theorem bools_of {K : PySem.W.Frag} {lv : Addr → Prop} {H : Hp} : ∀ {l : List D} {vs : List V} {bs : List Bool}, RPs K lv H l vs → asBools l = some bs → vs = bs.map V.bl
  | [], _, _, h, e => by cases h; cases e; rfl
  | d :: l, _, bs, h, e => by
    cases h with
    | cons h1 h2 =>
      cases d with
      | bl b =>
        cases h1
        rw [asBools] at e
        cases q : asBools l with
        | none => rw [q] at e; cases e
        | some cs => rw [q] at e; cases e; rw [bools_of h2 q]; rfl
      | _ => simp [asBools] at e
theorem ints_of {K : PySem.W.Frag} {lv : Addr → Prop} {H : Hp} : ∀ {l : List D} {vs : List V} {bs : List Int}, RPs K lv H l vs → asInts l = some bs → vs = bs.map V.int
  | [], _, _, h, e => by cases h; cases e; rfl
  | d :: l, _, bs, h, e => by
    cases h with
    | cons h1 h2 =>
      cases d with
      | int b =>
        cases h1
        rw [asInts] at e
        cases q : asInts l with
        | none => rw [q] at e; cases e
        | some cs => rw [q] at e; cases e; rw [ints_of h2 q]; rfl
      | _ => simp [asInts] at e
theorem of_ints {K : PySem.W.Frag} {lv : Addr → Prop} {H : Hp} : ∀ (ns : List Int), RPs K lv H (ns.map D.int) (ns.map V.int)
  | [] => .nil
  | i :: r => .cons (.int i) (of_ints r)
def bLst {α : Type} (as : List D → Option (List α)) (k : List α → Store → Res Wt) : List Wt → Store → Res Wt := f1 fun d S => match d with
  | .lst l => match as l with
    | some bs => k bs S
    | none => .bad
  | _ => .bad
abbrev bAll := bLst asBools fun bs S => .ok (.d (.bl (bs.all id))) S
abbrev bAny := bLst asBools fun bs S => .ok (.d (.bl (bs.any id))) S
abbrev bSum := bLst asInts fun bs S => .ok (.d (.int bs.sum)) S
theorem cal_all (hc : X.calm = true) : CalD X hx (.builtin "all") bAll := by
  intro W pins s σ H xs us Q I r h
  obtain ⟨A, S, σ', d, v, R, rfl, rv, p⟩ := rcd1 h
  split at p
  · rename_i l
    split at p
    · rename_i bs q
      obtain ⟨b, vs, rfl, hq, g⟩ := rv.lst
      have := bools_of g q
      subst this
      exact cr_all hc pins s σ H _ us Q I r ⟨b, bs, rfl, SqL.of hq, p.hereV R (.bl _)⟩
    · exact p.elim
  · exact p.elim
theorem cal_any (hc : X.calm = true) : CalD X hx (.builtin "any") bAny := by
  intro W pins s σ H xs us Q I r h
  obtain ⟨A, S, σ', d, v, R, rfl, rv, p⟩ := rcd1 h
  split at p
  · rename_i l
    split at p
    · rename_i bs q
      obtain ⟨b, vs, rfl, hq, g⟩ := rv.lst
      have := bools_of g q
      subst this
      exact cr_any hc pins s σ H _ us Q I r ⟨b, bs, rfl, SqL.of hq, p.hereV R (.bl _)⟩
    · exact p.elim
  · exact p.elim
theorem cal_sum (hc : X.calm = true) : CalD X hx (.builtin "sum") bSum := by
  intro W pins s σ H xs us Q I r h
  obtain ⟨A, S, σ', d, v, R, rfl, rv, p⟩ := rcd1 h
  split at p
  · rename_i l
    split at p
    · rename_i bs q
      obtain ⟨b, vs, rfl, hq, g⟩ := rv.lst
      have := ints_of g q
      subst this
      exact cr_sum hc pins s σ H _ us Q I r ⟨b, bs, rfl, SqL.of hq, p.hereV R (.int _)⟩
    · exact p.elim
  · exact p.elim
/-! ### list(..), tuple(..) -/
def bTuple : List Wt → Store → Res Wt := f1 fun d S => match d with
  | .lst l => .ok (.d (.tup l)) S
  | .tup l => .ok (.d (.tup l)) S
  | _ => .bad
def bList : List Wt → Store → Res Wt := f1 fun d S => match d with
  | .lst l => .ok (.d (.lst l)) S
  | .tup l => .ok (.d (.lst l)) S
  | _ => .bad
def bListL : List Wt → Store → Res Wt := f1 fun d S => match d with
  | .lst l => .ok (.loc S.length) (S ++ [.lst l])
  | .tup l => .ok (.loc S.length) (S ++ [.lst l])
  | _ => .bad
theorem cal_tuple : CalD X hx (.type "tuple") bTuple := by
  intro W pins s σ H xs us Q I r h
  obtain ⟨A, S, σ', d, v, R, rfl, rv, p⟩ := rcd1 h
  split at p
  · rename_i l
    obtain ⟨b, vs, rfl, hq, g⟩ := rv.lst
    exact call_tuple_of pins s σ H _ us Q I r ⟨b, vs, rfl, .inl ⟨SqL.of hq, fun q hq => p.tup R g hq⟩⟩
  · rename_i l
    obtain ⟨b, vs, rfl, hq, g⟩ := rv.tup
    exact call_tuple_of pins s σ H _ us Q I r ⟨b, vs, rfl, .inr ⟨hq, p.hereV R (.tup hq g)⟩⟩
  · exact p.elim
theorem cal_list : CalD X hx (.type "list") bList := by
  intro W pins s σ H xs us Q I r h
  obtain ⟨A, S, σ', d, v, R, rfl, rv, p⟩ := rcd1 h
  split at p
  · rename_i l
    obtain ⟨b, vs, rfl, hq, g⟩ := rv.lst
    exact call_list_of pins s σ H _ us Q I r ⟨b, vs, rfl, .inl (SqL.of hq), fun q hq => p.lst R g hq⟩
  · rename_i l
    obtain ⟨b, vs, rfl, hq, g⟩ := rv.tup
    exact call_list_of pins s σ H _ us Q I r ⟨b, vs, rfl, .inr hq, fun q hq => p.lst R g hq⟩
  · exact p.elim
theorem cal_listL : CalD X hx (.type "list") bListL := by
  intro W pins s σ H xs us Q I r h
  obtain ⟨A, S, σ', d, v, R, rfl, rv, p⟩ := rcd1 h
  split at p
  · rename_i l
    obtain ⟨b, vs, rfl, hq, g⟩ := rv.lst
    exact call_list_of pins s σ H _ us Q I r ⟨b, vs, rfl, .inl (SqL.of hq), fun q hq => p.alloc R g hq⟩
  · rename_i l
    obtain ⟨b, vs, rfl, hq, g⟩ := rv.tup
    exact call_list_of pins s σ H _ us Q I r ⟨b, vs, rfl, .inr hq, fun q hq => p.alloc R g hq⟩
  · exact p.elim

/-! ### sorted, of ints -/
theorem sorted_same {a b : List Int} (hp : a.Perm b) (ha : a.Pairwise (· ≤ ·)) (hb : b.Pairwise (· ≤ ·)) : a = b := List.Perm.eq_of_pairwise (fun _ _ _ _ h1 h2 => Int.le_antisymm h1 h2) ha hb hp
def isort (l : List Int) : List Int := l.mergeSort (fun a b => decide (a ≤ b))
theorem isort_perm (l : List Int) : (isort l).Perm l := List.mergeSort_perm _ _
theorem isort_sorted (l : List Int) : (isort l).Pairwise (· ≤ ·) := by
  have := List.pairwise_mergeSort (le := fun a b : Int => decide (a ≤ b)) (fun a b c h1 h2 => by simp at *; omega) (fun a b => by simp; omega) l
  simpa [isort] using this
abbrev bSorted := bLst asInts fun bs S => .ok (.d (.lst ((isort bs).map D.int))) S
theorem cal_sorted : CalD X hx (.builtin "sorted") bSorted := by
  intro W pins s σ H xs us Q I r h
  obtain ⟨A, S, σ', d, v, R, rfl, rv, p⟩ := rcd1 h
  split at p
  · rename_i l
    split at p
    · rename_i bs q
      obtain ⟨b, vs, rfl, hq, g⟩ := rv.lst
      have := ints_of g q
      subst this
      refine cr_sortedI pins s σ H _ us Q I r ⟨b, bs, rfl, SqL.of hq, fun ns' q' hp hs hn => ?_⟩
      have e2 : ns' = isort bs := sorted_same (hp.trans (isort_perm bs).symm) hs (isort_sorted bs)
      subst e2
      exact p.lst R (of_ints _) hn
    · exact p.elim
  · exact p.elim

/-! ### isinstance -/
def tyN : D → Option String
  | .non => some "NoneType" | .bl _ => some "bool" | .int _ => some "int" | .str _ => some "str" | .tup _ => some "tuple" | .lst _ => some "list" | .fls _ => some "list" | .dct _ _ => some "dict"
  | _ => none
def isT (t n : String) : Bool := t == n || (t == "bool" && n == "int")
def tyK : List String := ["int", "bool", "str", "tuple", "list", "dict"]
theorem isT_kit : ∀ t ∈ "NoneType" :: tyK, ∀ n ∈ tyK, kitB t n = some (isT t n) := by decide +kernel
theorem tyN_mem {d : D} {t : String} (h : tyN d = some t) : t ∈ "NoneType" :: tyK := by
  cases d <;> first
    | (cases h; decide)
    | cases h
def asTys : List D → Option (List String)
  | [] => some []
  | .ty n :: l => if tyK.contains n then (asTys l).map (n :: ·) else none
  | _ => none
def bIsi : List Wt → Store → Res Wt := f2 fun d e S => match tyN d, e with
  | some t, .ty n => if tyK.contains n then .ok (.d (.bl (isT t n))) S else .bad
  | some t, .tup cs => match asTys cs with
    | some ns => .ok (.d (.bl (ns.any (isT t)))) S
    | none => .bad
  | _, _ => .bad
theorem tyX_of {K : PySem.W.Frag} {lv : Addr → Prop} {H : Hp} {d : D} {v : V} {t : String} (h : RX K lv H d v) (e : tyN d = some t) : TyX K H v (.type t) := by
  cases d <;> first
    | (cases e; done)
    | (cases e
       first
        | (obtain rfl := h.non; exact .base .non)
        | (obtain rfl := h.bl; exact .base (.bl _))
        | (obtain rfl := h.int; exact .base (.int _))
        | (obtain rfl := h.str; exact .base (.str _))
        | (obtain ⟨a, vs, rfl, (h1 | ⟨o, h1⟩) | ⟨o, its, n, h1, h2, _⟩, _⟩ := h.tup
           · exact .base (.tup h1)
           · exact .fTuple h1
           · exact .kTuple h1 h2)
        | (obtain ⟨a, vs, rfl, h1, _⟩ := h.lst; exact .base (.lst h1))
        | (obtain ⟨a, vs, rfl, (h1 | ⟨o, h1⟩) | ⟨o, its, n, h1, h2, _⟩, _⟩ := h.fls
           · exact .base (.lst h1)
           · exact .base (.frz h1)
           · exact .kList h1 h2)
        | (obtain ⟨a, vs, rfl, h1 | ⟨o, h1⟩, _⟩ := h.dct
           · exact .base (.dK h1)
           · exact .fDict h1))
theorem tys_of {K : PySem.W.Frag} {lv : Addr → Prop} {H : Hp} : ∀ {l : List D} {vs : List V} {ns : List String}, RPs K lv H l vs → asTys l = some ns → vs = ns.map V.ty ∧ ∀ n ∈ ns, n ∈ tyK
  | [], _, _, h, e => by cases h; cases e; exact ⟨rfl, fun _ h => nomatch h⟩
  | d :: l, _, bs, h, e => by
    cases h with
    | cons h1 h2 =>
      cases d with
      | ty b =>
        cases h1
        rw [asTys] at e
        by_cases hk : tyK.contains b = true
        · rw [if_pos hk] at e
          cases q : asTys l with
          | none => rw [q] at e; cases e
          | some cs =>
            rw [q] at e
            cases e
            obtain ⟨h3, h4⟩ := tys_of h2 q
            rw [h3]
            exact ⟨rfl, fun n hn => (List.mem_cons.mp hn).elim (fun z => by rw [z]; simpa using hk) (h4 n)⟩
        · rw [if_neg hk] at e; cases e
      | _ => simp [asTys] at e
theorem kitAny_tys {K : PySem.W.Frag} {t : String} (ht : t ∈ "NoneType" :: tyK) : ∀ (ns : List String), (∀ n ∈ ns, n ∈ tyK) → PySem.W.kitAny K (.type t) (ns.map Value.type) = some (ns.any (isT t))
  | [], _ => rfl
  | n :: r, h => by
    have h1 := kit_ty (K := K) (isT_kit t ht n (h n List.mem_cons_self))
    rw [List.map_cons, List.any_cons]
    refine kitAny_cons h1 (fun e => ?_) fun e => by rw [e]; rfl
    rw [e, Bool.false_or]
    exact kitAny_tys ht r fun m hm => h m (List.mem_cons_of_mem _ hm)
theorem call_isiS : CallR X (.builtin "isinstance") (fun xs H Q => ∃ (x : V) (tp : Addr) (ns : List String) (t : Value) (b : Bool), xs = [x, .ref tp] ∧ SqT X.K H tp (ns.map V.ty) ∧ TyX X.K H x t ∧ PySem.W.kitAny X.K t (ns.map Value.type) = some b ∧ Q (.bl b) H) := by
  intro pins s σ H xs us Q I r h
  obtain ⟨x, tp, ns, t, b, rfl, hT, ty, e, q⟩ := h
  obtain ⟨u1, u2, rfl, r1, r2⟩ := vals2 r
  cases (show u2 = Value.ref tp from r2)
  obtain ⟨P, Z, p, hx⟩ := kit_of I r1 ty
  obtain ⟨its, rv, ⟨o, h1, h2, n, h3⟩, hzz⟩ := I.tuple hT
  have e3 : its = ns.map Value.type := by
    clear hT e h3 hzz r
    induction ns generalizing its with
    | nil => cases rv; rfl
    | cons a l ih =>
      cases rv with
      | cons ra rt =>
        rw [ih _ rt]
        have : _ = Value.type a := ra
        rw [this]; rfl
  subst e3
  obtain ⟨oc, od, dt, sl⟩ := o
  simp only at h2 h3
  subst h2 h3
  exact PySem.W.kia_tup Z I.kIn p h1 e hx fun tk => ⟨.bl b, H, I.tok tk, rfl, q⟩
theorem cal_isi : CalD X hx (.builtin "isinstance") bIsi := by
  intro W pins s σ H xs us Q I r h
  obtain ⟨A, S, σ', d, e, v, u, R, rfl, rv, ru, p⟩ := rcd2 h
  split at p
  · rename_i t n e1
    obtain ⟨hz, p⟩ := Post.iteP p
    have hz : n ∈ tyK := by simpa using hz
    obtain rfl := ru.ty
    exact call_isi pins s σ H _ us Q I r ⟨v, .ty n, .type t, .type n, _, rfl, .ty n, tyX_of rv e1, kit_ty (isT_kit t (tyN_mem e1) n hz), p.hereV R (.bl _)⟩
  · rename_i t cs e1
    split at p
    · rename_i ns q
      obtain ⟨b, vs, rfl, hq, g⟩ := ru.tup
      obtain ⟨h3, h4⟩ := tys_of g q
      subst h3
      exact call_isiS pins s σ H _ us Q I r ⟨v, b, ns, .type t, _, rfl, hq, tyX_of rv e1, kitAny_tys (tyN_mem e1) ns h4, p.hereV R (.bl _)⟩
    · exact p.elim
  · exact p.elim
end
end Y
end
section
/-! Y9: statements, defs, calls. -/
namespace Y
open PySem PySem.Spec PyProof.Rows L2

inductive SR where
  | nx (σd : Ev) (S : Store) | rt (d : Wt) (S : Store) | bk (σd : Ev) (S : Store) | ct (σd : Ev) (S : Store)
  | exc (C : Str) (ns : List Str) (l : List D) (σd : Ev) (S : Store) | bad
  deriving Inhabited
abbrev SM := Nat → Ev → Store → SR
def Res.toS {α : Type} (r : Res α) (σd : Ev) (k : α → Store → SR) : SR := match r with
  | .ok a S => k a S
  | .exc C ns l S => .exc C ns l σd S
  | .bad => .bad
def SPost (c : Cn) (A0 : Ads) (S0 : Store) (H0 : Hp) (D : Ends) : SR → Prop
  | .nx σd S => ∀ A H σ, Rel c.K A S H → Stp A0 S0 H0 A S H → RE c.K c.hx A (Live A S) H σd σ → D.nx σ H
  | .bk σd S => ∀ A H σ, Rel c.K A S H → Stp A0 S0 H0 A S H → RE c.K c.hx A (Live A S) H σd σ → D.bk σ H
  | .ct σd S => ∀ A H σ, Rel c.K A S H → Stp A0 S0 H0 A S H → RE c.K c.hx A (Live A S) H σd σ → D.ct σ H
  | .rt d S => ∀ A H v, Rel c.K A S H → Stp A0 S0 H0 A S H → RV c.K c.hx A (Live A S) H d v → D.rt v H
  | .exc C ns l σd S => ∀ A H σ dx vs, Rel c.K A S H → Stp A0 S0 H0 A S H → RE c.K c.hx A (Live A S) H σd σ → H dx = some (.xd (ns.zip vs)) → RPs c.K (Live A S) H l vs → ns.length = l.length → c.W (.ref (He.ga c.K C)) (some dx) σ H
  | .bad => False
def tS (c : Cn) (f : SM) : TS := fun D σ H => ∃ b0 A0 S0 H0 A S σd, Rel c.K A0 S0 H0 ∧ Stp A0 S0 H0 A S H ∧ Rel c.K A S H ∧ RE c.K c.hx A (Live A S) H σd σ ∧ SPost c A0 S0 H0 D (f b0 σd S)
structure DS (X : Cx) (hx : Hx) (s : Stmt) (f : SM) : Prop where
  run : ∀ W, Takes X W → PS X s (tS ⟨X.K, hx, W⟩ f)
structure DB (X : Cx) (hx : Hx) (s : List Stmt) (f : SM) : Prop where
  run : ∀ W, Takes X W → PSs X s (tS ⟨X.K, hx, W⟩ f)
theorem PSsimp {X : Cx} {e : List Stmt} {t t' : TS} (h : PSs X e t) (i : ∀ σ H Q, t' Q σ H → t Q σ H) : PSs X e t' := ⟨fun pins s σ H Q I q => h.run pins s σ H Q I (i σ H Q q)⟩
section
variable {c : Cn} {A0 A : Ads} {S0 S : Store} {H0 H : Hp} {D : Ends} {σ : L2.St} {σd : Ev}
/-- a statement's part, then what it does with it -/
theorem Post.ofS {α β : Type} {R1 : RR α β} {r : Res α} {k : α → Store → SR} (R : Rel c.K A S H) (T : Stp A0 S0 H0 A S H) (E : RE c.K c.hx A (Live A S) H σd σ) (p : SPost c A0 S0 H0 D (r.toS σd k)) :
    Post c R1 σ A S H (fun b H1 => ∃ A1 S1 a, Rel c.K A1 S1 H1 ∧ Stp A0 S0 H0 A1 S1 H1 ∧ RE c.K c.hx A1 (Live A1 S1) H1 σd σ ∧ R1 A1 S1 H1 a b ∧ SPost c A0 S0 H0 D (k a S1)) r := by
  cases r with
  | ok a S' => exact fun A' H' b x y z => ⟨A', S', a, x, T.trans y, E.step R y, z, p⟩
  | exc C ns l S' => exact fun A' H' dx vs x y => p A' H' σ dx vs x (T.trans y) (E.step R y)
  | bad => exact p
theorem Post.ofS' {α β : Type} {R1 : RR α β} {r : Res α} {k : α → Store → SR} (R : Rel c.K A S H) (T : Stp A0 S0 H0 A S H) (E : RE c.K c.hx A (Live A S) H σd σ) (p : SPost c A0 S0 H0 D (r.toS σd k)) :
    Post c R1 σ A S H (fun b H1 => ∃ A1 S1 a, Rel c.K A1 S1 H1 ∧ Stp A S H A1 S1 H1 ∧ RE c.K c.hx A1 (Live A1 S1) H1 σd σ ∧ R1 A1 S1 H1 a b ∧ SPost c A0 S0 H0 D (k a S1)) r := by
  cases r with
  | ok a S' => exact fun A' H' b x y z => ⟨A', S', a, x, y, E.step R y, z, p⟩
  | exc C ns l S' => exact fun A' H' dx vs x y => p A' H' σ dx vs x (T.trans y) (E.step R y)
  | bad => exact p
theorem SPost.shift {r : SR} (T : Stp A0 S0 H0 A S H) (p : SPost c A0 S0 H0 D r) : SPost c A S H D r := by
  cases r with
  | nx σd S' => exact fun A' H' σ' R' T' => p A' H' σ' R' (T.trans T')
  | bk σd S' => exact fun A' H' σ' R' T' => p A' H' σ' R' (T.trans T')
  | ct σd S' => exact fun A' H' σ' R' T' => p A' H' σ' R' (T.trans T')
  | rt d S' => exact fun A' H' v R' T' => p A' H' v R' (T.trans T')
  | exc C ns l σd S' => exact fun A' H' σ' dx vs R' T' => p A' H' σ' dx vs R' (T.trans T')
  | bad => exact p
end
def sNext : SM := fun _ σd S => .nx σd S
def sSeq (f g : SM) : SM := fun b σd S => match f b σd S with
  | .nx σd' S' => g b σd' S'
  | r => r
def sExpr (f : EM) : SM := fun _ σd S => (f σd S).toS σd fun _ S' => .nx σd S'
def sRet (f : EM) : SM := fun _ σd S => (f σd S).toS σd fun d S' => .rt d S'
/-- .. let alone from then on -/
def eFz (f : EM) : EM := fun σd S => (f σd S).bind fun d S1 => (fz1 S1 d).bind fun x S2 => .ok (.d x) S2
def sSet (i : Nat) (f : EM) : SM := fun _ σd S => (f σd S).toS σd fun d S' => .nx (σd.set i (some d)) S'
def sIf (t : TM) (f g : SM) : SM := fun b σd S => (t σd S).toS σd fun k S' => if k = true then f b σd S' else g b σd S'
def sBreak : SM := fun _ σd S => .bk σd S
def sCont : SM := fun _ σd S => .ct σd S
section
variable {X : Cx} {hx : Hx} {st : Stmt} {rest : List Stmt} {f g : SM} {e : Expr} {fe : EM} {pos : Pos}
theorem d_fz (h : DE X hx e fe) : DE X hx e (eFz fe) := ⟨fun W tk => PEimp (h.run W tk) fun σ H Q ⟨A, S, σd, R, E, p⟩ => ⟨A, S, σd, R, E, (Post.bind (R1 := rV _) p).mono fun v H1 ⟨A1, S1, d, R1, T1, r1, p1⟩ => by
    obtain ⟨d', S', R2, T2, r2, p2⟩ := p1.fz1 R1 r1
    exact p2.hereV R2 r2⟩⟩
theorem db_nil : DB X hx [] sNext := ⟨fun W tk => PSsimp pss_nil fun σ H D ⟨b0, A0, S0, H0, A, S, σd, R0, T, R, E, p⟩ => p A H σ R T E⟩
theorem seq_of {c : Cn} {f g : SM} {σ : L2.St} {H : Hp} {D : Ends} (h : tS c (sSeq f g) D σ H) : tS c f { D with nx := tS c g D } σ H := by
  obtain ⟨b0, A0, S0, H0, A, S, σd, R0, T, R, E, p⟩ := h
  refine ⟨b0, A0, S0, H0, A, S, σd, R0, T, R, E, ?_⟩
  unfold sSeq at p
  cases q : f b0 σd S with
  | nx σd' S' => rw [q] at p; exact fun A' H' σ' R' T' E' => ⟨b0, A0, S0, H0, A', S', σd', R0, T', R', E', p⟩
  | rt d S' => rw [q] at p; exact p
  | bk σd' S' => rw [q] at p; exact p
  | ct σd' S' => rw [q] at p; exact p
  | exc C ns l σd' S' => rw [q] at p; exact p
  | bad => rw [q] at p; exact p
theorem db_cons (h1 : DS X hx st f) (h2 : DB X hx rest g) : DB X hx (st :: rest) (sSeq f g) := ⟨fun W tk => PSsimp (pss_cons (h1.run W tk) (h2.run W tk)) fun σ H D h => seq_of h⟩
theorem db_one (h1 : DS X hx st f) : DB X hx [st] f := ⟨fun W tk => pss_one (h1.run W tk)⟩
theorem ds_pass : DS X hx (.Pass pos) sNext := ⟨fun W tk => PSimp ps_pass fun σ H D ⟨b0, A0, S0, H0, A, S, σd, R0, T, R, E, p⟩ => p A H σ R T E⟩
theorem ds_break : DS X hx (.Break pos) sBreak := ⟨fun W tk => PSimp ps_break fun σ H D ⟨b0, A0, S0, H0, A, S, σd, R0, T, R, E, p⟩ => p A H σ R T E⟩
theorem ds_cont : DS X hx (.Continue pos) sCont := ⟨fun W tk => PSimp ps_continue fun σ H D ⟨b0, A0, S0, H0, A, S, σd, R0, T, R, E, p⟩ => p A H σ R T E⟩
theorem ds_expr (h : DE X hx e fe) (hs : swapsWith e none pos.line X.env = pure false := by rfl) : DS X hx (.Expr e pos) (sExpr fe) := ⟨fun W tk => PSimp (ps_expr (h.run W tk) hs) fun σ H D ⟨b0, A0, S0, H0, A, S, σd, R0, T, R, E, p⟩ =>
  ⟨A, S, σd, R, E, (Post.ofS (R1 := rV _) R T E p).mono fun v H1 ⟨A1, S1, d, R1, T1, E1, r1, p1⟩ => p1 A1 H1 σ R1 T1 E1⟩⟩
theorem ds_ret (h : DE X hx e fe) : DS X hx (.Return (some e) pos) (sRet fe) := ⟨fun W tk => PSimp (ps_ret (h.run W tk)) fun σ H D ⟨b0, A0, S0, H0, A, S, σd, R0, T, R, E, p⟩ =>
  ⟨A, S, σd, R, E, (Post.ofS (R1 := rV _) R T E p).mono fun v H1 ⟨A1, S1, d, R1, T1, E1, r1, p1⟩ => p1 A1 H1 v R1 T1 r1⟩⟩
def sRetN : SM := fun _ _ S => .rt (.d .non) S
theorem ds_retN : DS X hx (.Return none pos) sRetN := ⟨fun W tk => PSimp ps_retN fun σ H D ⟨b0, A0, S0, H0, A, S, σd, R0, T, R, E, p⟩ => p A H .non R T (RV.of (x := .non) .non)⟩
/-- where the name is assigned -/
theorem ds_set {i : Nat} {x : Str} {pos' : Pos} (hN : X.N.Nodup) (h : DE X hx e fe) (hi : X.N[i]? = some x := by rfl) (hl : Loc X.env.scope x := by first | exact .inl rfl | exact .inr rfl) (hs : swapsWith e (some (.Name x pos')) pos.line X.env = pure false := by rfl)
    (hf : X.fn x = true ∨ X.env.scope.names.lookup x = some .local := by first | exact .inl rfl | exact .inr rfl) : DS X hx (.Assign [.Name x pos'] e pos) (sSet i fe) := ⟨fun W tk => PSimp (ps_set hN hi hl (h.run W tk) hs hf) fun σ H D ⟨b0, A0, S0, H0, A, S, σd, R0, T, R, E, p⟩ =>
  ⟨A, S, σd, R, E, (Post.ofS (R1 := rV _) R T E p).mono fun v H1 ⟨A1, S1, d, R1, T1, E1, r1, p1⟩ => p1 A1 H1 _ R1 T1 (E1.set r1)⟩⟩
theorem ds_if {t : TM} {cnd : Expr} {as bs : List Stmt} (hc : DT X hx cnd t) (ha : DB X hx as f) (hb : DB X hx bs g) : DS X hx (.If cnd as bs pos) (sIf t f g) := ⟨fun W tk => PSimp (ps_if (hc.run W tk) (ha.run W tk) (hb.run W tk)) fun σ H D ⟨b0, A0, S0, H0, A, S, σd, R0, T, R, E, p⟩ =>
  ⟨A, S, σd, R, E, (Post.ofS (R1 := rB) R T E p).mono fun v H1 ⟨A1, S1, d, R1, T1, E1, r1, p1⟩ => by
    cases r1
    cases v with
    | true => exact ⟨b0, A0, S0, H0, A1, S1, σd, R0, T1, R1, E1, p1⟩
    | false => exact ⟨b0, A0, S0, H0, A1, S1, σd, R0, T1, R1, E1, p1⟩⟩⟩
end

/-! ### while -/
def whileN (t : TM) (f : SM) : Nat → SM
  | 0 => fun _ _ _ => .bad
  | n + 1 => fun b σd S => (t σd S).toS σd fun k S1 => if k = true then (match f b σd S1 with
    | .nx σd' S' => whileN t f n b σd' S'
    | .ct σd' S' => whileN t f n b σd' S'
    | .bk σd' S' => .nx σd' S'
    | r => r) else .nx σd S1
/-- at most m turns -/
def sWhile (m : Nat) (t : TM) (f : SM) : SM := whileN t f m
section
variable {X : Cx} {hx : Hx} {pos : Pos} {t : TM} {f : SM} {cnd : Expr} {body : List Stmt}
theorem ds_while (m : Nat) (hp : PassesOwn (model X.prog X.w) X.A X.env X.xe) (hc : DT X hx cnd t) (hb : DB X hx body f) : DS X hx (.While cnd body [] pos) (sWhile m t f) := ⟨fun W tk => PSimp (ps_while hp (hc.run W tk) (hb.run W tk)) fun σ H D ⟨b0, A0, S0, H0, A, S, σd, R0, T, R, E, p⟩ => by
  refine ⟨fun n σ H => ∃ A S σd, Stp A0 S0 H0 A S H ∧ Rel X.K A S H ∧ RE X.K hx A (Live A S) H σd σ ∧ SPost ⟨X.K, hx, W⟩ A0 S0 H0 D (whileN t f n b0 σd S), ⟨m, A, S, σd, T, R, E, p⟩, ?_⟩
  rintro n σ H ⟨A, S, σd, T, R, E, p⟩
  cases n with
  | zero => exact p.elim
  | succ n =>
    refine ⟨A, S, σd, R, E, (Post.ofS (R1 := rB) R T E p).mono fun v H1 ⟨A1, S1, d, R1, T1, E1, r1, p1⟩ => ?_⟩
    cases r1
    cases v with
    | false =>
      rw [if_neg Bool.false_ne_true] at p1 ⊢
      exact p1 A1 H1 σ R1 T1 E1
    | true =>
      rw [if_pos rfl] at p1 ⊢
      refine ⟨fun σ' H' => ∃ A S σd, Stp A0 S0 H0 A S H' ∧ Rel X.K A S H' ∧ RE X.K hx A (Live A S) H' σd σ' ∧ SPost ⟨X.K, hx, W⟩ A0 S0 H0 D (whileN t f n b0 σd S), fun σ' H' h => ⟨n, Nat.lt_succ_self n, h⟩, b0, A0, S0, H0, A1, S1, σd, R0, T1, R1, E1, ?_⟩
      cases q : f b0 σd S1 with
      | nx σd' S' => rw [q] at p1; exact fun A' H' σ' R' T' E' => ⟨A', S', σd', T', R', E', p1⟩
      | ct σd' S' => rw [q] at p1; exact fun A' H' σ' R' T' E' => ⟨A', S', σd', T', R', E', p1⟩
      | rt d S' => rw [q] at p1; exact p1
      | bk σd' S' => rw [q] at p1; exact p1
      | exc C ns l σd' S' => rw [q] at p1; exact p1
      | bad => rw [q] at p1; exact p1⟩
end

/-! ### defs -/
/-- what comes out of a def: the cells that it made are forgotten, but one that it hands back -/
def finish (b : Nat) : SR → Res Wt
  | .rt (.d x) S => .ok (.d x) (S.take b)
  | .rt (.loc n) S => if n < b then .ok (.loc n) (S.take b) else match S[n]? with
    | some c => .ok (.loc b) (S.take b ++ [c])
    | none => .bad
  | .nx _ S => .ok (.d .non) (S.take b)
  | .exc C ns l _ S => .exc C ns l (S.take b)
  | _ => .bad
/-- a def of n parameters and m names -/
def mkFn (n m : Nat) (f : SM) : List Wt → Store → Res Wt := fun ds S => if ds.length = n then finish S.length (f S.length (ds.map some ++ List.replicate (m - n) none) S) else .bad
def cE (K : PySem.W.Frag) (hx : Hx) (E : XK) : Cn := ⟨K, hx, fun cls d _ H => E cls d H⟩
/-- a def's promise: what F says -/
def spOf (K : PySem.W.Frag) (F : List Wt → Store → Res Wt) : Sp := fun vs H Q E => ∃ hx A S ds, Rel K A S H ∧ rVs (cE K hx E) A S H ds vs ∧ Post (cE K hx E) (rV (cE K hx E)) [] A S H Q (F ds S)
section
variable {K : PySem.W.Frag} {A A0 : Ads} {S S0 : Store} {H H0 : Hp}
theorem live_take {m : Nat} {b : Addr} (l : Live (A.take m) (S.take m) b) : Live A S b := by
  obtain ⟨n, c, h1, h2, h3⟩ := l
  have hn : n < m := by
    by_cases h : n < m
    · exact h
    · rw [List.getElem?_eq_none (by rw [List.length_take]; omega)] at h1; cases h1
  rw [List.getElem?_take_of_lt hn] at h1 h2
  exact ⟨n, c, h1, h2, h3⟩
theorem Fr.take (m : Nat) : Fr A S H (A.take m) (S.take m) H := ⟨fun _ _ h _ => h, fun _ l => .inl (live_take l)⟩
theorem Rel.take (m : Nat) (R : Rel K A S H) : Rel K (A.take m) (S.take m) H := by
  have lt : ∀ {α : Type} {l : List α} {n : Nat} {x : α}, (l.take m)[n]? = some x → n < m ∧ l[n]? = some x := fun {α l n x} h => by
    by_cases hn : n < m
    · rw [List.getElem?_take_of_lt hn] at h; exact ⟨hn, h⟩
    · rw [List.getElem?_eq_none (by rw [List.length_take]; omega)] at h; cases h
  refine ⟨by simp [R.len], fun n k a h1 h2 => R.inj n k a (lt h1).2 (lt h2).2, fun n c hc => ?_⟩
  obtain ⟨hn, hc⟩ := lt hc
  rcases R.cell n c hc with ⟨e1, e2⟩ | ⟨a, ha, ok⟩
  · exact .inl ⟨e1, by rw [List.getElem?_take_of_lt hn]; exact e2⟩
  · exact .inr ⟨a, by rw [List.getElem?_take_of_lt hn]; exact ha, ok.fr R (Fr.take m) fun _ h => h⟩
theorem Stp.take (R0 : Rel K A0 S0 H0) (T : Stp A0 S0 H0 A S H) : Stp A0 S0 H0 (A.take S0.length) (S.take S0.length) H := by
  refine ⟨fun n a h => ?_, ?_, T.fr.trans (Fr.take _)⟩
  · rw [List.getElem?_take_of_lt (by rw [← R0.len]; exact (List.getElem?_eq_some_iff.mp h).1)]
    exact T.ext n a h
  · rw [List.length_take, ← R0.len]
    have := T.le
    omega
theorem RV.take {hx : Hx} {d : Wt} {v : V} {m : Nat} (R : Rel K A S H) (h : RV K hx A (Live A S) H d v) (hd : ∀ n, d = .loc n → n < m) : RV K hx (A.take m) (Live (A.take m) (S.take m)) H d v :=
  h.fr R (Fr.take m) fun n a e q => by rw [List.getElem?_take_of_lt (hd n e)]; exact q
/-- one cell is kept behind the old ones -/
theorem Rel.keep {n m : Nat} {a : Addr} {c : Cell} (R : Rel K A S H) (hm : m ≤ n) (hA : A[n]? = some (some a)) (hS : S[n]? = some c) : Rel K (A.take m ++ [some a]) (S.take m ++ [c]) H ∧ Fr A S H (A.take m ++ [some a]) (S.take m ++ [c]) H := by
  have ml : m ≤ A.length := Nat.le_of_lt (Nat.lt_of_le_of_lt hm (List.getElem?_eq_some_iff.mp hA).1)
  have la : (A.take m).length = m := by rw [List.length_take]; omega
  have ls : (S.take m).length = m := by rw [List.length_take, ← R.len]; omega
  have cs : ∀ {α : Type} {l : List α} {x y : α} {k : Nat}, (l.take m).length = m → (l.take m ++ [x])[k]? = some y → (k < m ∧ l[k]? = some y) ∨ (k = m ∧ x = y) := fun {α l x y k} hl h => by
    by_cases hk : k < m
    · rw [List.getElem?_append_left (by omega), List.getElem?_take_of_lt hk] at h
      exact .inl ⟨hk, h⟩
    · rw [List.getElem?_append_right (by omega), hl] at h
      have e : k = m := by
        have := (List.getElem?_eq_some_iff.mp h).1
        simp at this
        omega
      subst e
      simp at h
      exact .inr ⟨rfl, h⟩
  have f : Fr A S H (A.take m ++ [some a]) (S.take m ++ [c]) H := ⟨fun _ _ h _ => h, fun b ⟨k, c', h1, h2, h3⟩ => by
    rcases cs la h1 with ⟨k1, q1⟩ | ⟨k1, q1⟩
    · rcases cs ls h2 with ⟨k2, q2⟩ | ⟨k2, q2⟩
      · exact .inl ⟨k, c', q1, q2, h3⟩
      · omega
    · rcases cs ls h2 with ⟨k2, q2⟩ | ⟨k2, q2⟩
      · omega
      · have e := Option.some.inj q1
        subst e q2
        exact .inl ⟨n, c, hA, hS, h3⟩⟩
  refine ⟨⟨by simp [R.len], fun i j b h1 h2 => ?_, fun i c' hc => ?_⟩, f⟩
  · rcases cs la h1 with ⟨k1, q1⟩ | ⟨k1, q1⟩ <;> rcases cs la h2 with ⟨k2, q2⟩ | ⟨k2, q2⟩
    · exact R.inj i j b q1 q2
    · have e := Option.some.inj q2
      subst e
      have := R.inj i n a q1 hA
      omega
    · have e := Option.some.inj q1
      subst e
      have := R.inj j n a q2 hA
      omega
    · omega
  · rcases cs ls hc with ⟨k1, q1⟩ | ⟨k1, q1⟩
    · rcases R.cell i c' q1 with ⟨e1, e2⟩ | ⟨b, hb, ok⟩
      · exact .inl ⟨e1, by rw [List.getElem?_append_left (by omega), List.getElem?_take_of_lt k1]; exact e2⟩
      · exact .inr ⟨b, by rw [List.getElem?_append_left (by omega), List.getElem?_take_of_lt k1]; exact hb, ok.fr R f fun _ h => h⟩
    · subst q1
      subst k1
      rcases R.cell n c hS with ⟨e1, e2⟩ | ⟨b, hb, ok⟩
      · rw [hA] at e2; cases e2
      · rw [hA] at hb
        obtain rfl := Option.some.inj (Option.some.inj hb)
        exact .inr ⟨a, by rw [List.getElem?_append_right (by omega), la]; simp, ok.fr R f fun _ h => h⟩
/-- a body's end is the def's -/
theorem finish_ok {hx : Hx} {E : XK} {Q : VK} {r : SR} (R0 : Rel K A0 S0 H0) (p : Post (cE K hx E) (rV (cE K hx E)) [] A0 S0 H0 Q (finish S0.length r)) :
    SPost (cE K hx E) A0 S0 H0 { nx := fun _ H' => Q .non H', rt := Q } r := by
  cases r with
  | nx σd S => exact fun A H σ R T E => p _ _ .non (R.take _) (T.take R0) (RV.of (x := .non) .non)
  | bk σd S => exact p.elim
  | ct σd S => exact p.elim
  | bad => exact p.elim
  | exc C ns l σd S => exact fun A H σ dx vs R T E h1 h2 h3 => p _ _ dx vs (R.take _) (T.take R0) h1 (h2.fr R (Fr.take _)) h3
  | rt d S =>
    cases d with
    | hex C ns l => exact p.elim
    | d x => exact fun A H v R T r => p _ _ v (R.take _) (T.take R0) (RV.take (d := .d x) R r fun _ e => nomatch e)
    | loc n =>
      intro A H v R T r
      unfold finish at p
      dsimp only at p
      by_cases hn : n < S0.length
      · rw [if_pos hn] at p
        exact p _ _ v (R.take _) (T.take R0) (RV.take (d := .loc n) R r fun _ e => by cases e; exact hn)
      · rw [if_neg hn] at p
        obtain ⟨a, ha, rfl⟩ := r
        obtain ⟨c, u, hc, hu, ok⟩ := R.known ha
        rw [hc] at p
        obtain ⟨R1, f1⟩ := R.keep (m := S0.length) (by omega) ha hc
        have tk := T.take R0
        have la : (A.take S0.length).length = S0.length := by rw [List.length_take, ← R0.len]; have := T.le; omega
        refine p _ _ _ R1 ⟨fun k b q => ?_, ?_, T.fr.trans f1⟩ ⟨a, by rw [List.getElem?_append_right (by omega), la]; simp, rfl⟩
        · have := tk.ext k b q
          rw [List.getElem?_append_left (List.getElem?_eq_some_iff.mp this).1]
          exact this
        · rw [List.length_append, la, R0.len]; simp
end
theorem rVs_map {c : Cn} {A : Ads} {S : Store} {H : Hp} : ∀ {ds : List Wt} {vs : List V}, rVs c A S H ds vs → ds.length = vs.length
  | _, _, h => Paired.length h
theorem start_re {K : PySem.W.Frag} {hx : Hx} {E : XK} {A : Ads} {S : Store} {H : Hp} {N : List Str} {ds : List Wt} {vs : List V} (r : rVs (cE K hx E) A S H ds vs) : RE K hx A (Live A S) H (ds.map some ++ List.replicate (N.length - ds.length) none) (L2.start N vs) := by
  have hl := rVs_map r
  refine ⟨by simp [L2.start, hl], fun i d e => ?_⟩
  unfold L2.start
  by_cases hi : i < ds.length
  · rw [List.getElem?_append_left (by simpa using hi), List.getElem?_map] at e
    rw [List.getElem?_append_left (by simpa [← hl] using hi), List.getElem?_map]
    have get : ∀ {ds : List Wt} {vs : List V} {i : Nat} {d : Wt}, rVs (cE K hx E) A S H ds vs → ds[i]? = some d → ∃ v, vs[i]? = some v ∧ RV K hx A (Live A S) H d v := by
      intro ds vs i d r
      induction r generalizing i with
      | nil => intro e; simp at e
      | cons r1 r2 ih =>
        intro e
        cases i with
        | zero => simp at e; subst e; exact ⟨_, rfl, r1⟩
        | succ i => simpa using ih (by simpa using e)
    cases q : ds[i]? with
    | none => rw [q] at e; cases e
    | some d' =>
      rw [q] at e
      have e : some d' = some d := Option.some.inj e
      obtain rfl := Option.some.inj e
      obtain ⟨v, h1, h2⟩ := get r q
      exact ⟨v, by rw [h1]; rfl, h2⟩
  · rw [List.getElem?_append_right (by simpa using Nat.le_of_not_lt hi), List.getElem?_replicate] at e
    split at e <;> cases e
section
variable {P : Program} {w : World} {K : PySem.W.Frag} {mg : Str → Option Value} {base : Heap} {x qual : Str} {params : Arguments} {body : List Stmt} {scope : Scope} {f : Addr} {fd : FuncData}
/-- the context of a def's body -/
abbrev cxF (P : Program) (w : World) (K : PySem.W.Frag) (mg : Str → Option Value) (base : Heap) (N : List Str) (qual : Str) (scope : Scope) (f : Addr) (cdv : Value) (A : Around) (outer : List Env) (s : Shared) (H : Hp) (E : XK) : Cx := cxOf (L2.CX P w) P w K mg base N qual scope f cdv A outer s H E
theorem fn_ok {N ps : List Str} {k : Nat} {bf : SM} (F : FunD K x qual params body scope [] [] f fd) (Sc : FnScope N ps scope)
    (hb : ∀ (hx : Hx) (cdv : Value) (A : Around) (outer : List Env) (s : Shared) (H : Hp) (E : XK), Room k (A.deeper (envOfC qual scope s.heap.objs.size f cdv)) → DB (cxF P w K mg base N qual scope f cdv A outer s H E) hx body bf) :
    FnOk P w K mg base (L2.CX P w) (k + 1) f fd ps (spOf K (mkFn ps.length N.length bf)) := by
  refine F.ok Sc (fun vs H Q E h => ?_) fun cdv A outer s H vs Q E hr h => ?_
  · obtain ⟨hx, A, S, ds, R, r, p⟩ := h
    unfold mkFn at p
    obtain ⟨hl, _⟩ := Post.iteP p
    rw [← rVs_map r]
    exact hl
  · obtain ⟨hx, A1, S, ds, R, r, p⟩ := h
    unfold mkFn at p
    obtain ⟨hl, p⟩ := Post.iteP p
    refine ⟨_, (hb hx cdv A outer s H E hr).run (fun cls d _ H => E cls d H) (takes_of rfl rfl rfl rfl), S.length, A1, S, H, A1, S, ds.map some ++ List.replicate (N.length - ps.length) none, R, .refl, R, ?_, finish_ok R p⟩
    have := start_re (N := N) r
    rw [hl] at this
    exact this
end
/-- a def that stands at a name -/
structure Fn (P : Program) (w : World) (K : PySem.W.Frag) (mg : Str → Option Value) (base : Heap) (x : Str) (k : Nat) (ps : List Str) (F : List Wt → Store → Res Wt) : Prop where
  is : ∃ f fd, mg x = some (.ref f) ∧ PySem.W.keepIn K (.ref f) = true ∧ Binds K fd ps [] ∧ FnOk P w K mg base (L2.CX P w) k f fd ps (spOf K F)
theorem Fn.mono {P : Program} {w : World} {K : PySem.W.Frag} {mg : Str → Option Value} {base : Heap} {x : Str} {k k' : Nat} {ps : List Str} {F : List Wt → Store → Res Wt} (h : Fn P w K mg base x k ps F) (l : k ≤ k') : Fn P w K mg base x k' ps F := by
  obtain ⟨f, fd, h1, h2, h3, h4⟩ := h.is
  exact ⟨f, fd, h1, h2, h3, h4.mono l⟩
section
variable {X : Cx} {hx : Hx} {x : Str} {k : Nat} {ps : List Str} {F : List Wt → Store → Res Wt} {e : Expr} {es : List Expr} {g : AM} {p pos : Pos}
theorem Post.toCE {c : Cn} {σ : L2.St} {A : Ads} {S : Store} {H : Hp} {Q : VK} {r : Res Wt} (p : Post c (rV c) σ A S H Q r) : Post (cE c.K c.hx (WE c.W σ)) (rV (cE c.K c.hx (WE c.W σ))) [] A S H Q r := by
  cases r with
  | ok a S' => exact p
  | exc C ns l S' => exact p
  | bad => exact p
theorem d_call (G : Fn X.prog X.w X.K X.mg X.base x k ps F) (hr : Room k X.A) (ha : DA X hx (e :: es) g) (hg : Gl X x := by rfl) (hdb : (x == ("__debug__" : Str)) = false := by decide) (he : starEach (e :: es) X.env = (false, eval e X.env) :: starEach es X.env := by rfl)
    (hpl : (backTo pos (starEach es X.env)).any (·.1) = false := by rfl) : DE X hx (.Call (.Name x p) (e :: es) [] pos) (eB F g) := by
  obtain ⟨f, fd, hm, hk, hb, hF⟩ := G.is
  refine ⟨fun W tk => PEimp (pe_callS hF hr hg hm hk hb (fun σ => passAt tk σ) (ha.run W tk) hdb he hpl) fun σ H Q ⟨A, S, σd, R, E, q⟩ => ⟨A, S, σd, R, E, (Post.bind (R1 := rVs _) q).mono fun vs H1 ⟨A1, S1, ds, R1, T1, r1, p1⟩ => ?_⟩⟩
  exact ⟨hx, A1, S1, ds, R1, r1, p1.toCE⟩
end
end Y
end
section
/-! Y10: targets, stores into cells, methods of lists. -/
namespace Y
open PySem PySem.Spec PyProof.Rows L2

section
variable {K : PySem.W.Frag} {A : Ads} {S : Store} {H : Hp} {a : Addr} {n : Nat} {c c' : Cell} {o : HO}
/-- a live cell is written anew -/
theorem Rel.put (R : Rel K A S H) (ha : A[n]? = some (some a)) (hc : S[n]? = some c) (hl : c.live = true) (hl' : c'.live = true)
    (ok : ∀ lv H', (∀ d v, RP K (Live A S) H d v → RP K lv H' d v) → (∀ ds vs, RPs K (Live A S) H ds vs → RPs K lv H' ds vs) → H' a = some o → COk K lv H' a c') :
    Rel K A (S.set n c') (upd H a o) ∧ Stp A S H A (S.set n c') (upd H a o) := by
  have hLa : Live A S a := ⟨n, c, ha, hc, hl⟩
  have hnl : n < S.length := (List.getElem?_eq_some_iff.mp hc).1
  have sub : ∀ b, Live A (S.set n c') b → Live A S b := fun b ⟨m, d, h1, h2, h3⟩ => by
    rcases set_cases h2 with ⟨rfl, rfl⟩ | ⟨hm, h2⟩
    · exact ⟨m, c, h1, hc, hl⟩
    · exact ⟨m, d, h1, h2, h3⟩
  have f : Fr A S H A (S.set n c') (upd H a o) := ⟨fun b u h nl => by rw [upd_ne (show b ≠ a from fun e => nl (by rw [e]; exact hLa))]; exact h, fun b l => .inl (sub b l)⟩
  refine ⟨⟨by simp [R.len], R.inj, fun m d hd => ?_⟩, fun _ _ h => h, Nat.le_refl _, f⟩
  rcases set_cases hd with ⟨rfl, rfl⟩ | ⟨hm, h2⟩
  · exact .inr ⟨a, ha, ok _ _ (fun d v r => r.fr R f) (fun ds vs r => r.fr R f) upd_same⟩
  · rcases R.cell m d h2 with q | ⟨b, hb, okb⟩
    · exact .inl q
    · refine .inr ⟨b, hb, okb.fr R f fun u hu => ?_⟩
      rw [upd_ne (fun e => hm (R.inj m n a (by rw [← e]; exact hb) ha))]
      exact hu
theorem Rel.putL {l l' : List D} {vs : List V} (R : Rel K A S H) (ha : A[n]? = some (some a)) (hc : S[n]? = some (.lst l)) (r : RPs K (Live A S) H l' vs) :
    Rel K A (S.set n (.lst l')) (upd H a (.lst vs)) ∧ Stp A S H A (S.set n (.lst l')) (upd H a (.lst vs)) :=
  R.put ha hc rfl rfl fun lv H' _ h2 h3 => ⟨vs, h3, h2 _ _ r⟩
theorem Rel.putK {l l' : List (Key × D)} {kvs : List (Key × V)} (R : Rel K A S H) (ha : A[n]? = some (some a)) (hc : S[n]? = some (.dK l)) (hk : kvs.map (·.1) = l'.map (·.1)) (r : RPs K (Live A S) H (l'.map (·.2)) (kvs.map (·.2))) :
    Rel K A (S.set n (.dK l')) (upd H a (.dK kvs)) ∧ Stp A S H A (S.set n (.dK l')) (upd H a (.dK kvs)) :=
  R.put ha hc rfl rfl fun lv H' _ h2 h3 => ⟨kvs, h3, hk, h2 _ _ r⟩
end

/-! ### targets -/
/-- but at these places -/
def Same (is : List Nat) (σ0 σ : L2.St) : Prop := σ.length = σ0.length ∧ ∀ j, j ∉ is → σ[j]? = σ0[j]?
def rEv (c : Cn) (is : List Nat) (σ0 : L2.St) : RR Ev L2.St := fun A S H σd σ => RE c.K c.hx A (Live A S) H σd σ ∧ Same is σ0 σ
theorem Same.refl (is : List Nat) (σ : L2.St) : Same is σ σ := ⟨rfl, fun _ _ => rfl⟩
theorem Same.trans {is js : List Nat} {σ0 σ1 σ2 : L2.St} (h : Same is σ0 σ1) (g : Same js σ1 σ2) : Same (is ++ js) σ0 σ2 :=
  ⟨g.1.trans h.1, fun j hj => (g.2 j fun z => hj (List.mem_append_right _ z)).trans (h.2 j fun z => hj (List.mem_append_left _ z))⟩
theorem Same.set (σ : L2.St) (i : Nat) (v : Option V) : Same [i] σ (σ.set i v) := ⟨by simp, fun j hj => List.getElem?_set_ne fun e => hj (by simp [e])⟩
abbrev GM := Wt → Ev → Store → Res Ev
abbrev GMs := List Wt → Ev → Store → Res Ev
def tG (c : Cn) (is : List Nat) (g : GM) : TG := fun v σ H Q => ∃ A S σd d, Rel c.K A S H ∧ RE c.K c.hx A (Live A S) H σd σ ∧ rV c A S H d v ∧ Post c (rEv c is σ) σ A S H Q (g d σd S)
def tGs (c : Cn) (is : List Nat) (g : GMs) : TGs := fun v σ H Q => ∃ A S σd d, Rel c.K A S H ∧ RE c.K c.hx A (Live A S) H σd σ ∧ rVs c A S H d v ∧ Post c (rEv c is σ) σ A S H Q (g d σd S)
/-- no exception comes out of it -/
def NoX {α : Type} (r : Res α) : Prop := ∀ C ns l S, r ≠ .exc C ns l S
structure DG (X : Cx) (hx : Hx) (tg : Expr) (is : List Nat) (g : GM) : Prop where
  run : ∀ W, Takes X W → PG X tg (tG ⟨X.K, hx, W⟩ is g)
  nox : ∀ d σd S, NoX (g d σd S)
structure DGs (X : Cx) (hx : Hx) (tg : List Expr) (is : List Nat) (g : GMs) : Prop where
  run : ∀ W, Takes X W → PGs X tg (tGs ⟨X.K, hx, W⟩ is g)
  nox : ∀ d σd S, NoX (g d σd S)
theorem PGimp {X : Cx} {e : Expr} {t t' : TG} (h : PG X e t) (i : ∀ v σ H Q, t' v σ H Q → t v σ H Q) : PG X e t' := ⟨fun pins s σ H v u Q I r q => h.run pins s σ H v u Q I r (i v σ H Q q)⟩
theorem PGsimp {X : Cx} {e : List Expr} {t t' : TGs} (h : PGs X e t) (i : ∀ v σ H Q, t' v σ H Q → t v σ H Q) : PGs X e t' := ⟨fun pins s σ H v u Q I r q => h.run pins s σ H v u Q I r (i v σ H Q q)⟩
def gN (i : Nat) : GM := fun d σd S => .ok (σd.set i (some d)) S
def gN0 : GMs := fun ds σd S => match ds with
  | [] => .ok σd S
  | _ => .bad
def gN1 (g : GM) (h : GMs) : GMs := fun ds σd S => match ds with
  | d :: r => (g d σd S).bind fun σ1 S1 => h r σ1 S1
  | _ => .bad
def gT (n : Nat) (h : GMs) : GM := fun d σd S => match deref S d with
  | some (.tup l) => if l.length = n then h (l.map Wt.d) σd S else .bad
  | _ => .bad
theorem Res.bind_nox {α β : Type} {r : Res α} {f : α → Store → Res β} (h : NoX r) (h2 : ∀ a S, NoX (f a S)) : NoX (r.bind f) := by
  cases r with
  | ok a S => exact h2 a S
  | exc C ns l S => exact (h C ns l S rfl).elim
  | bad => intro _ _ _ _ e; cases e
theorem rvs_of {c : Cn} {A : Ads} {S : Store} {H : Hp} : ∀ {l : List D} {vs : List V}, RPs c.K (Live A S) H l vs → rVs c A S H (l.map Wt.d) vs
  | _, _, .nil => .nil
  | _, _, .cons r t => .cons (RV.of r) (rvs_of t)
section
variable {X : Cx} {hx : Hx} {pos : Pos}
theorem dg_name {i : Nat} {x : Str} (hN : X.N.Nodup) (hi : X.N[i]? = some x := by rfl) (hl : Loc X.env.scope x := by first | exact .inl rfl | exact .inr rfl)
    (hf : X.fn x = true ∨ X.env.scope.names.lookup x = some .local := by first | exact .inl rfl | exact .inr rfl) : DG X hx (.Name x pos) [i] (gN i) :=
  ⟨fun W tk => PGimp (pg_name hN hi hl hf) fun v σ H Q ⟨A, S, σd, d, R, E, r, p⟩ => p A H _ R .refl ⟨E.set r, Same.set _ _ _⟩, fun _ _ _ _ _ _ _ e => by cases e⟩
theorem dgs_nil : DGs X hx [] [] gN0 := ⟨fun W tk => PGsimp pgs_nil fun v σ H Q ⟨A, S, σd, d, R, E, r, p⟩ => by
    cases r with
    | nil => exact ⟨rfl, p A H _ R .refl ⟨E, .refl _ _⟩⟩
    | cons _ _ => exact p.elim, fun d _ _ _ _ _ _ e => by cases d <;> cases e⟩
theorem dgs_cons {e : Expr} {es : List Expr} {g : GM} {h : GMs} {is js : List Nat} (h1 : DG X hx e is g) (h2 : DGs X hx es js h)
    (hs : (assignEach (e :: es) X.env).map (·.2) = assign e X.env :: (assignEach es X.env).map (·.2) := by rfl) : DGs X hx (e :: es) (is ++ js) (gN1 g h) :=
  ⟨fun W tk => PGsimp (pgs_cons (h1.run W tk) (h2.run W tk) hs) fun v σ H Q ⟨A, S, σd, d, R, E, r, p⟩ => by
    cases r with
    | nil => exact p.elim
    | @cons d v ds vs r t =>
      refine ⟨v, vs, rfl, A, S, σd, d, R, E, r, (Post.bind (R1 := rEv _ is σ) p).mono fun σ1 H1 ⟨A1, S1, σd1, R1, T1, ⟨E1, sm⟩, p1⟩ => ?_⟩
      refine ⟨A1, S1, σd1, ds, R1, E1, Paired.mapP t fun d v q => RV.step R T1 q, ?_⟩
      revert p1
      cases q : h ds σd1 S1 with
      | ok a S' => exact fun p1 A' H' b x y z => p1 A' H' b x y ⟨z.1, sm.trans z.2⟩
      | exc C ns l S' => exact fun _ => (h2.nox _ _ _ _ _ _ _ q).elim
      | bad => exact id,
   fun d σd S => by
    cases d with
    | nil => intro _ _ _ _ e; cases e
    | cons d r => exact Res.bind_nox (h1.nox _ _ _) fun a S => h2.nox _ _ _⟩
theorem dg_tup {es : List Expr} {k : Nat} {h : GMs} {n : Nat} {is : List Nat} (hc : X.calm = true) (hg : DGs X hx es is h) (hn : (assignEach es X.env).length = n := by rfl) (hst : (assignEach es X.env).findIdx? (·.1) = none := by rfl) : DG X hx (.Tuple es k pos) is (gT n h) :=
  ⟨fun W tk => PGimp (pg_tup hc (hg.run W tk) hn hst) fun v σ H Q ⟨A, S, σd, d, R, E, r, p⟩ => by
    unfold gT at p
    split at p
    · rename_i l e
      obtain ⟨hl, p⟩ := Post.iteP p
      obtain ⟨a, vs, rfl, h1, g1⟩ := (readAs R r e).tup
      exact ⟨a, vs, rfl, h1, by rw [← g1.len]; exact hl, A, S, σd, _, R, E, rvs_of g1, p⟩
    · exact p.elim,
   fun d σd S => by
    unfold gT
    split
    · split
      · exact hg.nox _ _ _
      · intro _ _ _ _ e; cases e
    · intro _ _ _ _ e; cases e⟩
end

/-! ### assignments -/
def sAsg (g : GM) (f : EM) : SM := fun _ σd S => (f σd S).toS σd fun d S1 => (g d σd S1).toS σd fun σ2 S2 => .nx σ2 S2
def sPar (i j : Nat) (f : AM) : SM := fun _ σd S => (f σd S).toS σd fun ds S1 => match ds with
  | [d, e] => .nx ((σd.set i (some d)).set j (some e)) S1
  | _ => .bad
def sPar3 (i j l : Nat) (f : AM) : SM := fun _ σd S => (f σd S).toS σd fun ds S1 => match ds with
  | [d, e, h] => .nx (((σd.set i (some d)).set j (some e)).set l (some h)) S1
  | _ => .bad
section
variable {X : Cx} {hx : Hx} {pos : Pos} {e tg : Expr} {fe : EM} {g : GM} {is : List Nat}
theorem ds_asg (h : DE X hx e fe) (hg : DG X hx tg is g) (hs : swapsWithSole [tg] e pos.line X.env = pure false := by rfl) (hw : swappedStores [tg] e X.env = pure none := by rfl)
    (h1 : (assignEach [tg] X.env).map (·.2) = [assign tg X.env] := by rfl) : DS X hx (.Assign [tg] e pos) (sAsg g fe) := ⟨fun W tk => PSimp (ps_asg (h.run W tk) (hg.run W tk) hs hw h1) fun σ H D ⟨b0, A0, S0, H0, A, S, σd, R0, T, R, E, p⟩ =>
  ⟨A, S, σd, R, E, (Post.ofS (R1 := rV _) R T E p).mono fun v H1 ⟨A1, S1, d, R1, T1, E1, r1, p1⟩ => ⟨A1, S1, σd, d, R1, E1, r1, (Post.ofS (R1 := rEv _ is σ) R1 T1 E1 p1).mono fun σ2 H2 ⟨A2, S2, σd2, R2, T2, _, ⟨E2, _⟩, p2⟩ => p2 A2 H2 σ2 R2 T2 E2⟩⟩⟩
theorem ds_par {i j : Nat} {x y : Str} {a b : Expr} {fa : AM} {px py pt : Pos} {kt k2 pt2} (hc : X.calm = true) (hN : X.N.Nodup) (ha : DA X hx [a, b] fa) (hi : X.N[i]? = some x := by rfl) (hj : X.N[j]? = some y := by rfl) (hij : i ≠ j := by decide)
    (hx' : X.env.scope.names.lookup x = some .local := by rfl) (hy : X.env.scope.names.lookup y = some .local := by rfl)
    (hw : swappedStores [.Tuple [.Name x px, .Name y py] kt pt] (.Tuple [a, b] k2 pt2) X.env = pure (some [x, y]) := by rfl)
    (hs : swapsWithSole [.Tuple [.Name x px, .Name y py] kt pt] (.Tuple [a, b] k2 pt2) pos.line X.env = pure false := by rfl) :
    DS X hx (.Assign [.Tuple [.Name x px, .Name y py] kt pt] (.Tuple [a, b] k2 pt2) pos) (sPar i j fa) := ⟨fun W tk => PSimp (ps_par hc hN hi hj hij hx' hy (ha.run W tk) hw hs) fun σ H D ⟨b0, A0, S0, H0, A, S, σd, R0, T, R, E, p⟩ =>
  ⟨A, S, σd, R, E, (Post.ofS (R1 := rVs _) R T E p).mono fun vs H1 ⟨A1, S1, ds, R1, T1, E1, r1, p1⟩ => by
    match ds, r1, p1 with
    | [d, e], r1, p1 =>
      obtain ⟨v, u, rfl, r2, r3⟩ := rvs2 r1
      exact ⟨v, u, rfl, p1 A1 H1 _ R1 T1 ((E1.set r2).set r3)⟩
    | [], _, p1 => exact p1.elim
    | [_], _, p1 => exact p1.elim
    | _ :: _ :: _ :: _, _, p1 => exact p1.elim⟩⟩
end

/-! ### o[i] = v for a list's cell, a dict's cell -/
def dput (k : Key) (x : D) (l : List (Key × D)) : List (Key × D) := if (l.any fun p => decide (p.1 = k)) = true then l.map (fun p => if p.1 = k then (p.1, x) else p) else l ++ [(k, x)]
def noEx {α : Type} : Res α → Res α
  | .ok a S => .ok a S
  | _ => .bad
theorem noEx_nox {α : Type} (r : Res α) : NoX (noEx r) := by cases r <;> intro _ _ _ _ e <;> cases e
theorem Post.noEx {α β : Type} {c : Cn} {R1 : RR α β} {σ : L2.St} {A : Ads} {S : Store} {H : Hp} {Q : β → Hp → Prop} {r : Res α} (p : Post c R1 σ A S H Q (Y.noEx r)) : Post c R1 σ A S H Q r := by
  cases r with
  | ok a S' => exact p
  | exc C ns l S' => exact p.elim
  | bad => exact p.elim
def putC (n : Nat) (i : Option D) (x : D) (S : Store) : Option Cell → Res Unit
  | some (.lst l) => match i with
    | some (.int k) => match ixN l.length k with
      | some j => .ok () (S.set n (.lst (l.set j x)))
      | none => .bad
    | _ => .bad
  | some (.dK l) => match i.bind D.key with
    | some k => if l.length < lim then .ok () (S.set n (.dK (dput k x l))) else .bad
    | none => .bad
  | _ => .bad
def setC (o i d : Wt) (S : Store) : Res Unit := (fz1 S d).bind fun x S1 => match o with
  | .loc n => putC n (deref S1 i) x S1 S1[n]?
  | _ => .bad
def rU (c : Cn) : RR Unit Unit := fun _ _ _ _ _ => True
def rSet (c : Cn) : TSet := fun o i v H Q => ∃ A S σ d1 d2 d3, Rel c.K A S H ∧ rV c A S H d1 o ∧ rV c A S H d2 i ∧ rV c A S H d3 v ∧ Post c (rU c) σ A S H (fun _ H' => Q H') (setC d1 d2 d3 S)
theorem any_map {α : Type} {β : Type} {k : Key} {l : List (Key × α)} {l' : List (Key × β)} (h : l.map (·.1) = l'.map (·.1)) : (l.any fun p => decide (p.1 = k)) = (l'.any fun p => decide (p.1 = k)) := by
  have q : ∀ {γ : Type} (l : List (Key × γ)), (l.any fun p => decide (p.1 = k)) = ((l.map (·.1)).any fun p => decide (p = k)) := fun l => by rw [List.any_map]; rfl
  rw [q, q, h]
theorem dput_rps {K : PySem.W.Frag} {lv : Addr → Prop} {H : Hp} {k : Key} {x : D} {v : V} {l : List (Key × D)} {kvs : List (Key × V)} (hk : kvs.map (·.1) = l.map (·.1)) (r : RPs K lv H (l.map (·.2)) (kvs.map (·.2))) (rx : RP K lv H x v) :
    (putK kvs k v).map (·.1) = (dput k x l).map (·.1) ∧ RPs K lv H ((dput k x l).map (·.2)) ((putK kvs k v).map (·.2)) := by
  unfold putK dput
  rw [any_map hk]
  split
  · rename_i hb
    clear hb
    induction l generalizing kvs with
    | nil =>
      cases kvs with
      | nil => exact ⟨rfl, .nil⟩
      | cons _ _ => cases hk
    | cons p l ih =>
      cases kvs with
      | nil => cases hk
      | cons q kvs =>
        simp only [List.map_cons, List.cons.injEq] at hk
        simp only [List.map_cons] at r
        cases r with
        | cons r1 r2 =>
          obtain ⟨i1, i2⟩ := ih hk.2 r2
          simp only [List.map_cons]
          rw [hk.1, i1]
          by_cases e : p.1 = k
          · rw [if_pos e, if_pos e]
            exact ⟨rfl, .cons rx i2⟩
          · rw [if_neg e, if_neg e]
            exact ⟨by rw [hk.1], .cons r1 i2⟩
  · rw [List.map_append, List.map_append, List.map_append, List.map_append, hk]
    exact ⟨rfl, r.append (.one rx)⟩
section
variable {X : Cx} {hx : Hx} {pos : Pos} {o i e : Expr} {fo fi fe : EM}
theorem pset (hu : X.A.units + 65 < cLine) (W : WX) : PSet X (rSet ⟨X.K, hx, W⟩) := by
  intro pins s σ H o i v ov iv u Q I ro ri rv h
  obtain ⟨A, S, σ', d1, d2, d3, R, r1, r2, r3, p⟩ := h
  obtain ⟨x, S1, R1, T1, rx, p1⟩ := Post.fz1 R r3 p
  have r1' := r1.step R T1
  have r2' := r2.step R T1
  cases d1 with
  | d x => exact p1.elim
  | hex C ns l => exact p1.elim
  | loc n =>
    obtain ⟨a, ha, rfl⟩ := r1'
    obtain ⟨c, w, hc, hu', ok⟩ := R1.known ha
    have p1 : Post (⟨X.K, hx, W⟩ : Cn) (rU ⟨X.K, hx, W⟩) σ' A S1 H (fun _ H' => Q H') (putC n (deref S1 d2) x S1 S1[n]?) := p1
    rw [hc] at p1
    cases c with
    | dead => exact p1.elim
    | frz d => exact p1.elim
    | ins C l => exact p1.elim
    | lst l =>
      obtain ⟨vs, h1, h2⟩ := ok
      cases e2 : deref S1 d2 with
      | none => rw [e2] at p1; exact p1.elim
      | some y =>
        rw [e2] at p1
        cases y with
        | int k =>
          unfold putC at p1
          dsimp only at p1
          cases e3 : ixN l.length k with
          | none => rw [e3] at p1; exact p1.elim
          | some j =>
            rw [e3] at p1
            obtain rfl := (readAs R1 r2' e2).int
            obtain ⟨R2, T2⟩ := R1.putL ha hc (h2.set rx j)
            exact set_list pins s σ H _ _ v ov iv u Q I ro ri rv ⟨a, vs, k, j, rfl, rfl, h1, by rw [← h2.len]; exact e3, p1 A _ () R2 T2 trivial⟩
        | _ => exact p1.elim
    | dK l =>
      obtain ⟨kvs, h1, h2, h3⟩ := ok
      unfold putC at p1
      dsimp only at p1
      cases e2 : deref S1 d2 with
      | none => rw [e2] at p1; exact p1.elim
      | some y =>
        rw [e2] at p1
        cases e3 : y.key with
        | none => rw [show (some y).bind D.key = none from e3] at p1; exact p1.elim
        | some k =>
          rw [show (some y).bind D.key = some k from e3] at p1
          obtain ⟨hz, p1⟩ := Post.iteP p1
          have hkl : kvs.length = l.length := by
            have := congrArg List.length h2
            simpa using this
          obtain ⟨q1, q2⟩ := dput_rps (k := k) h2 h3 rx
          obtain ⟨R2, T2⟩ := R1.putK ha hc q1 q2
          obtain rfl := key_ok (readAs R1 r2' e2) e3
          cases ro
          exact d_setItem (by omega) I (DPut.k h1 (by rw [hkl]; exact lim_lt hz)) ri rv fun s' I' => ⟨_, I', p1 A _ () R2 T2 trivial⟩
def gSb (fo fi : EM) : GM := fun d σd S => noEx ((fo σd S).bind fun o S1 => (fi σd S1).bind fun i S2 => (setC o i d S2).bind fun _ S3 => .ok σd S3)
theorem dg_sub (hu : X.A.units + 65 < cLine) (ho : DE X hx o fo) (hi : DE X hx i fi)
    (ha : ∀ v, assign (.Subscript o i pos) X.env v = (do
      let ov ← holding [v] (eval o X.env)
      let iv ← holding [v, ov] (eval i X.env)
      standAt pos
      holding [v, ov, iv] (setItem ov iv v)
      release [v, ov, iv] []) := by intro _; rfl) : DG X hx (.Subscript o i pos) [] (gSb fo fi) :=
  ⟨fun W tk => PGimp (pg_sub (ho.run W tk) (hi.run W tk) (pset hu W) ha) fun v σ H Q ⟨A, S, σd, d, R, E, r, p⟩ => by
    refine ⟨A, S, σd, R, E, (Post.bind (R1 := rV _) (Post.noEx p)).mono fun ov H1 ⟨A1, S1, o1, R1, T1, r1, p1⟩ => ⟨A1, S1, σd, R1, E.step R T1, (Post.bind (R1 := rV _) p1).mono fun iv H2 ⟨A2, S2, i2, R2, T2, r2, p2⟩ => ?_⟩⟩
    exact ⟨A2, S2, σ, o1, i2, d, R2, r1.step R1 T2, r2, (r.step R T1).step R1 T2, (Post.bind (R1 := rU _) p2).mono fun _ H3 ⟨A3, S3, _, R3, T3, _, p3⟩ => p3 A3 H3 _ R3 .refl ⟨((E.step R T1).step R1 T2).step R2 T3, .refl _ _⟩⟩,
   fun d σd S => noEx_nox _⟩
end

/-! ### methods -/
def rMD (c : Cn) (f : Wt → List Wt → Store → Res Wt) : V → List V → Hp → VK → Prop := fun x vs H Q => ∃ A S σ d ds, Rel c.K A S H ∧ rV c A S H d x ∧ rVs c A S H ds vs ∧ Post c (rV c) σ A S H Q (f d ds S)
def MetD (X : Cx) (hx : Hx) (id : String) (f : Wt → List Wt → Store → Res Wt) : Prop := ∀ W, MtR X id (rMD ⟨X.K, hx, W⟩ f)
def eM (ok : Wt → Store → Bool) (f : Wt → List Wt → Store → Res Wt) (fo : EM) (g : AM) : EM := fun σd S => (fo σd S).bind fun o S1 => if ok o S1 = true then (g σd S1).bind fun ds S2 => f o ds S2 else .bad
def isLst (d : Wt) (S : Store) : Bool := match deref S d with
  | some (.lst _) => true
  | some (.fls _) => true
  | _ => false
def isStr (d : Wt) (S : Store) : Bool := match deref S d with
  | some (.str _) => true
  | _ => false
section
variable {X : Cx} {hx : Hx} {apos cpos : Pos} {o e : Expr} {es : List Expr} {fo : EM} {g : AM} {name : Str} {T id : String} {f : Wt → List Wt → Store → Res Wt} {ok : Wt → Store → Bool}
def TyD (T : String) (ok : Wt → Store → Bool) : Prop := ∀ {c : Cn} {A : Ads} {S : Store} {H : Hp} {d : Wt} {v : V}, Rel c.K A S H → rV c A S H d v → ok d S = true → tyV c.K T v H
theorem ty_lst : TyD "list" isLst := by
  intro c A S H d v R r h
  unfold isLst at h
  split at h
  · rename_i l e
    obtain ⟨a, vs, rfl, h1, g1⟩ := (readAs R r e).lst
    exact .inl ⟨rfl, vs, SqL.of h1⟩
  · rename_i l e
    obtain ⟨a, vs, rfl, h1, g1⟩ := (readAs R r e).fls
    exact .inl ⟨rfl, vs, h1⟩
  · cases h
theorem ty_str : TyD "str" isStr := by
  intro c A S H d v R r h
  unfold isStr at h
  split at h
  · rename_i l e
    obtain rfl := (readAs R r e).str
    rfl
  · cases h
theorem d_m0 (ht : TyD T ok) (pa : PlainAttrs T) (slot : Slot T name id) (hty : typeOf (.builtin id) = pure (.type "method_descriptor")) (hm : MetD X hx id f) (ho : DE X hx o fo)
    (hbase : attributeBase o name X.env (eval o X.env) = eval o X.env := by rfl) (hline : (apos.endLine == cpos.line) = true := by rfl) : DE X hx (.Call (.Attribute o name apos) [] [] cpos) (eM ok f fo aNil) :=
  ⟨fun W tk => PEimp (pe_bm0 pa slot hty (hm W) (ho.run W tk) hbase hline) fun σ H Q ⟨A, S, σd, R, E, p⟩ => ⟨A, S, σd, R, E, (Post.bind (R1 := rV _) p).mono fun v H1 ⟨A1, S1, d, R1, T1, r1, p1⟩ => by
    obtain ⟨hk, p1⟩ := Post.iteP p1
    exact ⟨ht (c := ⟨X.K, hx, W⟩) R1 r1 hk, A1, S1, σ, d, [], R1, r1, .nil, p1⟩⟩⟩
theorem d_m (ht : TyD T ok) (pa : PlainAttrs T) (slot : Slot T name id) (hty : typeOf (.builtin id) = pure (.type "method_descriptor")) (hm : MetD X hx id f) (ho : DE X hx o fo) (ha : DA X hx (e :: es) g)
    (hbase : attributeBase o name X.env (eval o X.env) = eval o X.env := by rfl)
    (hfew : ((backTo cpos (starEach (e :: es) X.env)).all (fun x => !x.1) && (backToKw cpos (keywordEach [] X.env)).all (fun x => x.1.isSome)
      && decide ((e :: es).length + ([] : List Keyword).length + (if ([] : List Keyword).isEmpty then 0 else 1) < 30)) = true := by rfl)
    (hline : (apos.endLine == cpos.line) = true := by rfl) (hs : starEach (e :: es) X.env = (false, eval e X.env) :: starEach es X.env := by rfl) (hplain : (backTo cpos (starEach es X.env)).any (·.1) = false := by rfl) :
    DE X hx (.Call (.Attribute o name apos) (e :: es) [] cpos) (eM ok f fo g) :=
  ⟨fun W tk => PEimp (pe_bm pa slot hty (hm W) (ho.run W tk) (ha.run W tk) hbase hfew hline hs hplain) fun σ H Q ⟨A, S, σd, R, E, p⟩ => ⟨A, S, σd, R, E, (Post.bind (R1 := rV _) p).mono fun v H1 ⟨A1, S1, d, R1, T1, r1, p1⟩ => by
    obtain ⟨hk, p1⟩ := Post.iteP p1
    exact ⟨ht (c := ⟨X.K, hx, W⟩) R1 r1 hk, A1, S1, σd, R1, E.step R T1, (Post.bind (R1 := rVs _) p1).mono fun vs H2 ⟨A2, S2, ds, R2, T2, r2, p2⟩ => ⟨A2, S2, σ, d, ds, R2, r1.step R1 T2, r2, p2⟩⟩⟩⟩
end
def appC (n : Nat) (x : D) (S : Store) : Option Cell → Res Wt
  | some (.lst l) => if l.length < lim then .ok (.d .non) (S.set n (.lst (l ++ [x]))) else .bad
  | _ => .bad
def mApp (o : Wt) (ds : List Wt) (S : Store) : Res Wt := match ds with
  | [d] => (fz1 S d).bind fun x S1 => match o with
    | .loc n => appC n x S1 S1[n]?
    | _ => .bad
  | _ => .bad
def popC (n : Nat) (S : Store) : Option Cell → Res Wt
  | some (.lst l) => match l[l.length - 1]? with
    | some x => .ok (.d x) (S.set n (.lst l.dropLast))
    | none => .bad
  | _ => .bad
def mPop (o : Wt) (ds : List Wt) (S : Store) : Res Wt := match ds with
  | [] => match o with
    | .loc n => popC n S S[n]?
    | _ => .bad
  | _ => .bad
def popAtC (n : Nat) (i : Option D) (S : Store) : Option Cell → Res Wt
  | some (.lst l) => match i with
    | some (.int i) => match ixN l.length i with
      | some k => match l[k]? with
        | some x => .ok (.d x) (S.set n (.lst (l.eraseIdx k)))
        | none => .bad
      | none => .bad
    | _ => .bad
  | _ => .bad
def mPopAt (o : Wt) (ds : List Wt) (S : Store) : Res Wt := match ds with
  | [i] => match o with
    | .loc n => popAtC n (deref S i) S S[n]?
    | _ => .bad
  | _ => .bad
def extC (n : Nat) (m : List D) (S : Store) : Option Cell → Res Wt
  | some (.lst l) => if l.length + m.length ≤ lim then .ok (.d .non) (S.set n (.lst (l ++ m))) else .bad
  | _ => .bad
def mExt (o : Wt) (ds : List Wt) (S : Store) : Res Wt := match ds with
  | [d] => match deref S d with
    | some (.lst m) => match o with
      | .loc n => extC n m S S[n]?
      | _ => .bad
    | _ => .bad
  | _ => .bad
section
variable {X : Cx} {hx : Hx}
theorem RPs.eraseIdx {K : PySem.W.Frag} {lv : Addr → Prop} {H : Hp} : ∀ {ds : List D} {vs : List V} (i : Nat), RPs K lv H ds vs → RPs K lv H (ds.eraseIdx i) (vs.eraseIdx i)
  | _, _, _, .nil => .nil
  | _, _, 0, .cons _ t => t
  | _, _, i + 1, .cons r t => .cons r (RPs.eraseIdx i t)
theorem RPs.dropLast {K : PySem.W.Frag} {lv : Addr → Prop} {H : Hp} {ds : List D} {vs : List V} (h : RPs K lv H ds vs) : RPs K lv H ds.dropLast vs.dropLast := by
  rw [List.dropLast_eq_take, List.dropLast_eq_take, h.length]
  exact h.take _
theorem met_app : MetD X hx "list.append" mApp := by
  intro W pins s σ H x xs v us Q I r rs h
  obtain ⟨A, S, σ', d, ds, R, rd, rds, p⟩ := h
  match ds, rds, p with
  | [], _, p => exact p.elim
  | _ :: _ :: _, _, p => exact p.elim
  | [y], rds, p =>
    obtain ⟨w, rfl, ry⟩ := rvs1 rds
    obtain ⟨x', S1, R1, T1, rx, p1⟩ := Post.fz1 R ry p
    have rd' := rd.step R T1
    cases d with
    | d x => exact p1.elim
    | hex C ns l => exact p1.elim
    | loc n =>
      obtain ⟨a, ha, rfl⟩ := rd'
      obtain ⟨c, w', hc, hu', ok⟩ := R1.known ha
      have p1 : Post (⟨X.K, hx, W⟩ : Cn) (rV ⟨X.K, hx, W⟩) σ' A S1 H Q (appC n x' S1 S1[n]?) := p1
      rw [hc] at p1
      cases c with
      | lst l =>
        obtain ⟨vs, h1, h2⟩ := ok
        obtain ⟨hz, p1⟩ := Post.iteP p1
        obtain ⟨R2, T2⟩ := R1.putL ha hc (h2.append (.one rx))
        exact mt_append pins s σ H _ _ v us Q I r rs ⟨a, vs, w, rfl, rfl, h1, by rw [← h2.len]; exact lim_lt hz, p1 A _ _ R2 T2 (RV.of (x := .non) .non)⟩
      | _ => exact p1.elim
theorem met_pop : MetD X hx "list.pop" mPop := by
  intro W pins s σ H x xs v us Q I r rs h
  obtain ⟨A, S, σ', d, ds, R, rd, rds, p⟩ := h
  match ds, rds, p with
  | _ :: _, _, p => exact p.elim
  | [], .nil, p =>
    cases d with
    | d x => exact p.elim
    | hex C ns l => exact p.elim
    | loc n =>
      obtain ⟨a, ha, rfl⟩ := rd
      obtain ⟨c, w', hc, hu', ok⟩ := R.known ha
      have p1 : Post (⟨X.K, hx, W⟩ : Cn) (rV ⟨X.K, hx, W⟩) σ' A S H Q (popC n S S[n]?) := p
      rw [hc] at p1
      cases c with
      | lst l =>
        obtain ⟨vs, h1, h2⟩ := ok
        unfold popC at p1
        dsimp only at p1
        cases e : l[l.length - 1]? with
        | none => rw [e] at p1; exact p1.elim
        | some y =>
          rw [e] at p1
          obtain ⟨w, e', ry⟩ := h2.get e
          obtain ⟨R2, T2⟩ := R.putL ha hc h2.dropLast
          exact mt_pop pins s σ H _ _ v us Q I r rs ⟨a, vs, w, rfl, rfl, h1, by rw [← h2.len]; exact e', p1 A _ _ R2 T2 (RV.of (RP.fr R T2.fr ry))⟩
      | _ => exact p1.elim
theorem met_popAt : MetD X hx "list.pop" mPopAt := by
  intro W pins s σ H x xs v us Q I r rs h
  obtain ⟨A, S, σ', d, ds, R, rd, rds, p⟩ := h
  match ds, rds, p with
  | [], _, p => exact p.elim
  | _ :: _ :: _, _, p => exact p.elim
  | [y], rds, p =>
    obtain ⟨w, rfl, ry⟩ := rvs1 rds
    cases d with
    | d x => exact p.elim
    | hex C ns l => exact p.elim
    | loc n =>
      obtain ⟨a, ha, rfl⟩ := rd
      obtain ⟨c, w', hc, hu', ok⟩ := R.known ha
      have p1 : Post (⟨X.K, hx, W⟩ : Cn) (rV ⟨X.K, hx, W⟩) σ' A S H Q (popAtC n (deref S y) S S[n]?) := p
      rw [hc] at p1
      cases c with
      | lst l =>
        obtain ⟨vs, h1, h2⟩ := ok
        cases e2 : deref S y with
        | none => rw [e2] at p1; exact p1.elim
        | some y' =>
          rw [e2] at p1
          cases y' with
          | int i =>
            unfold popAtC at p1
            dsimp only at p1
            cases e3 : ixN l.length i with
            | none => rw [e3] at p1; exact p1.elim
            | some k =>
              rw [e3] at p1
              dsimp only at p1
              cases e : l[k]? with
              | none => rw [e] at p1; exact p1.elim
              | some z =>
                rw [e] at p1
                obtain ⟨w2, e', rz⟩ := h2.get e
                obtain ⟨R2, T2⟩ := R.putL ha hc (h2.eraseIdx k)
                obtain rfl := (readAs R ry e2).int
                rw [h2.len] at e3
                obtain ⟨q1, q2, q3, q4⟩ := ixN_seq e3
                have hn := line63
                have hzl := (I.lst h1)
                obtain ⟨its, n', rvs, ho, hz⟩ := hzl
                have := rvs.length
                exact mt_popAt pins s σ H _ _ v us Q I r rs ⟨a, vs, i, k, w2, rfl, rfl, h1, by omega, by omega, q1, e', p1 A _ _ R2 T2 (RV.of (RP.fr R T2.fr rz))⟩
          | _ => exact p1.elim
      | _ => exact p1.elim
end
end Y
end
section
/-! Y11: enumerate over tuples. -/
namespace Y
open PySem PySem.Spec PyProof.Rows L2
open Sem (wp)

theorem meets_enumerate_newB1 {v : Value} {o : Obj} {H : Heap → Prop} (B : Begins v o H) :
    Meets (Builtin.«enumerate.__new__» ⟨[.type "enumerate", v], []⟩) (fun _ R s => H s.heap ∧
      R (.ok (.ret (.ref (s.heap.push o).objs.size))) { s with heap := (s.heap.push o).push { cls := .type "enumerate", data := .fields #[.none, .bool false, .ref s.heap.objs.size, rawInt 0, .none, .none] } }) :=
  .of_wp fun prog w A R s h => by
    obtain ⟨hp, g, d, tk, os⟩ := s; obtain ⟨h1, h⟩ := h
    have hsub := sub_enumerate
    have q1 : ∀ {A' : Around} {E : Value → Shared → Prop} {Q : Value → Shared → Prop}, Q (.ref hp.objs.size) ⟨hp.push o, g, d, tk, os⟩ → wpAny (model prog w) A' (pyIter v) Q E ⟨hp, g, d, tk, os⟩ :=
      fun q => B.iter prog w _ _ ⟨hp, g, d, tk, os⟩ _ h1 q
    wp_walk using q1
    refine wpAny_stack_any fun st => wpAny_pure ?_
    split
    · rename_i c _ _ _ _ _
      cases (c == Value.type "enumerate")
      · wp_walk using q1
        exact ⟨_, rfl, h⟩
      · wp_walk using q1
        exact ⟨_, rfl, h⟩
    · wp_walk using q1
      exact ⟨_, rfl, h⟩
theorem enum_begins1 {prog : Program} {w : World} {A : Around} {E : Value → Shared → Prop} {s : Shared} {v : Value} {o : Obj} {H : Heap → Prop} {Q : Value → Shared → Prop} (B : Begins v o H) (h1 : H s.heap)
    (h : ∀ h', IsEnum h' (s.heap.objs.size + 1) s.heap.objs.size 0 .none → h'.get? s.heap.objs.size = some o → h'.objs.size = s.heap.objs.size + 2 →
      (∀ b o, s.heap.get? b = some o → h'.get? b = some o) → Q (.ref (s.heap.objs.size + 1)) { s with heap := h' }) :
    wpAny (model prog w) A (call (.type "enumerate") [v]) Q E s := by
  refine callType_new F.called_enumerate (by decide) (F.typeCall_enumerate_1 _) (F.newCall_enumerate_1 _) (fun obj => F.args_object_init_2 obj _) F.entry_enumerate_new
    (meets_enumerate_newB1 B) ⟨h1, ?_⟩
  have hz : (s.heap.push o).objs.size = s.heap.objs.size + 1 := Heap.size_push ..
  show _ ∧ _
  rw [hz]
  have he : IsEnum ((s.heap.push o).push { cls := .type "enumerate", data := .fields #[.none, .bool false, .ref s.heap.objs.size, rawInt 0, .none, .none] }) (s.heap.objs.size + 1) s.heap.objs.size 0 .none := by
    have := Heap.get?_push_size (s.heap.push o) (o := { cls := .type "enumerate", data := .fields #[.none, .bool false, .ref s.heap.objs.size, rawInt 0, .none, .none] }) rfl
    rw [hz] at this; exact this
  refine ⟨⟨_, he, rfl⟩, h _ he (Heap.get?_push_of_some _ (Heap.get?_push_size _ B.free)) (by rw [Heap.size_push, hz]) fun b o x => Heap.get?_push_of_some _ (Heap.get?_push_of_some _ x)⟩

def IteT (K : PySem.W.Frag) (a : Addr) : It :=
  ⟨fun i H => ∃ (xs : List V) (x : V), SqT K H a xs ∧ xs[i]? = some x, fun i H v H' => ∃ T x, v = .ref T ∧ H T = none ∧ H' = upd H T (.tup [.int (i : Nat), x]) ∧ ∀ xs, SqT K H a xs → xs[i]? = some x, fun i H => ∃ xs : List V, SqT K H a xs ∧ xs.length ≤ i⟩
theorem turn_enumT {P : Program} {w : World} {K : PySem.W.Frag} {elts : List Expr} {kk : Nat} {tpos : Pos} (a e it : Addr) (hai : a ≠ it) (hae : a ≠ e) :
    Turn P w K (.Tuple elts kk tpos) (IteT K a) [e, it] e (fun i h => (∃ old, IsEnum h e it ((i : Nat) : Int) old) ∧ h.IsTupleIter it a i ∧ e ≠ it) where
  mem := by simp
  obj := fun i h st b hb => by
    obtain ⟨⟨old, he⟩, ⟨o, ho, hc, hd⟩, _⟩ := st
    have e' : b = e ∨ b = it := by simpa using hb
    rcases e' with z | z
    · rw [z]; exact ⟨_, he, fun v q => nomatch q⟩
    · rw [z]; exact ⟨o, ho, fun v q => by rw [hd] at q; cases q⟩
  keep := fun i h h' st k => let ⟨⟨old, he⟩, hi, hne⟩ := st; ⟨⟨old, k e (by simp) _ he⟩, hi.at fun o q => k it (by simp) o q, hne⟩
  item := by
    intro X hP hw hK hc i pins s σ H E I hf st hg
    subst hP hw hK
    obtain ⟨⟨old, he⟩, hit, hne⟩ := st
    obtain ⟨xs, x, hq, hx⟩ := hg
    obtain ⟨its, rv, p, hz⟩ := I.tuple hq
    obtain ⟨u, hu, ru⟩ := rv.get hx
    have hel : e < s.heap.objs.size := Heap.lt_size he
    have hil : it < s.heap.objs.size := by obtain ⟨_, q, _⟩ := hit; exact Heap.lt_size q
    have D := Draws.tuple (prog := X.prog) (w := X.w) (A := X.A.in1) (I.ok.hd hc) it a hai its.toArray
    have hlt : i < its.toArray.size := by
      have := (List.getElem?_eq_some_iff.mp hu).1
      simpa using this
    refine wpAny_pyNext_enum_itemC D he ⟨hit, p⟩ hlt hne (by simp [hne, Ne.symm hae]) fun y h' tk hy ho hit' hT hsz hk => ?_
    obtain rfl : y = u := by
      rw [show its.toArray[i]? = some u by simpa using hu] at hy
      exact (Option.some.inj hy).symm
    refine ⟨_, rfl, wpAny_letOwnedTupleGo_enum (s := { s with heap := h', toks := tk + 1 }) ho fun h'' he' sb => ?_⟩
    have hT2 : h''.get? s.heap.objs.size = some { cls := .type "tuple", data := .seq #[.int i tk, y] } := (sb.2 _ (Nat.ne_of_gt hel)).trans hT
    have new : ObjOk X.prog X.w (upd H s.heap.objs.size (.tup [.int (i : Nat), x])) h'' s.heap.objs.size (.tup [.int (i : Nat), x]) :=
      ⟨by show 2 ≤ sizeLine; decide, [.int i tk, y], .cons ⟨_, rfl⟩ (.cons ru .nil), ⟨_, hT2, rfl, _, rfl⟩⟩
    have I1 : Inv X pins σ (upd H s.heap.objs.size (.tup [.int (i : Nat), x])) { s with heap := h'', toks := tk + 1 } :=
      I.turnedNew (ch := [e, it]) (fun b ob hb q => (sb.2 b (fun z => hb (by simp [z]))).trans (hk b ob (fun z => hb (by simp [z])) (fun z => hb (by simp [z])) q)) hf (Nat.le_refl _) new
    refine ⟨.ref s.heap.objs.size, _, I1, rfl, ⟨_, x, rfl, I.hok.fresh (Nat.le_refl _), rfl, fun ys hy => by rw [I.tuple_inj hy hq]; exact hx⟩, ⟨⟨y, ?_⟩, hit'.1.at fun o q => (sb.2 it (Ne.symm hne)).trans q, hne⟩, fun b hb => ?_⟩
    · have e1 : ((i + 1 : Nat) : Int) = (i : Int) + 1 := by omega
      rw [e1]; exact he'
    · have hb' : b < s.heap.objs.size := by
        have e' : b = e ∨ b = it := by simpa using hb
        rcases e' with z | z
        · rw [z]; exact hel
        · rw [z]; exact hil
      rw [upd_ne (Nat.ne_of_lt hb')]
      exact (hf b hb).1
  done := by
    intro X hP hw hK hc i pins s σ H E I hf st hg
    subst hP hw hK
    obtain ⟨⟨old, he⟩, hit, hne⟩ := st
    obtain ⟨xs, hq, hx⟩ := hg
    obtain ⟨its, rv, p, hz⟩ := I.tuple hq
    obtain ⟨f0, f1, f2, f3, f4, f5⟩ := hf it (by simp)
    have hl := rv.length
    have D : Draws X.prog X.w X.A.in1 it [it, a] i (fun _ _ => True) (fun j h => j = i ∧ h.IsTupleIter it a i ∧ h.IsTuple a its.toArray) :=
      { live := fun _ _ st => let ⟨o, ho, _⟩ := st.2.1; ⟨o, ho⟩
        frame := fun _ _ _ st hk => ⟨st.1, st.2.1.at fun o e => hk it (by simp) o e, st.2.2.at fun o e => hk a (by simp) o e⟩
        item := fun j s Q E hi st hQ => by have := st.1; omega
        done := fun s Q E st hE => wpAny_nextOf_tuple_end (I.ok.hd hc) st.2.1 st.2.2 (by simp; omega) hE }
    exact wpAny_pyNext_enum_endD D he ⟨rfl, hit, p⟩ fun h' eb => ⟨rfl, I.turned (t' := s.toks) (fun b o hb q => eb b o hb q) f0 f1 f3 f4 f5⟩
  self := fun A i s Q E st h => let ⟨⟨_, he⟩, _⟩ := st; wpAny_pyIter_enum he h
def iEnumA (K : PySem.W.Frag) (ta : TA) : TI := fun σ H R => ta σ H fun vs H1 => ∃ a xs, vs = [.ref a] ∧ ((SqL K H1 a xs ∧ R (Ite K a) H1) ∨ (SqT K H1 a xs ∧ R (IteT K a) H1))
theorem pi_enumA {X : Cx} {e : Expr} {ta : TA} {p pos tpos : Pos} {elts : List Expr} {kk : Nat} (hg : Gl X "enumerate") (hm : X.mg "enumerate" = none) (ha : PA X [e] ta) (hs : starEach [e] X.env = [(false, eval e X.env)] := by rfl) :
    PI X (.Tuple elts kk tpos) (.Call (.Name "enumerate" p) [e] [] pos) (iEnumA X.K ta) := by
  refine ⟨fun pins s σ H R I h => ?_⟩
  refine Call_ (ld_blt I hg hm boot_enumerate (PyProof.Rows.callWith_type1 (thn (ha.run pos pins s σ H _ I h) fun us s1 ⟨vs, H1, I1, r1, q1⟩ => ?_) hs rfl))
  obtain ⟨a, xs, ex, q1⟩ := q1
  subst ex
  cases r1 with
  | cons r rr =>
    cases rr
    cases r
    have fin : ∀ b ∈ [s1.heap.objs.size + 1, s1.heap.objs.size], FpOk X pins H1 b := fun b hb => by
      have e' : b = s1.heap.objs.size + 1 ∨ b = s1.heap.objs.size := by simpa using hb
      have hle : s1.heap.objs.size ≤ b := by
        rcases e' with z | z
        · rw [z]; exact Nat.le_add_right _ _
        · rw [z]; exact Nat.le_refl _
      exact I1.fpOk hle (I1.hok.fresh hle)
    rcases q1 with ⟨hq, q⟩ | ⟨hq, q⟩
    · obtain ⟨its, rv, p', hz⟩ := I1.list hq
      refine call_enumerate_list p'.isList fun h' he hit hsz hk => wpAny_pyIter_enum he ?_
      have I2 : Inv X pins σ H1 { s1 with heap := h' } := I1.kept (t' := s1.toks) hk
      exact ⟨s1.heap.objs.size + 1, [s1.heap.objs.size + 1, s1.heap.objs.size], _, _, H1, rfl, I2, turn_enum a (s1.heap.objs.size + 1) s1.heap.objs.size, ⟨⟨.none, he⟩, hit, Nat.succ_ne_self _⟩, fin, q⟩
    · obtain ⟨its, rv, p', hz⟩ := I1.tuple hq
      refine enum_begins1 (begins_tuple a its.toArray) p' fun h' he hit hsz hk => wpAny_pyIter_enum he ?_
      have I2 : Inv X pins σ H1 { s1 with heap := h' } := I1.kept (t' := s1.toks) hk
      have hal : a < s1.heap.objs.size := by obtain ⟨o, ho, _⟩ := p'; exact Heap.lt_size ho
      exact ⟨s1.heap.objs.size + 1, [s1.heap.objs.size + 1, s1.heap.objs.size], _, _, H1, rfl, I2, turn_enumT a (s1.heap.objs.size + 1) s1.heap.objs.size (Nat.ne_of_lt hal) (Nat.ne_of_lt (Nat.lt_succ_of_lt hal)), ⟨⟨.none, he⟩, ⟨_, hit, rfl, rfl⟩, Nat.succ_ne_self _⟩, fin, q⟩

/-! ### walks -/
/-- what a walk yields: these, however the heap has grown -/
def rIt (c : Cn) : RR (List D) It := fun A S H ds J => ∀ A' S' H', Rel c.K A' S' H' → Fr A S H A' S' H' →
  (∀ i, i < ds.length → J.go i H') ∧ J.stop ds.length H' ∧
    ∀ i x H'', i < ds.length → J.yld i H' x H'' → ∃ d, ds[i]? = some d ∧ Rel c.K A' S' H'' ∧ Stp A' S' H' A' S' H'' ∧ RP c.K (Live A' S') H'' d x
abbrev IM := Ev → Store → Res (List D)
def tI (c : Cn) (f : IM) : TI := fun σ H R => ∃ A S σd, Rel c.K A S H ∧ RE c.K c.hx A (Live A S) H σd σ ∧ Post c (rIt c) σ A S H R (f σd S)
structure DI (X : Cx) (hx : Hx) (tg iter : Expr) (f : IM) : Prop where
  run : ∀ W, Takes X W → PI X tg iter (tI ⟨X.K, hx, W⟩ f)
theorem PIimp {X : Cx} {tg e : Expr} {t t' : TI} (h : PI X tg e t) (i : ∀ σ H Q, t' σ H Q → t σ H Q) : PI X tg e t' := ⟨fun pins s σ H Q I q => h.run pins s σ H Q I (i σ H Q q)⟩
/-- the items of a list, a tuple (let alone from then on), the signs of a text -/
def itemsOf : D → Option (List D)
  | .lst l => some l
  | .fls l => some l
  | .tup l => some l
  | .str x => some (x.cps.toList.map fun c => .str ⟨#[c]⟩)
  | _ => none
def optI (S : Store) : Option (List D) → Res (List D)
  | some l => .ok l S
  | none => .bad
def iVal (f : EM) : IM := fun σd S => (f σd S).bind fun d S1 => (fz1 S1 d).bind fun x S2 => optI S2 (itemsOf x)
theorem optI_ok {c : Cn} {σ : L2.St} {A : Ads} {S : Store} {H : Hp} {R : It → Hp → Prop} {o : Option (List D)} (p : Post c (rIt c) σ A S H R (optI S o)) : ∃ d, o = some d ∧ Post c (rIt c) σ A S H R (.ok d S) := by
  cases o with
  | none => exact p.elim
  | some d => exact ⟨d, rfl, p⟩
section
variable {c : Cn} {A : Ads} {S : Store} {H : Hp} {ds : List D} {vs : List V} {a : Addr}
theorem it_at {α : Type} {l : List α} {i : Nat} (h : i < l.length) : ∃ x, l[i]? = some x := ⟨_, List.getElem?_eq_getElem h⟩
theorem it_list (R0 : Rel c.K A S H) (hl : ∀ A' S' H', Rel c.K A' S' H' → Fr A S H A' S' H' → SqL c.K H' a vs) (r : RPs c.K (Live A S) H ds vs) : rIt c A S H ds (Itl c.K a) := by
  intro A' S' H' R' T
  have q := hl A' S' H' R' T
  have r' := r.fr R0 T
  refine ⟨fun i hi => ?_, ⟨vs, q, by rw [r.len]; exact Nat.le_refl _⟩, fun i x H'' hi y => ?_⟩
  · obtain ⟨x, hx⟩ := it_at (l := vs) (by rw [← r.len]; exact hi)
    exact ⟨vs, x, q, hx⟩
  · obtain ⟨rfl, y⟩ := y
    obtain ⟨d, hd⟩ := it_at hi
    obtain ⟨v, hv, rd⟩ := r'.get hd
    have e := y vs q
    rw [hv] at e
    cases e
    exact ⟨d, hd, R', .refl, rd⟩
theorem it_tup (R0 : Rel c.K A S H) (h : SqT c.K H a vs) (r : RPs c.K (Live A S) H ds vs) : rIt c A S H ds (Itt c.K a) := by
  intro A' S' H' R' T
  have q := T.sqT R0 h
  have r' := r.fr R0 T
  refine ⟨fun i hi => ?_, ⟨vs, q, by rw [r.len]; exact Nat.le_refl _⟩, fun i x H'' hi y => ?_⟩
  · obtain ⟨x, hx⟩ := it_at (l := vs) (by rw [← r.len]; exact hi)
    exact ⟨vs, x, q, hx⟩
  · obtain ⟨rfl, y⟩ := y
    obtain ⟨d, hd⟩ := it_at hi
    obtain ⟨v, hv, rd⟩ := r'.get hd
    have e := y vs q
    rw [hv] at e
    cases e
    exact ⟨d, hd, R', .refl, rd⟩
def numbered (i : Nat) : List D → List D
  | [] => []
  | d :: ds => .tup [.int (i : Nat), d] :: numbered (i + 1) ds
theorem numbered_len : ∀ (i : Nat) (ds : List D), (numbered i ds).length = ds.length
  | _, [] => rfl
  | i, d :: ds => by simp [numbered, numbered_len (i + 1) ds]
theorem numbered_get : ∀ (k i : Nat) (ds : List D) (d : D), ds[i]? = some d → (numbered k ds)[i]? = some (.tup [.int ((k + i : Nat) : Int), d])
  | _, _, [], _, h => by simp at h
  | k, 0, x :: ds, d, h => by simp at h; subst h; simp [numbered]
  | k, i + 1, x :: ds, d, h => by
    have := numbered_get (k + 1) i ds d (by simpa using h)
    simp only [numbered, List.getElem?_cons_succ, this]
    have e : k + 1 + i = k + (i + 1) := by omega
    rw [e]
theorem pair_new {T : Addr} {i : Int} {x : V} {d : D} {lv : Addr → Prop} (R : Rel c.K A S H) (h : H T = none) (r : RP c.K (Live A S) H d x) :
    Rel c.K A S (upd H T (.tup [.int i, x])) ∧ Stp A S H A S (upd H T (.tup [.int i, x])) ∧ RP c.K (Live A S) (upd H T (.tup [.int i, x])) (.tup [.int i, d]) (.ref T) :=
  ⟨R.new h, Stp.new h, .tup (SqT.of upd_same) (.cons (.int i) (.cons (r.fr R (Fr.upd_new h)) .nil))⟩
theorem it_enumL (R0 : Rel c.K A S H) (hl : ∀ A' S' H', Rel c.K A' S' H' → Fr A S H A' S' H' → SqL c.K H' a vs) (r : RPs c.K (Live A S) H ds vs) : rIt c A S H (numbered 0 ds) (Ite c.K a) := by
  intro A' S' H' R' T
  have q := hl A' S' H' R' T
  have r' := r.fr R0 T
  rw [numbered_len]
  refine ⟨fun i hi => ?_, ⟨vs, q, by rw [r.len]; exact Nat.le_refl _⟩, fun i x H'' hi y => ?_⟩
  · obtain ⟨x, hx⟩ := it_at (l := vs) (by rw [← r.len]; exact hi)
    exact ⟨vs, x, q, hx⟩
  · obtain ⟨T, x, rfl, hT, rfl, y⟩ := y
    obtain ⟨d, hd⟩ := it_at hi
    obtain ⟨v, hv, rd⟩ := r'.get hd
    have e := y vs q
    rw [hv] at e
    cases e
    have := numbered_get 0 i ds d hd
    rw [Nat.zero_add] at this
    exact ⟨_, this, pair_new (lv := Live A' S') R' hT rd⟩
theorem it_enumT (R0 : Rel c.K A S H) (h : SqT c.K H a vs) (r : RPs c.K (Live A S) H ds vs) : rIt c A S H (numbered 0 ds) (IteT c.K a) := by
  intro A' S' H' R' T
  have q := T.sqT R0 h
  have r' := r.fr R0 T
  rw [numbered_len]
  refine ⟨fun i hi => ?_, ⟨vs, q, by rw [r.len]; exact Nat.le_refl _⟩, fun i x H'' hi y => ?_⟩
  · obtain ⟨x, hx⟩ := it_at (l := vs) (by rw [← r.len]; exact hi)
    exact ⟨vs, x, q, hx⟩
  · obtain ⟨T, x, rfl, hT, rfl, y⟩ := y
    obtain ⟨d, hd⟩ := it_at hi
    obtain ⟨v, hv, rd⟩ := r'.get hd
    have e := y vs q
    rw [hv] at e
    cases e
    have := numbered_get 0 i ds d hd
    rw [Nat.zero_add] at this
    exact ⟨_, this, pair_new (lv := Live A' S') R' hT rd⟩
theorem it_str {x : Str} : rIt c A S H (x.cps.toList.map fun c => D.str ⟨#[c]⟩) (Its x) := by
  intro A' S' H' R' T
  have hl : (x.cps.toList.map fun c => D.str ⟨#[c]⟩).length = x.cps.size := by simp
  rw [hl]
  refine ⟨fun i hi => hi, Nat.le_refl _, fun i v H'' hi y => ?_⟩
  obtain ⟨rfl, c', hc, rfl⟩ := y
  refine ⟨.str ⟨#[c']⟩, ?_, R', .refl, .str _⟩
  rw [List.getElem?_map, Array.getElem?_toList, hc]
  rfl
def rng (lo : Int) (n : Nat) : List D := (List.range n).map fun i : Nat => D.int (lo + i)
theorem it_rng {lo : Int} {n : Nat} : rIt c A S H (rng lo n) (Itr lo n) := by
  intro A' S' H' R' T
  have hl : (rng lo n).length = n := by simp [rng]
  rw [hl]
  refine ⟨fun i hi => hi, Nat.le_refl _, fun i v H'' hi y => ?_⟩
  obtain ⟨rfl, rfl⟩ := y
  refine ⟨.int (lo + i), ?_, R', .refl, .int _⟩
  simp [rng, hi]
def rngC (lo s : Int) (n : Nat) : List D := (List.range n).map fun i : Nat => D.int (lo + i * s)
theorem it_rngC {lo s : Int} {n : Nat} : rIt c A S H (rngC lo s n) (Itc lo s n) := by
  intro A' S' H' R' T
  have hl : (rngC lo s n).length = n := by simp [rngC]
  rw [hl]
  refine ⟨fun i hi => hi, Nat.le_refl _, fun i v H'' hi y => ?_⟩
  obtain ⟨rfl, rfl⟩ := y
  refine ⟨.int (lo + i * s), ?_, R', .refl, .int _⟩
  simp [rngC, hi]
/-- a list, let alone, is there for good -/
theorem lst_stays {l : List D} {lv : Addr → Prop} (R0 : Rel c.K A S H) (r : RP c.K (Live A S) H (.lst l) (.ref a)) (h : H a = some (.lst vs)) : ∀ A' S' H', Rel c.K A' S' H' → Fr A S H A' S' H' → SqL c.K H' a vs := by
  intro A' S' H' R' T
  cases r with
  | lst h0 h1 h2 => exact SqL.of (T.tr _ _ h0 h).2
theorem fl_stays (h : FL c.K (Live A S) H a vs) : ∀ A' S' H', Rel c.K A' S' H' → Fr A S H A' S' H' → SqL c.K H' a vs := fun A' S' H' R' T => (h.mono T.tr).sq
end
section
variable {X : Cx} {hx : Hx} {tg e : Expr} {fe : EM} {p pos : Pos}
/-- what walks over a value -/
theorem pi_any {tl : TE} (hl : PE X e tl) : PI X tg e (fun σ H R => tl σ H fun x H1 => (∃ a xs, x = .ref a ∧ SqL X.K H1 a xs ∧ R (Itl X.K a) H1) ∨ (∃ a xs, x = .ref a ∧ SqT X.K H1 a xs ∧ R (Itt X.K a) H1) ∨ ∃ y, x = .str y ∧ R (Its y) H1) := by
  refine ⟨fun pins s σ H R I h => ?_⟩
  refine thn (hl.run pins s σ H _ I h) fun v s1 ⟨x, H1, I1, r1, q1⟩ => ?_
  rcases q1 with ⟨a, xs, e, hq, q⟩ | ⟨a, xs, e, hq, q⟩ | ⟨y, e, q⟩
  · subst e
    cases r1
    obtain ⟨its, rv, p, hz⟩ := I1.list hq
    refine wpAny_pyIter_list p.isList ?_
    refine ⟨s1.heap.objs.size, [s1.heap.objs.size], _, _, H1, rfl, I1.kept (t' := s1.toks) fun b o e => Heap.get?_push_of_some _ e, turn_list a _, ⟨_, Heap.get?_push_size _ rfl, rfl, rfl⟩, fun b hb => ?_, q⟩
    have e : b = s1.heap.objs.size := by simpa using hb
    subst e
    exact I1.fpOk (Nat.le_refl _) (I1.hok.fresh (Nat.le_refl _))
  · subst e
    cases r1
    obtain ⟨its, rv, p, hz⟩ := I1.tuple hq
    refine wpAny_pyIter_tuple (show s1.heap.IsTuple a its.toArray from p) ?_
    refine ⟨s1.heap.objs.size, [s1.heap.objs.size], _, _, H1, rfl, I1.kept (t' := s1.toks) fun b o e => Heap.get?_push_of_some _ e, turn_tuple a _, ⟨_, Heap.get?_push_size _ rfl, rfl, rfl⟩, fun b hb => ?_, q⟩
    have e : b = s1.heap.objs.size := by simpa using hb
    subst e
    exact I1.fpOk (Nat.le_refl _) (I1.hok.fresh (Nat.le_refl _))
  · subst e
    obtain ⟨t, rfl⟩ := r1
    cases ha : y.cps.all (· < 128)
    · exact wpAny_pyIter_wide ha (pi_one (tk := s1.toks) I1 _ (turn_str _ y t "str_iterator" (.inr rfl)) ⟨_, Heap.get?_push_size _ rfl, rfl, rfl⟩ q)
    · exact wpAny_pyIter_ascii ha (pi_one (tk := s1.toks) I1 _ (turn_str _ y t "str_ascii_iterator" (.inl rfl)) ⟨_, Heap.get?_push_size _ rfl, rfl, rfl⟩ q)
theorem di_val (h : DE X hx e fe) : DI X hx tg e (iVal fe) := ⟨fun W tk => PIimp (pi_any (h.run W tk)) fun σ H Q ⟨A, S, σd, R, E, p⟩ => ⟨A, S, σd, R, E, (Post.bind (R1 := rV _) p).mono fun v H1 ⟨A1, S1, d, R1, T1, r1, p1⟩ => by
    obtain ⟨x, S2, R2, T2, r2, p2⟩ := Post.fz1 R1 r1 p1
    obtain ⟨l, e, p3⟩ := optI_ok p2
    cases x with
    | lst l' =>
      cases e
      cases r2 with
      | lst h0 h1 h2 => exact .inl ⟨_, _, rfl, SqL.of h1, p3 A1 H1 _ R2 .refl (it_list (c := ⟨X.K, hx, W⟩) R2 (lst_stays (lv := Live A1 S2) R2 (.lst h0 h1 h2) h1) h2)⟩
    | fls l' =>
      cases e
      cases r2 with
      | fls h1 h2 => exact .inl ⟨_, _, rfl, h1.sq, p3 A1 H1 _ R2 .refl (it_list (c := ⟨X.K, hx, W⟩) R2 (fl_stays (c := ⟨X.K, hx, W⟩) h1) h2)⟩
    | tup l' =>
      cases e
      cases r2 with
      | tup h1 h2 => exact .inr (.inl ⟨_, _, rfl, h1, p3 A1 H1 _ R2 .refl (it_tup (c := ⟨X.K, hx, W⟩) R2 h1 h2)⟩)
    | str y =>
      cases e
      cases r2
      exact .inr (.inr ⟨y, rfl, p3 A1 H1 _ R2 .refl it_str⟩)
    | _ => cases e⟩⟩
/-- range -/
def iRng1 (g : AM) : IM := fun σd S => (g σd S).bind fun ds S1 => match ds with
  | [.d (.int j)] => if -(2 ^ 62) ≤ j ∧ j < 2 ^ 62 then .ok (rng 0 j.toNat) S1 else .bad
  | _ => .bad
def iRng2 (g : AM) : IM := fun σd S => (g σd S).bind fun ds S1 => match ds with
  | [.d (.int i), .d (.int j)] => if -(2 ^ 62) ≤ i ∧ i < 2 ^ 62 ∧ -(2 ^ 62) ≤ j ∧ j < 2 ^ 62 then .ok (rng i (j - i).toNat) S1 else .bad
  | _ => .bad
def iRng3 (g : AM) : IM := fun σd S => (g σd S).bind fun ds S1 => match ds with
  | [.d (.int i), .d (.int j), .d (.int s)] => if s ≠ 0 ∧ s.natAbs < 1073741824 ∧ Builtin.Range.small i j s = true ∧ 0 ≤ Builtin.Range.rangeSize i j s then .ok (rngC i s (Builtin.Range.rangeSize i j s).toNat) S1 else .bad
  | _ => .bad
theorem rv_int {c : Cn} {A : Ads} {S : Store} {H : Hp} {i : Int} {v : V} (h : rV c A S H (.d (.int i)) v) : v = .int i := by
  have h : RP c.K (Live A S) H (.int i) v := h
  cases h; rfl
theorem di_rng1 {a : Expr} {g : AM} (hm : X.mg "range" = none) (ha : DA X hx [a] g) (hg : Gl X "range" := by rfl) (hs : starEach [a] X.env = [(false, eval a X.env)] := by rfl) : DI X hx tg (.Call (.Name "range" p) [a] [] pos) (iRng1 g) :=
  ⟨fun W tk => PIimp (pi_range1 hg hm (ha.run W tk) hs) fun σ H Q ⟨A, S, σd, R, E, p⟩ => ⟨A, S, σd, R, E, (Post.bind (R1 := rVs _) p).mono fun vs H1 ⟨A1, S1, ds, R1, T1, r1, p1⟩ => by
    split at p1
    · rename_i j
      obtain ⟨⟨z1, z2⟩, p1⟩ := Post.iteP p1
      obtain ⟨v, rfl, r2⟩ := rvs1 r1
      obtain rfl := rv_int r2
      exact ⟨j, rfl, z1, z2, p1 A1 H1 _ R1 .refl it_rng⟩
    · exact p1.elim⟩⟩
theorem di_rng2 {a b : Expr} {g : AM} (hm : X.mg "range" = none) (ha : DA X hx [a, b] g) (hg : Gl X "range" := by rfl) (hs : starEach [a, b] X.env = [(false, eval a X.env), (false, eval b X.env)] := by rfl) (hs2 : starEach [b] X.env = [(false, eval b X.env)] := by rfl) :
    DI X hx tg (.Call (.Name "range" p) [a, b] [] pos) (iRng2 g) :=
  ⟨fun W tk => PIimp (pi_range2 hg hm (ha.run W tk) hs hs2) fun σ H Q ⟨A, S, σd, R, E, p⟩ => ⟨A, S, σd, R, E, (Post.bind (R1 := rVs _) p).mono fun vs H1 ⟨A1, S1, ds, R1, T1, r1, p1⟩ => by
    split at p1
    · rename_i i j
      obtain ⟨hz, p1⟩ := Post.iteP p1
      obtain ⟨v, u, rfl, r2, r3⟩ := rvs2 r1
      obtain rfl := rv_int r2
      obtain rfl := rv_int r3
      exact ⟨i, j, rfl, hz, p1 A1 H1 _ R1 .refl it_rng⟩
    · exact p1.elim⟩⟩
theorem rvs3 {c : Cn} {A : Ads} {S : Store} {H : Hp} {d e f : Wt} {vs : List V} (h : rVs c A S H [d, e, f] vs) : ∃ v u w, vs = [v, u, w] ∧ rV c A S H d v ∧ rV c A S H e u ∧ rV c A S H f w := by
  cases h with
  | cons r t =>
    obtain ⟨u, w, rfl, r', r''⟩ := rvs2 t
    exact ⟨_, _, _, rfl, r, r', r''⟩
theorem di_rng3 {a b c : Expr} {g : AM} (hm : X.mg "range" = none) (ha : DA X hx [a, b, c] g) (hg : Gl X "range" := by rfl)
    (hs : starEach [a, b, c] X.env = (false, eval a X.env) :: starEach [b, c] X.env := by rfl) (hpl : (backTo pos (starEach [b, c] X.env)).any (·.1) = false := by rfl) :
    DI X hx tg (.Call (.Name "range" p) [a, b, c] [] pos) (iRng3 g) :=
  ⟨fun W tk => PIimp (pi_range3 hg hm (ha.run W tk) hs hpl) fun σ H Q ⟨A, S, σd, R, E, p⟩ => ⟨A, S, σd, R, E, (Post.bind (R1 := rVs _) p).mono fun vs H1 ⟨A1, S1, ds, R1, T1, r1, p1⟩ => by
    split at p1
    · rename_i i j s
      obtain ⟨⟨z1, z2, z3, z4⟩, p1⟩ := Post.iteP p1
      obtain ⟨v, u, w, rfl, r2, r3, r4⟩ := rvs3 r1
      obtain rfl := rv_int r2
      obtain rfl := rv_int r3
      obtain rfl := rv_int r4
      exact ⟨i, j, s, _, rfl, ⟨z1, z2, z3, by omega⟩, p1 A1 H1 _ R1 .refl it_rngC⟩
    · exact p1.elim⟩⟩
/-- enumerate -/
def optE (S : Store) : D → Res (List D)
  | .lst l => .ok (numbered 0 l) S
  | .fls l => .ok (numbered 0 l) S
  | .tup l => .ok (numbered 0 l) S
  | _ => .bad
def iEnu (g : AM) : IM := fun σd S => (g σd S).bind fun ds S1 => match ds with
  | [d] => (fz1 S1 d).bind fun x S2 => optE S2 x
  | _ => .bad
theorem di_enu {a : Expr} {g : AM} {elts : List Expr} {kk : Nat} {tpos : Pos} (hm : X.mg "enumerate" = none) (ha : DA X hx [a] g) (hg : Gl X "enumerate" := by rfl) (hs : starEach [a] X.env = [(false, eval a X.env)] := by rfl) :
    DI X hx (.Tuple elts kk tpos) (.Call (.Name "enumerate" p) [a] [] pos) (iEnu g) :=
  ⟨fun W tk => PIimp (pi_enumA hg hm (ha.run W tk) hs) fun σ H Q ⟨A, S, σd, R, E, p⟩ => ⟨A, S, σd, R, E, (Post.bind (R1 := rVs _) p).mono fun vs H1 ⟨A1, S1, ds, R1, T1, r1, p1⟩ => by
    split at p1
    · obtain ⟨v, rfl, r2⟩ := rvs1 r1
      obtain ⟨x, S2, R2, T2, r2, p2⟩ := Post.fz1 R1 r2 p1
      cases x with
      | lst l' =>
        cases r2 with
        | lst h0 h1 h2 => exact ⟨_, _, rfl, .inl ⟨SqL.of h1, p2 A1 H1 _ R2 .refl (it_enumL (c := ⟨X.K, hx, W⟩) R2 (lst_stays (lv := Live A1 S2) R2 (.lst h0 h1 h2) h1) h2)⟩⟩
      | fls l' =>
        cases r2 with
        | fls h1 h2 => exact ⟨_, _, rfl, .inl ⟨h1.sq, p2 A1 H1 _ R2 .refl (it_enumL (c := ⟨X.K, hx, W⟩) R2 (fl_stays (c := ⟨X.K, hx, W⟩) h1) h2)⟩⟩
      | tup l' =>
        cases r2 with
        | tup h1 h2 => exact ⟨_, _, rfl, .inr ⟨h1, p2 A1 H1 _ R2 .refl (it_enumT (c := ⟨X.K, hx, W⟩) R2 h1 h2)⟩⟩
      | _ => exact p2.elim
    · exact p1.elim⟩⟩
end

/-! ### zip -/
def zipD : List D → List D → List D
  | d :: ds, e :: es => .tup [d, e] :: zipD ds es
  | _, _ => []
theorem zipD_len : ∀ (l m : List D), (zipD l m).length = min l.length m.length
  | [], m => by simp [zipD]
  | _ :: _, [] => by simp [zipD]
  | d :: l, e :: m => by simp [zipD, zipD_len l m, Nat.succ_min_succ]
theorem zipD_get : ∀ (l m : List D) (i : Nat) (d e : D), l[i]? = some d → m[i]? = some e → (zipD l m)[i]? = some (.tup [d, e])
  | [], _, _, _, _, h, _ => by simp at h
  | _ :: _, [], _, _, _, _, h => by simp at h
  | a :: l, b :: m, 0, d, e, h1, h2 => by simp at h1 h2; simp [zipD, h1, h2]
  | a :: l, b :: m, i + 1, d, e, h1, h2 => by simpa [zipD] using zipD_get l m i d e (by simpa using h1) (by simpa using h2)
section
variable {c : Cn} {A : Ads} {S : Store} {H : Hp} {ds es : List D} {vs us : List V} {a b : Addr}
theorem pair_new2 {T : Addr} {y x : V} {d e : D} (R : Rel c.K A S H) (h : H T = none) (re : RP c.K (Live A S) H e y) (r : RP c.K (Live A S) H d x) :
    Rel c.K A S (upd H T (.tup [y, x])) ∧ Stp A S H A S (upd H T (.tup [y, x])) ∧ RP c.K (Live A S) (upd H T (.tup [y, x])) (.tup [e, d]) (.ref T) :=
  ⟨R.new h, Stp.new h, .tup (SqT.of upd_same) (.cons (re.fr R (Fr.upd_new h)) (.cons (r.fr R (Fr.upd_new h)) .nil))⟩
theorem it_zipL (R0 : Rel c.K A S H) (hl : ∀ A' S' H', Rel c.K A' S' H' → Fr A S H A' S' H' → SqL c.K H' a vs) (hm : ∀ A' S' H', Rel c.K A' S' H' → Fr A S H A' S' H' → SqL c.K H' b us)
    (r : RPs c.K (Live A S) H ds vs) (re : RPs c.K (Live A S) H es us) : rIt c A S H (zipD ds es) (Itz c.K a b) := by
  intro A' S' H' R' T
  have q := hl A' S' H' R' T
  have q2 := hm A' S' H' R' T
  have r' := r.fr R0 T
  have re' := re.fr R0 T
  have l1 := r.len
  have l2 := re.len
  rw [zipD_len]
  refine ⟨fun i hi => ?_, ⟨vs, us, q, q2, by omega⟩, fun i x H'' hi y => ?_⟩
  · obtain ⟨x, hx⟩ := it_at (l := vs) (i := i) (by omega)
    obtain ⟨y, hy⟩ := it_at (l := us) (i := i) (by omega)
    exact ⟨vs, us, x, y, q, q2, hx, hy⟩
  · obtain ⟨T, x, y, rfl, hT, rfl, e1, e2⟩ := y
    obtain ⟨d, hd⟩ := it_at (l := ds) (i := i) (by omega)
    obtain ⟨e, he⟩ := it_at (l := es) (i := i) (by omega)
    obtain ⟨v, hv, rd⟩ := r'.get hd
    obtain ⟨u, hu, ru⟩ := re'.get he
    have e1 := e1 vs q
    have e2 := e2 us q2
    rw [hv] at e1
    rw [hu] at e2
    cases e1
    cases e2
    exact ⟨_, zipD_get _ _ _ _ _ hd he, pair_new2 R' hT rd ru⟩
theorem it_zipT (R0 : Rel c.K A S H) (hl : SqT c.K H a vs) (hm : SqT c.K H b us)
    (r : RPs c.K (Live A S) H ds vs) (re : RPs c.K (Live A S) H es us) : rIt c A S H (zipD ds es) (RZ.ItzT c.K a b) := by
  intro A' S' H' R' T
  have q := T.sqT R0 hl
  have q2 := T.sqT R0 hm
  have r' := r.fr R0 T
  have re' := re.fr R0 T
  have l1 := r.len
  have l2 := re.len
  rw [zipD_len]
  refine ⟨fun i hi => ?_, ⟨vs, us, q, q2, by omega⟩, fun i x H'' hi y => ?_⟩
  · obtain ⟨x, hx⟩ := it_at (l := vs) (i := i) (by omega)
    obtain ⟨y, hy⟩ := it_at (l := us) (i := i) (by omega)
    exact ⟨vs, us, x, y, q, q2, hx, hy⟩
  · obtain ⟨T, x, y, rfl, hT, rfl, e1, e2⟩ := y
    obtain ⟨d, hd⟩ := it_at (l := ds) (i := i) (by omega)
    obtain ⟨e, he⟩ := it_at (l := es) (i := i) (by omega)
    obtain ⟨v, hv, rd⟩ := r'.get hd
    obtain ⟨u, hu, ru⟩ := re'.get he
    have e1 := e1 vs q
    have e2 := e2 us q2
    rw [hv] at e1
    rw [hu] at e2
    cases e1
    cases e2
    exact ⟨_, zipD_get _ _ _ _ _ hd he, pair_new2 R' hT rd ru⟩
end
def optZ (S : Store) : D → D → Res (List D)
  | .lst l, .lst m => .ok (zipD l m) S
  | .tup l, .tup m => .ok (zipD l m) S
  | _, _ => .bad
def iZip (g : AM) : IM := fun σd S => (g σd S).bind fun ds S1 => match ds with
  | [d, e] => (fz1 S1 d).bind fun x S2 => (fz1 S2 e).bind fun y S3 => optZ S3 x y
  | _ => .bad
section
variable {X : Cx} {hx : Hx} {p pos : Pos}
theorem di_zip {a b : Expr} {g : AM} {elts : List Expr} {kk : Nat} {tpos : Pos} (hm : X.mg "zip" = none) (ha : DA X hx [a, b] g) (hg : Gl X "zip" := by rfl)
    (hs : starEach [a, b] X.env = (false, eval a X.env) :: starEach [b] X.env := by rfl) (hpl : (backTo pos (starEach [b] X.env)).any (·.1) = false := by rfl) :
    DI X hx (.Tuple elts kk tpos) (.Call (.Name "zip" p) [a, b] [] pos) (iZip g) :=
  ⟨fun W tk => PIimp (RZ.pi_zipA hg hm (ha.run W tk) hs hpl) fun σ H Q ⟨A, S, σd, R, E, p⟩ => ⟨A, S, σd, R, E, (Post.bind (R1 := rVs _) p).mono fun vs H1 ⟨A1, S1, ds, R1, T1, r1, p1⟩ => by
    split at p1
    · obtain ⟨v, u, rfl, r2, r3⟩ := rvs2 r1
      obtain ⟨x, S2, R2, T2, r2, p2⟩ := Post.fz1 R1 r2 p1
      obtain ⟨y, S3, R3, T3, r3, p3⟩ := Post.fz1 R2 (r3.step R1 T2) p2
      have r2 := r2.fr R2 T3.fr
      unfold optZ at p3
      split at p3
      · cases r2 with
        | lst h0 h1 h2 =>
          cases r3 with
          | lst g0 g1 g2 => exact ⟨_, _, _, _, rfl, .inl ⟨SqL.of h1, SqL.of g1, p3 A1 H1 _ R3 .refl (it_zipL (c := ⟨X.K, hx, W⟩) R3 (lst_stays (lv := Live A1 S3) R3 (.lst h0 h1 h2) h1) (lst_stays (lv := Live A1 S3) R3 (.lst g0 g1 g2) g1) h2 g2)⟩⟩
      · cases r2 with
        | tup h1 h2 =>
          cases r3 with
          | tup g1 g2 => exact ⟨_, _, _, _, rfl, .inr ⟨h1, g1, p3 A1 H1 _ R3 .refl (it_zipT (c := ⟨X.K, hx, W⟩) R3 h1 g1 h2 g2)⟩⟩
      · exact p3.elim
    · exact p1.elim⟩⟩
end

/-! ### for -/
def forN (g : GM) (f : SM) : List D → SM
  | [] => fun _ σd S => .nx σd S
  | d :: ds => fun b σd S => (g (.d d) σd S).toS σd fun σ1 S1 => match f b σ1 S1 with
    | .nx σ2 S2 => forN g f ds b σ2 S2
    | .ct σ2 S2 => forN g f ds b σ2 S2
    | .bk σ2 S2 => .nx σ2 S2
    | r => r
def sFor (w : IM) (g : GM) (f : SM) : SM := fun b σd S => (w σd S).toS σd fun ds S1 => forN g f ds b σd S1
section
variable {X : Cx} {hx : Hx} {tg iter : Expr} {body : List Stmt} {pos : Pos} {w : IM} {g : GM} {f : SM} {is : List Nat}
theorem drop_cons {α : Type} {l : List α} {i : Nat} {d : α} (h : l[i]? = some d) : l.drop i = d :: l.drop (i + 1) := by
  obtain ⟨hl, rfl⟩ := List.getElem?_eq_some_iff.mp h
  exact List.drop_eq_getElem_cons hl
theorem ds_for (hp : PassesOwn (model X.prog X.w) X.A X.env X.xe) (hc : X.calm = true) (hi : DI X hx tg iter w) (hg : DG X hx tg is g) (hb : DB X hx body f)
    (hs : ∀ x, foldedSetIterable iter X.env x = pure x := by intro _; rfl) : DS X hx (.For tg iter body [] pos) (sFor w g f) := ⟨fun W tk => PSimp (ps_for hp hc (hi.run W tk) (hg.run W tk) (hb.run W tk) hs) fun σ H D ⟨b0, A0, S0, H0, A, S, σd, R0, T, R, E, p⟩ => by
  refine ⟨A, S, σd, R, E, (Post.ofS (R1 := rIt _) R T E p).mono fun J H1 ⟨A1, S1, ds, R1, T1, E1, j1, p1⟩ => ?_⟩
  let Pn : List Y.D → L2.St → Hp → Prop := fun l σ H => ∃ A S σd, Stp A1 S1 H1 A S H ∧ Rel X.K A S H ∧ RE X.K hx A (Live A S) H σd σ ∧ SPost ⟨X.K, hx, W⟩ A1 S1 H1 D (forN g f l b0 σd S)
  refine ⟨fun i m σ H => i + m = ds.length ∧ Pn (ds.drop i) σ H, ⟨ds.length, Nat.zero_add _, A1, S1, σd, .refl, R1, E1, SPost.shift T1 p1⟩, ?_⟩
  rintro i m σ H ⟨hm, A, S, σd, T, R, E, p⟩
  obtain ⟨go, stop, yld⟩ := j1 A S H R T.fr
  by_cases hlt : i < ds.length
  · refine .inr ⟨go i hlt, fun σ' H' => Pn (ds.drop (i + 1)) σ' H', fun σ' H' h => ⟨m - 1, by omega, by omega, h⟩, fun x H' y => ?_⟩
    obtain ⟨d, hd, R2, T2, r2⟩ := yld i x H' hlt y
    rw [drop_cons hd] at p
    refine ⟨A, S, σd, .d d, R2, E.step R T2, RV.of r2, (Post.ofS (R1 := rEv _ is σ) R2 (T.trans T2) (E.step R T2) p).mono fun σ3 H3 ⟨A3, S3, σd3, R3, T3, _, ⟨E3, _⟩, p3⟩ => ?_⟩
    refine ⟨b0, A1, S1, H1, A3, S3, σd3, R1, T3, R3, E3, ?_⟩
    cases q : f b0 σd3 S3 with
    | nx σd' S' => rw [q] at p3; exact fun A' H' σ' R' T' E' => ⟨A', S', σd', T', R', E', p3⟩
    | ct σd' S' => rw [q] at p3; exact fun A' H' σ' R' T' E' => ⟨A', S', σd', T', R', E', p3⟩
    | rt d S' => rw [q] at p3; exact p3
    | bk σd' S' => rw [q] at p3; exact p3
    | exc C ns l σd' S' => rw [q] at p3; exact p3
    | bad => rw [q] at p3; exact p3
  · have e : i = ds.length := by omega
    subst e
    rw [List.drop_length] at p
    exact .inl ⟨stop, p A H σ R T E⟩⟩
end
end Y
end
section
/-! Y12: list comprehensions. -/
namespace Y
open PySem PySem.Spec PyProof.Rows L2

def wipeD (σ : Ev) : List Nat → Ev
  | [] => σ
  | v :: vs => (wipeD σ vs).set v none
theorem wipeD_length (σ : Ev) : ∀ vs : List Nat, (wipeD σ vs).length = σ.length
  | [] => rfl
  | v :: vs => by unfold wipeD; rw [List.length_set, wipeD_length σ vs]
theorem RE.wipe {K : PySem.W.Frag} {hx : Hx} {A : Ads} {lv : Addr → Prop} {H : Hp} {σd : Ev} {σ : L2.St} (h : RE K hx A lv H σd σ) : ∀ vs : List Nat, RE K hx A lv H (wipeD σd vs) (wipe σ vs)
  | [] => h
  | v :: vs => by
    have ih := RE.wipe h vs
    refine ⟨by rw [wipeD_length, wipe_length, h.len], fun j d e => ?_⟩
    unfold wipeD at e
    unfold L2.wipe
    by_cases hj : v = j
    · subst hj
      by_cases hl : v < (wipeD σd vs).length
      · rw [List.getElem?_set_self hl] at e; cases e
      · rw [List.getElem?_eq_none (by simpa using hl)] at e; cases e
    · rw [List.getElem?_set_ne hj] at e ⊢
      exact ih.at_ j d e
theorem wipe_at {σ : L2.St} {j : Nat} : ∀ {vs : List Nat}, (wipe σ vs)[j]? = if j ∈ vs then (if j < σ.length then some none else none) else σ[j]?
  | [] => by simp [L2.wipe]
  | v :: vs => by
    unfold L2.wipe
    by_cases hj : v = j
    · subst hj
      rw [if_pos (by simp)]
      by_cases hl : v < (wipe σ vs).length
      · rw [List.getElem?_set_self hl]
        rw [wipe_length] at hl
        rw [if_pos hl]
      · rw [List.getElem?_eq_none (by simpa using hl)]
        rw [wipe_length] at hl
        rw [if_neg hl]
    · rw [List.getElem?_set_ne hj, wipe_at (vs := vs)]
      have : (j ∈ v :: vs) ↔ j ∈ vs := by simp [Ne.symm hj]
      simp only [this]
theorem Same.wipe {is vs : List Nat} {σ0 σ : L2.St} (h : Same is σ0 σ) (hs : ∀ i ∈ is, i ∈ vs) : wipe σ vs = wipe σ0 vs := by
  apply List.ext_getElem?
  intro j
  rw [wipe_at, wipe_at, h.1]
  by_cases hj : j ∈ vs
  · rw [if_pos hj, if_pos hj]
  · rw [if_neg hj, if_neg hj]
    exact h.2 j fun z => hj (hs j z)
theorem wipe_wipe {σ : L2.St} {vs : List Nat} : wipe (wipe σ vs) vs = wipe σ vs := by
  apply List.ext_getElem?
  intro j
  rw [wipe_at (σ := wipe σ vs), wipe_length]
  by_cases hj : j ∈ vs
  · rw [if_pos hj, wipe_at, if_pos hj]
  · rw [if_neg hj]

structure DTs (X : Cx) (hx : Hx) (ifs : List Expr) (t : TM) : Prop where
  run : ∀ W, Takes X W → PTs X ifs (tT ⟨X.K, hx, W⟩ t)
def tYs : TM := fun _ S => .ok true S
theorem dts_nil {X : Cx} {hx : Hx} : DTs X hx [] tYs := ⟨fun W tk => ⟨fun pins s σ H Q I ⟨A, S, σd, R, E, p⟩ => pts_nil.run pins s σ H Q I (p.here R rfl)⟩⟩
theorem dts_one {X : Cx} {hx : Hx} {c : Expr} {t : TM} (h : DT X hx c t) : DTs X hx [c] t := ⟨fun W tk => pts_one (h.run W tk)⟩

def addC (n : Nat) (y : D) (S : Store) : Option Cell → Option Store
  | some (.lst acc) => if acc.length < lim then some ((S.set n (.lst (acc ++ [y]))).take (n + 1)) else none
  | _ => none
/-- the turns; the new list is the n-th cell -/
def lcN (g : GM) (t : TM) (e : EM) (σw : Ev) (n : Nat) : List D → Store → Option Store
  | [], S => some S
  | d :: ds, S => match g (.d d) σw S with
    | .ok σ2 S2 => match t σ2 S2 with
      | .ok true S3 => match e σ2 S3 with
        | .ok w S4 => match fz1 S4 w with
          | .ok y S5 => match addC n y S5 S5[n]? with
            | some S6 => lcN g t e σw n ds S6
            | none => none
          | _ => none
        | _ => none
      | .ok false S3 => lcN g t e σw n ds (S3.take (n + 1))
      | _ => none
    | _ => none
def optS (o : Option Store) (k : Store → Res Wt) : Res Wt := match o with
  | some S => k S
  | none => .bad
def finV (n : Nat) (S : Store) : Res Wt := match S[n]? with
  | some (.lst acc) => .ok (.d (.lst acc)) (S.take n)
  | _ => .bad
def finL (n : Nat) (S : Store) : Res Wt := .ok (.loc n) S
def eLcG (fin : Nat → Store → Res Wt) (w : IM) (g : GM) (t : TM) (e : EM) (vs : List Nat) : EM := fun σd S => (w σd S).bind fun ds S1 => optS (lcN g t e (wipeD σd vs) S1.length ds (S1 ++ [.lst []])) (fin S1.length)
abbrev eLc := eLcG finV
abbrev eLcL := eLcG finL
def FinOk (fin : Nat → Store → Res Wt) : Prop := ∀ (c : Cn) (σ : L2.St) (A1 A : Ads) (S1 S : Store) (H1 H : Hp) (D : Addr) (Q : VK), Rel c.K A1 S1 H1 → Rel c.K A S H → Stp A1 S1 H1 A S H → A[S1.length]? = some (some D) → Post c (rV c) σ A1 S1 H1 Q (fin S1.length S) → Q (.ref D) H
theorem finL_ok : FinOk finL := fun c σ A1 A S1 S H1 H D Q R1 R T hA p => p A H _ R T ⟨D, hA, rfl⟩
theorem finV_ok : FinOk finV := fun c σ A1 A S1 S H1 H D Q R1 R T hA p => by
  unfold finV at p
  split at p
  · rename_i acc e
    have fz : fz1 S (.loc S1.length) = .ok (.lst acc) (S.set S1.length (.frz (.lst acc))) := by
      show fzC S S1.length S[S1.length]? = _
      rw [e]
      rfl
    obtain ⟨R2, T2, r2⟩ := fz1_ok (hx := hx0) (d := .loc S1.length) (v := .ref D) R ⟨D, hA, rfl⟩ fz
    have e2 : (S.set S1.length (.frz (.lst acc))).take S1.length = S.take S1.length := by
      rw [List.take_set_of_le (Nat.le_refl _)]
    have R3 := R2.take S1.length
    have T3 := (T.trans T2).take R1
    rw [e2] at R3 T3
    refine p _ H _ R3 T3 ?_
    have := RP.fr R2 (Fr.take S1.length) r2
    rw [e2] at this
    exact RV.of this
  · exact p.elim
theorem takes_no {X : Cx} : Takes X (fun _ _ _ _ => False) := fun u s' ⟨a, B, sI, pins, σ, H, cls, d, e, I, nb, up, sky, na, os, ag, w⟩ => w.elim
abbrev cno (K : PySem.W.Frag) (hx : Hx) : Cn := ⟨K, hx, fun _ _ _ _ => False⟩
section
variable {K : PySem.W.Frag} {hx : Hx} {W : WX} {w : IM} {g : GM} {t : TM} {e : EM} {vs is : List Nat} {fin : Nat → Store → Res Wt}
theorem lc_of (fo : FinOk fin) (hs : ∀ i ∈ is, i ∈ vs) {σ : L2.St} {H : Hp} {Q : VK} (h : tE ⟨K, hx, W⟩ (eLcG fin w g t e vs) σ H Q) :
    tLc (tI ⟨K, hx, W⟩ w) (tG (cno K hx) is g) (tT (cno K hx) t) (tE (cno K hx) e) vs σ H Q := by
  obtain ⟨A, S, σd, R, E, p⟩ := h
  refine ⟨A, S, σd, R, E, (Post.bind (R1 := rIt ⟨K, hx, W⟩) p).mono fun J H1 ⟨A1, S1, ds, R1, T1, j1, p1⟩ => ?_⟩
  intro D hD
  cases hq : lcN g t e (wipeD σd vs) S1.length ds (S1 ++ [.lst []]) with
  | none => rw [hq] at p1; exact p1.elim
  | some Sf =>
    rw [hq] at p1
    have p1 : Post ⟨K, hx, W⟩ (rV ⟨K, hx, W⟩) σ A1 S1 H1 Q (fin S1.length Sf) := p1
    obtain ⟨Rb, Tb⟩ := Rel.alloc (c := .lst []) (o := .lst []) R1 hD ⟨[], upd_same, .nil⟩
    have hAb : (A1 ++ [some D])[S1.length]? = some (some D) := by rw [← R1.len]; simp
    have hlb : (S1 ++ [Cell.lst []]).length = S1.length + 1 := by simp
    have E1 := E.step R T1
    have Ew := (E1.step R1 Tb).wipe vs
    generalize hAe : A1 ++ [some D] = Ab at Rb Tb hAb Ew
    generalize hSe : S1 ++ [Cell.lst []] = Sb at Rb Tb hlb hq Ew
    generalize hHe : upd H1 D (.lst []) = Hb at Rb Tb Ew
    refine ⟨fun i m H => i + m = ds.length ∧ ∃ A S, Rel K A S H ∧ Stp Ab Sb Hb A S H ∧ lcN g t e (wipeD σd vs) S1.length (ds.drop i) S = some Sf, ⟨ds.length, Nat.zero_add _, Ab, Sb, Rb, .refl, hq⟩, ?_⟩
    rintro i m H ⟨hm, A, S, R, T, q⟩
    obtain ⟨go, stop, yld⟩ := j1 A S H R (Tb.trans T).fr
    by_cases hlt : i < ds.length
    · refine .inr ⟨go i hlt, fun H => i + 1 + (m - 1) = ds.length ∧ ∃ A S, Rel K A S H ∧ Stp Ab Sb Hb A S H ∧ lcN g t e (wipeD σd vs) S1.length (ds.drop (i + 1)) S = some Sf, fun H' h => ⟨m - 1, by omega, h⟩, fun x H' y => ?_⟩
      obtain ⟨d, hd, R2, T2, r2⟩ := yld i x H' hlt y
      rw [drop_cons hd] at q
      unfold lcN at q
      cases qg : g (.d d) (wipeD σd vs) S with
      | bad => rw [qg] at q; cases q
      | exc C ns l S' => rw [qg] at q; cases q
      | ok σ2d S2 =>
        rw [qg] at q
        dsimp only at q
        refine ⟨A, S, wipeD σd vs, .d d, R2, Ew.step Rb (T.trans T2), RV.of r2, ?_⟩
        rw [qg]
        intro A2 H2 σ2 R3 T3 ⟨E3, sm⟩
        refine ⟨by rw [sm.wipe hs, wipe_wipe], ?_⟩
        cases qt : t σ2d S2 with
        | bad => rw [qt] at q; cases q
        | exc C ns l S' => rw [qt] at q; cases q
        | ok b S3 =>
          rw [qt] at q
          refine ⟨A2, S2, σ2d, R3, E3, ?_⟩
          rw [qt]
          intro A3 H3 b' R4 T4 hb
          have hb : b = b' := hb
          subst hb
          have T' := ((T.trans T2).trans T3).trans T4
          cases b with
          | false =>
            rw [if_neg Bool.false_ne_true]
            dsimp only at q
            refine ⟨by omega, A3.take (S1.length + 1), S3.take (S1.length + 1), R4.take _, ?_, q⟩
            have := T'.take Rb
            rw [hlb] at this
            exact this
          | true =>
            rw [if_pos rfl]
            dsimp only at q
            cases qe : e σ2d S3 with
            | bad => rw [qe] at q; cases q
            | exc C ns l S' => rw [qe] at q; cases q
            | ok w4 S4 =>
              rw [qe] at q
              dsimp only at q
              refine ⟨A3, S3, σ2d, R4, E3.step R3 T4, ?_⟩
              rw [qe]
              intro A4 H4 y R5 T5 r5
              cases qf : fz1 S4 w4 with
              | bad => rw [qf] at q; cases q
              | exc C ns l S' => rw [qf] at q; cases q
              | ok yd S5 =>
                rw [qf] at q
                dsimp only at q
                obtain ⟨R6, T6, r6⟩ := fz1_ok R5 r5 qf
                have T'' := (T'.trans T5).trans T6
                have hA4 := T''.ext _ _ hAb
                obtain ⟨cl, u, hcl, hu, ok⟩ := R6.known hA4
                rw [hcl] at q
                cases cl with
                | lst acc =>
                  obtain ⟨us, h1, h2⟩ := ok
                  unfold addC at q
                  dsimp only at q
                  by_cases hz : acc.length < lim
                  · rw [if_pos hz] at q
                    dsimp only at q
                    obtain ⟨R7, T7⟩ := R6.putL hA4 hcl (h2.append (.one r6))
                    refine ⟨us, h1, by rw [← h2.len]; exact lim_lt hz, by omega, A4.take (S1.length + 1), _, R7.take _, ?_, q⟩
                    have := (T''.trans T7).take Rb
                    rw [hlb] at this
                    exact this
                  · rw [if_neg hz] at q; cases q
                | _ => cases q
    · have e : i = ds.length := by omega
      subst e
      rw [List.drop_length] at q
      cases q
      exact .inl ⟨stop, fo ⟨K, hx, W⟩ σ A1 A S1 _ H1 H D Q R1 R (Tb.trans T) (T.ext _ _ hAb) p1⟩
end
section
variable {X : Cx} {hx : Hx} {elt tg iter : Expr} {ifs : List Expr} {scope : Scope} {own : List (Str × Nat)} {pos : Pos} {w : IM} {g : GM} {t : TM} {e : EM} {is : List Nat} {fin : Nat → Store → Res Wt}
theorem d_lcG (fo : FinOk fin) (hc : X.calm = true) (hN : X.N.Nodup) (own : List (Str × Nat)) (hi : DI X hx tg iter w) (ok : BlkOk X.N X.env.scope scope own) (hs' : ∀ i ∈ is, i ∈ own.map (·.2))
    (hg : ∀ (s : Shared) (H : Hp) (C : Addr) (cl : List (Str × Addr)) (fp : List Addr), DG (X.blk s H scope (compEnvC scope cl C X.env) fp) hx tg is g)
    (ht : ∀ (s : Shared) (H : Hp) (C : Addr) (cl : List (Str × Addr)) (fp : List Addr), DTs (X.blk s H scope (compEnvC scope cl C X.env) fp) hx ifs t)
    (he : ∀ (s : Shared) (H : Hp) (C : Addr) (cl : List (Str × Addr)) (fp : List Addr), DE (X.blk s H scope (compEnvC scope cl C X.env) fp) hx elt e) (hs : ∀ x, foldedSetIterable iter X.env x = pure x := by intro _; rfl) :
    DE X hx (.ListComp elt [⟨tg, iter, ifs, 0⟩] scope pos) (eLcG fin w g t e (own.map (·.2))) :=
  ⟨fun W tk => PEimp (pe_lc hc hN (hi.run W tk) ok (fun s H C cl fp => (hg s H C cl fp).run _ takes_no) (fun s H C cl fp => (ht s H C cl fp).run _ takes_no) (fun s H C cl fp => (he s H C cl fp).run _ takes_no) hs) fun σ H Q h => lc_of fo hs' h⟩
theorem ds_setLcG {i : Nat} {y : Str} {py spos : Pos} (fo : FinOk fin) (hc : X.calm = true) (hN : X.N.Nodup) (own : List (Str × Nat)) (hi : DI X hx tg iter w) (ok : BlkOk X.N X.env.scope scope own) (hs' : ∀ i ∈ is, i ∈ own.map (·.2))
    (hg : ∀ (s : Shared) (H : Hp) (C : Addr) (cl : List (Str × Addr)) (fp : List Addr), DG (X.blk s H scope (compEnvC scope cl C X.env) fp) hx tg is g)
    (ht : ∀ (s : Shared) (H : Hp) (C : Addr) (cl : List (Str × Addr)) (fp : List Addr), DTs (X.blk s H scope (compEnvC scope cl C X.env) fp) hx ifs t)
    (he : ∀ (s : Shared) (H : Hp) (C : Addr) (cl : List (Str × Addr)) (fp : List Addr), DE (X.blk s H scope (compEnvC scope cl C X.env) fp) hx elt e)
    (hy : X.N[i]? = some y := by rfl) (hyl : X.env.scope.names.lookup y = some .local := by rfl)
    (hsw : swapsWith (.ListComp elt [⟨tg, iter, ifs, 0⟩] scope pos) (some (.Name y py)) spos.line X.env = pure true := by first | exact sw_true rfl rfl rfl rfl) (hs : ∀ x, foldedSetIterable iter X.env x = pure x := by intro _; rfl) :
    DS X hx (.Assign [.Name y py] (.ListComp elt [⟨tg, iter, ifs, 0⟩] scope pos) spos) (sSet i (eLcG fin w g t e (own.map (·.2)))) :=
  ⟨fun W tk => PSimp (ps_setLc hc hN hy hyl hsw (hi.run W tk) ok (fun s H C cl fp => (hg s H C cl fp).run _ takes_no) (fun s H C cl fp => (ht s H C cl fp).run _ takes_no) (fun s H C cl fp => (he s H C cl fp).run _ takes_no) hs) fun σ H D ⟨b0, A0, S0, H0, A, S, σd, R0, T, R, E, p⟩ =>
    lc_of (W := W) fo hs' ⟨A, S, σd, R, E, (Post.ofS (R1 := rV _) R T E p).mono fun v H1 ⟨A1, S1, d, R1, T1, E1, r1, p1⟩ => p1 A1 H1 _ R1 T1 (E1.set r1)⟩⟩
end
end Y
end
section
/-! Y13: calls with keywords, methods of texts, str(..), three names at once. -/
namespace Y
open PySem PySem.Spec PyProof.Rows L2

/-! ### keywords -/
def pick {α : Type} (perm : List Nat) (l : List α) : List α := perm.filterMap (l[·]?)
theorem Paired.at_ {α β : Type} {R : α → β → Prop} : ∀ {l : List α} {m : List β}, Paired R l m → ∀ i : Nat, (∃ a b, l[i]? = some a ∧ m[i]? = some b ∧ R a b) ∨ (l[i]? = none ∧ m[i]? = none)
  | _, _, .nil, i => .inr ⟨by simp, by simp⟩
  | _, _, .cons r _, 0 => .inl ⟨_, _, rfl, rfl, r⟩
  | _, _, .cons _ t, i + 1 => by simpa using Paired.at_ t i
theorem paired_pick {α β : Type} {R : α → β → Prop} {l : List α} {m : List β} (h : Paired R l m) : ∀ perm : List Nat, Paired R (pick perm l) (pick perm m)
  | [] => .nil
  | i :: perm => by
    have ih := paired_pick h perm
    unfold pick at ih ⊢
    rcases Paired.at_ h i with ⟨a, b, e1, e2, r⟩ | ⟨e1, e2⟩
    · rw [List.filterMap_cons_some e1, List.filterMap_cons_some e2]
      exact .cons r ih
    · rw [List.filterMap_cons_none e1, List.filterMap_cons_none e2]
      exact ih
theorem paired_app {α β : Type} {R : α → β → Prop} : ∀ {l l' : List α} {m m' : List β}, Paired R l m → Paired R l' m' → Paired R (l ++ l') (m ++ m')
  | _, _, _, _, .nil, h => h
  | _, _, _, _, .cons r t, h => .cons r (paired_app t h)
theorem vals_pick {l : List V} {m : List Value} (h : Vals l m) : ∀ perm : List Nat, Vals (pick perm l) (pick perm m) := fun perm => paired_pick h perm
theorem vals_app {l l' : List V} {m m' : List Value} (h : Vals l m) (h' : Vals l' m') : Vals (l ++ l') (m ++ m') := paired_app h h'
structure DK (X : Cx) (hx : Hx) (kws : List Keyword) (f : AM) : Prop where
  run : ∀ W, Takes X W → PK X kws (tA ⟨X.K, hx, W⟩ f)
/-- a def that stands at a name, called with keywords -/
structure FnKw (P : Program) (w : World) (K : PySem.W.Frag) (mg : Str → Option Value) (base : Heap) (x : Str) (k : Nat) (ps : List Str) (F : List Wt → Store → Res Wt) (n : Nat) (ks : List Str) (perm : List Nat) : Prop where
  is : ∃ f fd, mg x = some (.ref f) ∧ PySem.W.keepIn K (.ref f) = true ∧ KBn K fd ps n ks (fun us ws => pick perm (us ++ ws)) (fun vs zs => pick perm (vs ++ zs)) ∧ FnOk P w K mg base (L2.CX P w) k f fd ps (spOf K F)
theorem FnKw.mono {P : Program} {w : World} {K : PySem.W.Frag} {mg : Str → Option Value} {base : Heap} {x : Str} {k k' : Nat} {ps : List Str} {F : List Wt → Store → Res Wt} {n : Nat} {ks : List Str} {perm : List Nat} (h : FnKw P w K mg base x k ps F n ks perm) (l : k ≤ k') : FnKw P w K mg base x k' ps F n ks perm := by
  obtain ⟨f, fd, h1, h2, h3, h4⟩ := h.is
  exact ⟨f, fd, h1, h2, h3, h4.mono l⟩
theorem kbn_of {K : PySem.W.Frag} {x qual : Str} {params : Arguments} {body : List Stmt} {scope : Scope} {f : Addr} {fd : FuncData} {ps : List Str} {n : Nat} {ks : List Str} {perm : List Nat} (F : FunD K x qual params body scope [] [] f fd)
    (h : ∀ (kV doc pm : Value) (an : Option Addr) (cdv ct : Value) (us ws : List Value), us.length = n → ws.length = ks.length → bindArgs (PySem.W.fnOf x qual params body scope .none kV doc pm an cdv ct) ⟨us, ks.zip ws⟩ = pure (ps.zip (pick perm (us ++ ws)))) :
    KBn K fd ps n ks (fun us ws => pick perm (us ++ ws)) (fun vs zs => pick perm (vs ++ zs)) := by
  obtain ⟨oc, od, dV, kV, doc, pm, an, cdv, ct, osl, rfl, lk, hcd, hD, hK⟩ := F.ex
  rcases hD with ⟨_, rfl⟩ | ⟨e, _⟩
  · exact ⟨fun s us ws _ l1 l2 => .of_eq (h kV doc pm an cdv ct us ws l1 l2), fun r1 r2 => vals_pick (vals_app r1 r2) perm⟩
  · exact absurd rfl e
def eCK (F : List Wt → Store → Res Wt) (n m : Nat) (perm : List Nat) (g gk : AM) : EM := fun σd S => (g σd S).bind fun ds S1 => (gk σd S1).bind fun es S2 => if ds.length = n ∧ es.length = m then F (pick perm (ds ++ es)) S2 else .bad
section
variable {X : Cx} {hx : Hx} {x : Str} {k n : Nat} {ps ks : List Str} {perm : List Nat} {F : List Wt → Store → Res Wt} {e : Expr} {es : List Expr} {kws : List Keyword} {g gk : AM} {p pos kpos : Pos} {nm : Option Str} {fe : EM}
theorem PKimp {kws : List Keyword} {t t' : TA} (h : PK X kws t) (i : ∀ σ H Q, t' σ H Q → t σ H Q) : PK X kws t' := ⟨fun p pins s σ H Q I q => h.run p pins s σ H Q I (i σ H Q q)⟩
theorem dk_nil : DK X hx [] aNil := ⟨fun W tk => PKimp pk_nil fun σ H Q ⟨A, S, σd, R, E, p⟩ => p.here R .nil⟩
theorem dk_cons (h1 : DE X hx e fe) (h2 : DK X hx kws gk) : DK X hx (⟨nm, e, kpos⟩ :: kws) (aCons fe gk) := ⟨fun W tk => PKimp (pk_cons (h1.run W tk) (h2.run W tk)) fun σ H Q ⟨A, S, σd, R, E, p⟩ =>
    ⟨A, S, σd, R, E, (Post.bind (R1 := rV _) p).mono fun v H1 ⟨A1, S1, d, R1, T1, r1, p1⟩ => ⟨A1, S1, σd, R1, E.step R T1, (Post.bind (R1 := rVs _) p1).mono fun vs H2 ⟨A2, S2, ds, R2, T2, r2, p2⟩ =>
      p2.here R2 (.cons (r1.step R1 T2) r2)⟩⟩⟩
theorem run_fnNS {CX : CXT} {f : Addr} {fd : FuncData} {sp : Sp} {E : L2.St → XK} {g : List Value → List Value → List Value} {gV : List V → List V → List V} {pins : List (Addr × Obj)} {σ : L2.St} {H : Hp} {s : Shared} {Q : VK} {us ws : List Value} {vs zs : List V} (F : FnOk X.prog X.w X.K X.mg X.base CX k f fd ps sp) (hr : Room k X.A) (hb : KBn X.K fd ps n ks g gV) (hx : PassesAt CX X σ (E σ))
    (I : Inv X pins σ H s) (r : Vals vs us) (rz : Vals zs ws) (l1 : vs.length = n) (l2 : zs.length = ks.length) (h : sp (gV vs zs) H Q (E σ)) : wpAny (model X.prog X.w) X.A (call (.ref f) us (ks.zip ws)) (EP X pins σ Q) X.xe s := by
  have r2 := hb.rel r rz
  refine wpAny_call (codeAny_mono (F.run X.A X.stack s H ⟨us, ks.zip ws⟩ (g us ws) (gV vs zs) Q (E σ) hr I.env0 (hb.to s us ws I.kIn (r.length.symm.trans l1) (rz.length.symm.trans l2)) r2 h) fun r s' hq => ?_)
  cases r with
  | error e => exact hx pins H s e s' I hq
  | ok fl =>
    cases fl with
    | ret u => exact I.after hq
    | next => exact False.elim hq
    | brk => exact False.elim hq
    | cont => exact False.elim hq
def tCK (n m : Nat) (sp : Sp) (gV : List V → List V → List V) (E : L2.St → XK) (t tk : TA) : TE := fun σ H Q => t σ H fun vs H1 => tk σ H1 fun zs H2 => vs.length = n ∧ zs.length = m ∧ sp (gV vs zs) H2 Q (E σ)
theorem d_callKw (G : FnKw X.prog X.w X.K X.mg X.base x k ps F n ks perm) (hr : Room k X.A) (ha : DA X hx (e :: es) g) (hkw : DK X hx kws gk) {m : Nat} (hg : Gl X x := by rfl) (hmm : ks.length = m := by rfl) (hdb : (x == ("__debug__" : Str)) = false := by decide)
    (hall : (backToKw pos (keywordEach kws X.env)).all (·.1.isSome) = true := by rfl) (hks : (backToKw pos (keywordEach kws X.env)).filterMap (·.1) = ks := by rfl) (he : starEach (e :: es) X.env = (false, eval e X.env) :: starEach es X.env := by rfl)
    (hpl : ((backTo pos (starEach (e :: es) X.env)).any (·.1) || (backToKw pos (keywordEach kws X.env)).any (·.1.isNone)) = false := by rfl) : DE X hx (.Call (.Name x p) (e :: es) kws pos) (eCK F n m perm g gk) := by
  subst hmm
  obtain ⟨f, fd, hm, hk, hb, hF⟩ := G.is
  refine ⟨fun W tk => PEimp (t := tCK n ks.length (spOf X.K F) (fun vs zs => pick perm (vs ++ zs)) (WE W) (tA ⟨X.K, hx, W⟩ g) (tA ⟨X.K, hx, W⟩ gk)) ⟨fun pins s σ H Q I h => ?_⟩ fun σ H Q ⟨A, S, σd, R, E, q⟩ => ?_⟩
  · refine wpAny_Call_Name_kw (ld_glob I hg hm ?_ hdb)
    refine PySem.W.callWith_KW (h₀ := X.base) I.ok.mod.kin hk hall (thn ((ha.run W tk).run pos pins s σ H _ I h) fun us s1 ⟨vs, H1, I1, r, q⟩ => ?_) hpl he
    refine thn ((hkw.run W tk).run pos pins s1 σ H1 _ I1 q) fun ws s2 ⟨zs, H2, I2, rz, l1, l2, q2⟩ => ⟨I2.kIn, ?_⟩
    rw [hks]
    exact run_fnNS hF hr hb (passAt tk σ) I2 r rz l1 l2 q2
  · refine ⟨A, S, σd, R, E, (Post.bind (R1 := rVs _) q).mono fun vs H1 ⟨A1, S1, ds, R1, T1, r1, p1⟩ => ⟨A1, S1, σd, R1, E.step R T1, (Post.bind (R1 := rVs _) p1).mono fun zs H2 ⟨A2, S2, es', R2, T2, r2, p2⟩ => ?_⟩⟩
    obtain ⟨⟨l1, l2⟩, p3⟩ := Post.iteP p2
    have r1' := Paired.mapP r1 fun d v q => RV.step (hx := hx) R1 T2 q
    exact ⟨by rw [← Paired.length r1]; exact l1, by rw [← Paired.length r2]; exact l2, hx, A2, S2, _, R2, paired_pick (paired_app r1' r2) perm, p3.toCE⟩
theorem d_callKw0 (G : FnKw X.prog X.w X.K X.mg X.base x k ps F 0 ks perm) (hr : Room k X.A) (hkw : DK X hx kws gk) {m : Nat} (hg : Gl X x := by rfl) (hmm : ks.length = m := by rfl) (hdb : (x == ("__debug__" : Str)) = false := by decide)
    (hall : (backToKw pos (keywordEach kws X.env)).all (·.1.isSome) = true := by rfl) (hks : (backToKw pos (keywordEach kws X.env)).filterMap (·.1) = ks := by rfl)
    (hpl : ((backTo pos (starEach [] X.env)).any (·.1) || (backToKw pos (keywordEach kws X.env)).any (·.1.isNone)) = false := by rfl) : DE X hx (.Call (.Name x p) [] kws pos) (eCK F 0 m perm aNil gk) := by
  subst hmm
  obtain ⟨f, fd, hm, hk, hb, hF⟩ := G.is
  refine ⟨fun W tk => PEimp (t := tCK 0 ks.length (spOf X.K F) (fun vs zs => pick perm (vs ++ zs)) (WE W) L2.tNil (tA ⟨X.K, hx, W⟩ gk)) ⟨fun pins s σ H Q I h => ?_⟩ fun σ H Q ⟨A, S, σd, R, E, q⟩ => ?_⟩
  · refine wpAny_Call_Name_kw (ld_glob I hg hm ?_ hdb)
    refine PySem.W.callWith_KW0 (h₀ := X.base) I.ok.mod.kin hk hall ?_ hpl
    refine thn ((hkw.run W tk).run pos pins s σ H _ I h) fun ws s2 ⟨zs, H2, I2, rz, l1, l2, q2⟩ => ⟨I2.kIn, ?_⟩
    rw [hks]
    exact run_fnNS (us := []) (vs := []) hF hr hb (passAt tk σ) I2 .nil rz rfl l2 q2
  · refine ⟨A, S, σd, R, E, (Post.bind (R1 := rVs _) (show Post ⟨X.K, hx, W⟩ (rV ⟨X.K, hx, W⟩) σ A S H Q ((gk σd S).bind fun es S2 => if ([] : List Wt).length = 0 ∧ es.length = ks.length then F (pick perm ([] ++ es)) S2 else .bad) from q)).mono fun zs H2 ⟨A2, S2, es', R2, T2, r2, p2⟩ => ?_⟩
    obtain ⟨⟨_, l2⟩, p3⟩ := Post.iteP p2
    exact ⟨rfl, by rw [← Paired.length r2]; exact l2, hx, A2, S2, _, R2, paired_pick r2 perm, p3.toCE⟩
/-- f() -/
theorem d_call0 (G : Fn X.prog X.w X.K X.mg X.base x k [] F) (hr : Room k X.A) (hg : Gl X x := by rfl) (hdb : (x == ("__debug__" : Str)) = false := by decide) : DE X hx (.Call (.Name x p) [] [] pos) (fun _ S => F [] S) := by
  obtain ⟨f, fd, hm, hk, hb, hF⟩ := G.is
  refine ⟨fun W tk => ⟨fun pins s σ H Q I ⟨A, S, σd, R, E, q⟩ => ?_⟩⟩
  refine wpAny_Call_Name_kw (ld_glob I hg hm ?_ hdb)
  refine PySem.W.callWith_KW0 (kws := []) (env := X.env) (h₀ := X.base) I.ok.mod.kin hk rfl (wpAny_evalAll_nil ⟨I.kIn, ?_⟩) rfl
  exact run_fnS (us := []) (vs := []) (E := WE W) hF hr hb (passAt tk σ) I .nil ⟨hx, A, S, [], R, .nil, q.toCE⟩
end

/-! ### three names at once -/
section
variable {X : Cx} {hx : Hx} {pos : Pos}
theorem ds_par3 {i j l : Nat} {x y z : Str} {a b c : Expr} {fa : AM} {px py pz pt : Pos} {kt k2 pt2} (hc : X.calm = true) (hN : X.N.Nodup) (ha : DA X hx [a, b, c] fa) (hi : X.N[i]? = some x := by rfl) (hj : X.N[j]? = some y := by rfl) (hl : X.N[l]? = some z := by rfl) (hij : i ≠ j := by decide) (hil : i ≠ l := by decide) (hjl : j ≠ l := by decide)
    (hx' : X.env.scope.names.lookup x = some .local := by rfl) (hy : X.env.scope.names.lookup y = some .local := by rfl) (hz : X.env.scope.names.lookup z = some .local := by rfl)
    (hw : swappedStores [.Tuple [.Name x px, .Name y py, .Name z pz] kt pt] (.Tuple [a, b, c] k2 pt2) X.env = pure (some [x, y, z]) := by rfl)
    (hs : swapsWithSole [.Tuple [.Name x px, .Name y py, .Name z pz] kt pt] (.Tuple [a, b, c] k2 pt2) pos.line X.env = pure false := by rfl) :
    DS X hx (.Assign [.Tuple [.Name x px, .Name y py, .Name z pz] kt pt] (.Tuple [a, b, c] k2 pt2) pos) (sPar3 i j l fa) := ⟨fun W tk => PSimp (ps_par3 hc hN hi hj hl hij hil hjl hx' hy hz (ha.run W tk) hw hs) fun σ H D ⟨b0, A0, S0, H0, A, S, σd, R0, T, R, E, p⟩ =>
  ⟨A, S, σd, R, E, (Post.ofS (R1 := rVs _) R T E p).mono fun vs H1 ⟨A1, S1, ds, R1, T1, E1, r1, p1⟩ => by
    match ds, r1, p1 with
    | [d, e, f], r1, p1 =>
      obtain ⟨v, u, w, rfl, r2, r3, r4⟩ := rvs3 r1
      exact ⟨v, u, w, rfl, p1 A1 H1 _ R1 T1 (((E1.set r2).set r3).set r4)⟩
    | [], _, p1 => exact p1.elim
    | [_], _, p1 => exact p1.elim
    | [_, _], _, p1 => exact p1.elim
    | _ :: _ :: _ :: _ :: _, _, p1 => exact p1.elim⟩⟩

/-! ### texts -/
def bStr : List Wt → Store → Res Wt := f1 fun d S => match d with
  | .int i => if i.natAbs.log2 < 1920 then .ok (.d (.str (toString i))) S else .bad
  | _ => .bad
theorem cal_str : CalD X hx (.type "str") bStr := by
  intro W pins s σ H xs us Q I r h
  obtain ⟨A, S, σ', d, v, R, rfl, rv, p⟩ := rcd1 h
  split at p
  · rename_i x
    obtain ⟨hz, p⟩ := Post.iteP p
    exact call_str_int pins s σ H _ us Q I r ⟨x, by rw [rv.int], hz, p.hereV R (.str _)⟩
  · exact p.elim
def asStrs : List D → Option (List Str)
  | [] => some []
  | .str b :: l => (asStrs l).map (b :: ·)
  | _ => none
theorem strs_of {K : PySem.W.Frag} {lv : Addr → Prop} {H : Hp} : ∀ {l : List D} {vs : List V} {bs : List Str}, RPs K lv H l vs → asStrs l = some bs → vs = bs.map V.str
  | [], _, _, h, e => by cases h; cases e; rfl
  | d :: l, _, bs, h, e => by
    cases h with
    | cons h1 h2 =>
      cases d with
      | str b =>
        unfold asStrs at e
        cases e2 : asStrs l with
        | none => rw [e2] at e; cases e
        | some cs =>
          rw [e2] at e
          cases e
          cases h1
          rw [strs_of h2 e2]
          rfl
      | _ => cases e
theorem of_strs {K : PySem.W.Frag} {lv : Addr → Prop} {H : Hp} : ∀ (ns : List Str), RPs K lv H (ns.map D.str) (ns.map V.str)
  | [] => .nil
  | n :: ns => .cons (.str n) (of_strs ns)
end
end Y
end
section
/-! Y14: methods of texts; the end. -/
namespace Y
open PySem PySem.Spec PyProof.Rows L2
section
variable {X : Cx} {hx : Hx}
def optSt (S : Store) (o : Option (List Str)) (k : List Str → Res Wt) : Res Wt := match o with
  | some l => k l
  | none => .bad
def strsOf : D → Option (List Str)
  | .lst l => asStrs l
  | .tup l => asStrs l
  | _ => none
def mJoin (o : Wt) (ds : List Wt) (S : Store) : Res Wt := match ds with
  | [d] => match deref S o, deref S d with
    | some (.str a), some x => optSt S (strsOf x) fun ys => if (ys.map (·.length)).sum + ys.length * a.length ≤ 10000000 then .ok (.d (.str (Txt.join a ys))) S else .bad
    | _, _ => .bad
  | _ => .bad
theorem optSt_ok {c : Cn} {σ : L2.St} {A : Ads} {S : Store} {H : Hp} {Q : VK} {o : Option (List Str)} {k : List Str → Res Wt} (p : Post c (rV c) σ A S H Q (optSt S o k)) : ∃ l, o = some l ∧ Post c (rV c) σ A S H Q (k l) := by
  cases o with
  | none => exact p.elim
  | some l => exact ⟨l, rfl, p⟩
theorem met_join : MetD X hx "str.join" mJoin := by
  intro W pins s σ H x xs v us Q I r rs h
  obtain ⟨A, S, σ', d, ds, R, rd, rds, p⟩ := h
  match ds, rds, p with
  | [], _, p => exact p.elim
  | _ :: _ :: _, _, p => exact p.elim
  | [y], rds, p =>
    obtain ⟨w, rfl, ry⟩ := rvs1 rds
    unfold mJoin at p
    dsimp only at p
    split at p
    · rename_i a x' e1 e2
      obtain ⟨ys, e, p2⟩ := optSt_ok p
      obtain ⟨hz, p3⟩ := Post.iteP p2
      clear p p2
      obtain rfl := (readAs R rd e1).str
      have hz' : (ys.map (·.length)).sum + ys.length * a.length ≤ 16777216 := by omega
      cases x' with
      | lst l =>
        obtain ⟨b, vs, rfl, hq, g⟩ := (readAs R ry e2).lst
        obtain rfl := strs_of g e
        exact mt_join pins s σ H _ _ v us Q I r rs ⟨a, b, ys, rfl, rfl, .inl (SqL.of hq), hz', p3.hereV R (.str _)⟩
      | tup l =>
        obtain ⟨b, vs, rfl, hq, g⟩ := (readAs R ry e2).tup
        obtain rfl := strs_of g e
        exact mt_join pins s σ H _ _ v us Q I r rs ⟨a, b, ys, rfl, rfl, .inr hq, hz', p3.hereV R (.str _)⟩
      | _ => cases e
    · exact p.elim
theorem d_join {o e : Expr} {fo fe : EM} {apos cpos : Pos} (ho : DE X hx o fo) (he : DE X hx e fe) (hbase : attributeBase o "join" X.env (eval o X.env) = eval o X.env := by rfl)
    (hfew : ((backTo cpos (starEach [e] X.env)).all (fun x => !x.1) && (backToKw cpos (keywordEach [] X.env)).all (fun x => x.1.isSome)
      && decide ([e].length + ([] : List Keyword).length + (if ([] : List Keyword).isEmpty then 0 else 1) < 30)) = true := by rfl)
    (hline : (apos.endLine == cpos.line) = true := by rfl) (hs : starEach [e] X.env = (false, eval e X.env) :: starEach [] X.env := by rfl) (hplain : (backTo cpos (starEach [] X.env)).any (·.1) = false := by rfl) :
    DE X hx (.Call (.Attribute o "join" apos) [e] [] cpos) (eM isStr mJoin fo (aCons fe aNil)) :=
  d_m ty_str F.plainAttrs_str F.slot_str_join F.type_str_join met_join ho (da_cons he da_nil hs) hbase hfew hline hs hplain
end
def scr (ns : List Int) : Wt := .d (.fls (ns.map D.int))
theorem rel_none {K : PySem.W.Frag} {H : Hp} : Rel K [] [] H := ⟨rfl, fun n m a h _ => by simp at h, fun n c h => by simp at h⟩
theorem not_live_none {a : Addr} : ¬ Live [] [] a := fun ⟨n, c, h, _⟩ => by simp at h
theorem walk_Y {l : PySem.W.OpenLaw} {n k : Nat} {q : Program} {loose : List Str} {XP : (Str → Option Value) → Heap → Prop} {YP : World → Heap → Prop} {d : DefRec} {x : Str} {F : List Wt → Store → Res Wt}
    (hn : l.most = some n) (hn2 : n ≤ sizeLine) (hdf : d.params.defaults = []) (hr : Room k callerA)
    (Fc : ∀ (w : World) (mg : Str → Option Value) (fa : Addr) (h : Heap), YP w h → h.Ns mainGlobals mg → mg d.name = some (.ref fa) →
      ∃ (K : PySem.W.Frag) (fd : FuncData), K.In h ∧ (∀ (s : Shared) (u : Value), BindsTo s fd ⟨[u], []⟩ [(x, u)]) ∧
        ∀ base : Heap, K.In base → base.Ns mainGlobals mg → FnOk l.prog w K mg base (L2.CX l.prog w) k fa fd [x] (spOf K F))
    (hF : ∀ ns : List Int, ns.length ≤ n → (∀ z ∈ ns, Builtin.Int.intBits z ≤ 1048576) → ∃ S, F [scr ns] [] = .ok (.d (.bl true)) S) :
    PySem.W.WalkO q loose XP YP l.row.toRowW d [] (fun f vs => PySem.call f vs) := by
  refine Att.attach_callB hn hdf fun w s₀ s₁ mg mb fa o pm cd doc a vs ns G Y ho hd hcd hmg hobj hints hlen hbits hg => ?_
  obtain ⟨K, fd, KX, hb, hFn⟩ := Fc w mg fa _ Y G.T.g hmg
  refine law_call (CX := L2.CX l.prog w) KX G.T.g G.T.b G.T.builtins G.T.nolimit hg hobj hints (Nat.le_trans hlen hn2) hr hFn hb (fun H hO hS => ?_) fun H e s' => ?_
  · obtain ⟨S, e⟩ := hF ns hlen hbits
    refine ⟨hx0, [], [], [scr ns], rel_none, .cons ?_ .nil, ?_⟩
    · refine RV.of (.fls ?_ (of_ints ns))
      rcases hS with h | h
      · exact .inl ⟨not_live_none, h⟩
      · exact .inr h
    · rw [e]
      intro A' H' b R T r
      have r : RP K (Live A' S) H' (.bl true) b := r
      cases r
      rfl
  · rintro ⟨a, B, H', cls, d, _, _, _, _, _, _, _, z⟩
    exact z
end Y
end
section
/-! Y15: what the printed texts use. -/
namespace Y
open PySem PySem.Spec PyProof.Rows L2

def fuelW : Nat := 1000000000000000000000000000000
def sBad : SM := fun _ _ _ => .bad
section
variable {X : Cx} {hx : Hx} {apos cpos : Pos} {o e : Expr} {fo fe : EM} {st : Stmt}
theorem ds_never : DS X hx st sBad := ⟨fun W tk => PSimp ps_never fun σ H D ⟨b0, A0, S0, H0, A, S, σd, R0, T, R, E, p⟩ => p.elim⟩
theorem d_app (ho : DE X hx o fo) (he : DE X hx e fe) (hbase : attributeBase o "append" X.env (eval o X.env) = eval o X.env := by rfl)
    (hfew : ((backTo cpos (starEach [e] X.env)).all (fun x => !x.1) && (backToKw cpos (keywordEach [] X.env)).all (fun x => x.1.isSome)
      && decide ([e].length + ([] : List Keyword).length + (if ([] : List Keyword).isEmpty then 0 else 1) < 30)) = true := by rfl)
    (hline : (apos.endLine == cpos.line) = true := by rfl) (hs : starEach [e] X.env = (false, eval e X.env) :: starEach [] X.env := by rfl) (hplain : (backTo cpos (starEach [] X.env)).any (·.1) = false := by rfl) :
    DE X hx (.Call (.Attribute o "append" apos) [e] [] cpos) (eM isLst mApp fo (aCons fe aNil)) :=
  d_m ty_lst F.plainAttrs_list F.slot_list_append F.type_list_append met_app ho (da_cons he da_nil hs) hbase hfew hline hs hplain
theorem d_popAt (ho : DE X hx o fo) (he : DE X hx e fe) (hbase : attributeBase o "pop" X.env (eval o X.env) = eval o X.env := by rfl)
    (hfew : ((backTo cpos (starEach [e] X.env)).all (fun x => !x.1) && (backToKw cpos (keywordEach [] X.env)).all (fun x => x.1.isSome)
      && decide ([e].length + ([] : List Keyword).length + (if ([] : List Keyword).isEmpty then 0 else 1) < 30)) = true := by rfl)
    (hline : (apos.endLine == cpos.line) = true := by rfl) (hs : starEach [e] X.env = (false, eval e X.env) :: starEach [] X.env := by rfl) (hplain : (backTo cpos (starEach [] X.env)).any (·.1) = false := by rfl) :
    DE X hx (.Call (.Attribute o "pop" apos) [e] [] cpos) (eM isLst mPopAt fo (aCons fe aNil)) :=
  d_m ty_lst F.plainAttrs_list F.slot_list_pop F.type_list_pop met_popAt ho (da_cons he da_nil hs) hbase hfew hline hs hplain
theorem d_pop (ho : DE X hx o fo) (hbase : attributeBase o "pop" X.env (eval o X.env) = eval o X.env := by rfl) (hline : (apos.endLine == cpos.line) = true := by rfl) :
    DE X hx (.Call (.Attribute o "pop" apos) [] [] cpos) (eM isLst mPop fo aNil) :=
  d_m0 ty_lst F.plainAttrs_list F.slot_list_pop F.type_list_pop met_pop ho hbase hline
end
theorem fn_bad {P : Program} {w : World} {K : PySem.W.Frag} {mg : Str → Option Value} {base : Heap} {x qual : Str} {params : Arguments} {body : List Stmt} {scope : Scope} {f : Addr} {fd : FuncData} {N ps : List Str} {k : Nat}
    (F : FunD K x qual params body scope [] [] f fd) (Sc : FnScope N ps scope) : FnOk P w K mg base (L2.CX P w) k f fd ps (spOf K fun _ _ => .bad) := by
  have bad : ∀ vs H Q E, spOf K (fun _ _ => .bad) vs H Q E → False := fun vs H Q E ⟨hx, A, S, ds, R, r, p⟩ => p
  have h1 : FnOk P w K mg base (L2.CX P w) (k + 1) f fd ps (spOf K fun _ _ => .bad) := F.ok Sc (fun vs H Q E h => (bad vs H Q E h).elim) fun cdv A outer s H vs Q E hr h => (bad vs H Q E h).elim
  exact ⟨fun vs H Q E h => (bad vs H Q E h).elim, fun A outer s H args us vs Q E hr e0 hb r h => (bad vs H Q E h).elim⟩

/-! ### constants told by the heap -/
mutual
def matchV (K : PySem.W.Frag) : D → Value → Bool
  | .non, .none => true
  | .bl b, .bool c => decide (b = c)
  | .int i, .int j _ => decide (i = j)
  | .str x, .str y _ => decide (x = y)
  | .ty n, .type m => decide (n = m)
  | .tup ds, .ref a => match K.lookup a with
    | some o => (match o.cls with | .type n => decide (n = "tuple") | _ => false) && (match o.data with | .seq its _ => decide (its.size ≤ 1000000) && matchVs K ds its.toList | _ => false)
    | none => false
  | .fls ds, .ref a => match K.lookup a with
    | some o => (match o.cls with | .type n => decide (n = "list") | _ => false) && (match o.dict with | none => true | _ => false) && (match o.data with | .seq its _ => decide (its.size ≤ 1000000) && matchVs K ds its.toList | _ => false)
    | none => false
  | _, _ => false
def matchVs (K : PySem.W.Frag) : List D → List Value → Bool
  | [], [] => true
  | d :: ds, v :: vs => matchV K d v && matchVs K ds vs
  | _, _ => false
end
section
variable {K : PySem.W.Frag}
mutual
theorem matchV_ok : ∀ (d : D) (u : Value), matchV K d u = true → ∃ v, RelV v u ∧ ∀ lv H, RP K lv H d v
  | .non, u, h => by cases u <;> first | (exact ⟨.non, rfl, fun _ _ => .non⟩) | (simp [matchV] at h)
  | .bl b, u, h => by cases u <;> first | (simp [matchV] at h; done) | (simp [matchV] at h; subst h; exact ⟨.bl _, rfl, fun _ _ => .bl _⟩)
  | .int b, u, h => by cases u <;> first | (simp [matchV] at h; done) | (simp [matchV] at h; subst h; exact ⟨.int _, ⟨_, rfl⟩, fun _ _ => .int _⟩)
  | .str b, u, h => by cases u <;> first | (simp [matchV] at h; done) | (simp [matchV] at h; subst h; exact ⟨.str _, ⟨_, rfl⟩, fun _ _ => .str _⟩)
  | .ty b, u, h => by cases u <;> first | (simp [matchV] at h; done) | (simp [matchV] at h; subst h; exact ⟨.ty _, rfl, fun _ _ => .ty _⟩)
  | .tup ds, u, h => by
    cases u with
    | ref a =>
      unfold matchV at h
      cases e : K.lookup a with
      | none => rw [e] at h; cases h
      | some o =>
        rw [e] at h
        obtain ⟨oc, od, dt, sl⟩ := o
        dsimp only at h
        rw [Bool.and_eq_true] at h
        obtain ⟨h1, h2⟩ := h
        cases oc with
        | type n =>
          obtain rfl := of_decide_eq_true h1
          cases dt with
          | seq its n =>
            dsimp only at h2
            rw [Bool.and_eq_true] at h2
            obtain ⟨h3, h4⟩ := h2
            obtain ⟨vs, r, hv⟩ := matchVs_ok ds its.toList h4
            have h3 := of_decide_eq_true h3
            exact ⟨.ref a, rfl, fun lv H => .tup (.inr ⟨_, its, n, e, rfl, rfl, by rw [sizeLine_eq]; omega, r⟩) (hv lv H)⟩
          | _ => cases h2
        | _ => cases h1
    | _ => cases h
  | .fls ds, u, h => by
    cases u with
    | ref a =>
      unfold matchV at h
      cases e : K.lookup a with
      | none => rw [e] at h; cases h
      | some o =>
        rw [e] at h
        obtain ⟨oc, od, dt, sl⟩ := o
        dsimp only at h
        rw [Bool.and_eq_true, Bool.and_eq_true] at h
        obtain ⟨⟨h1, h0⟩, h2⟩ := h
        cases oc with
        | type n =>
          obtain rfl := of_decide_eq_true h1
          cases od with
          | none =>
            cases dt with
            | seq its n =>
              dsimp only at h2
              rw [Bool.and_eq_true] at h2
              obtain ⟨h3, h4⟩ := h2
              obtain ⟨vs, r, hv⟩ := matchVs_ok ds its.toList h4
              have h3 := of_decide_eq_true h3
              exact ⟨.ref a, rfl, fun lv H => .fls (.inr ⟨_, its, n, e, rfl, rfl, rfl, by rw [sizeLine_eq]; omega, r⟩) (hv lv H)⟩
            | _ => cases h2
          | some _ => cases h0
        | _ => cases h1
    | _ => cases h
  | .lst _, u, h => by cases u <;> cases h
  | .dct _ _, u, h => by cases u <;> cases h
  | .gl _, u, h => by cases u <;> cases h
  | .exo _ _ _, u, h => by cases u <;> cases h
theorem matchVs_ok : ∀ (ds : List D) (us : List Value), matchVs K ds us = true → ∃ vs, Vals vs us ∧ ∀ lv H, RPs K lv H ds vs
  | [], us, h => by
    cases us with
    | nil => exact ⟨[], .nil, fun _ _ => .nil⟩
    | cons _ _ => simp [matchVs] at h
  | d :: ds, us, h => by
    cases us with
    | nil => simp [matchVs] at h
    | cons u us =>
      unfold matchVs at h
      rw [Bool.and_eq_true] at h
      obtain ⟨v, r, hv⟩ := matchV_ok d u h.1
      obtain ⟨vs, rs, hvs⟩ := matchVs_ok ds us h.2
      exact ⟨v :: vs, .cons r rs, fun lv H => .cons (hv lv H) (hvs lv H)⟩
end
def konB (K : PySem.W.Frag) (p : Str × D) : Bool := match PySem.W.nsIn K mainGlobals p.1 with
  | some (some u) => matchV K p.2 u
  | _ => false
def gcdB (K : PySem.W.Frag) (x : Str) : Bool := match PySem.W.nsIn K mainGlobals x with
  | some (some (.builtin n)) => decide (n = "math.gcd")
  | _ => false
theorem konB_ok {h : Heap} {mg : Str → Option Value} (X : K.In h) (G : h.Ns mainGlobals mg) {p : Str × D} (c : konB K p = true) : ∃ u v, mg p.1 = some u ∧ RelV v u ∧ ∀ lv H, RP K lv H p.2 v := by
  unfold konB at c
  split at c
  · rename_i u e
    obtain ⟨v, r, hv⟩ := matchV_ok _ _ c
    exact ⟨u, v, PySem.W.mg_of X G e, r, hv⟩
  · cases c
theorem gcdB_ok {h : Heap} {mg : Str → Option Value} (X : K.In h) (G : h.Ns mainGlobals mg) {x : Str} (c : gcdB K x = true) : mg x = some (.builtin "math.gcd") := by
  unfold gcdB at c
  split at c
  · rename_i n e
    obtain rfl := of_decide_eq_true c
    exact PySem.W.mg_of X G e
  · cases c
end
end Y
end
section
/-! Y16: reckoning with the D functions. -/
namespace Y
open PySem PySem.Spec PyProof.Rows L2

@[simp] theorem lim_eq : lim = 10000000 := rfl
/-- a text's signs -/
def cl (x : Str) : List Nat := x.cps.toList
section
variable {α β : Type} {a : α} {S : Store} {σ : Ev}
@[simp] theorem ok_bind {f : α → Store → Res β} : (Res.ok a S).bind f = f a S := id rfl
@[simp] theorem exc_bind {f : α → Store → Res β} {C ns l} : (Res.exc C ns l S).bind f = .exc C ns l S := id rfl
@[simp] theorem bad_bind {f : α → Store → Res β} : (Res.bad : Res α).bind f = .bad := id rfl
@[simp] theorem ok_toS {k : α → Store → SR} : (Res.ok a S).toS σ k = k a S := id rfl
@[simp] theorem exc_toS {k : α → Store → SR} {C ns l} : (Res.exc C ns l S).toS σ k = .exc C ns l σ S := id rfl
@[simp] theorem bad_toS {k : α → Store → SR} : (Res.bad : Res α).toS σ k = .bad := id rfl
end
section
variable {σ : Ev} {S : Store} {b n i j : Nat} {f g h : SM} {e fa fb fc : EM} {t u : TM} {op op' : Wt → Wt → Store → Res Wt} {ga gb : AM} {d : D} {w : Wt} {F : List Wt → Store → Res Wt} {x y : Str} {k m : Int} {l l' : List D}
@[simp] theorem eVar_ap : eVar i σ S = (match σ[i]? with | some (some d) => .ok d S | _ => .bad) := id rfl
@[simp] theorem eC_ap : eC d σ S = .ok (.d d) S := id rfl
@[simp] theorem eOp_ap : eOp op fa fb σ S = (fa σ S).bind fun x S1 => (fb σ S1).bind fun y S2 => op x y S2 := id rfl
@[simp] theorem eUn_ap {o : Wt → Store → Res Wt} : eUn o fa σ S = (fa σ S).bind fun x S1 => o x S1 := id rfl
@[simp] theorem eB_ap : eB F ga σ S = (ga σ S).bind fun ds S1 => F ds S1 := id rfl
@[simp] theorem aNil_ap : aNil σ S = .ok [] S := id rfl
@[simp] theorem aCons_ap : aCons fa ga σ S = (fa σ S).bind fun d S1 => (ga σ S1).bind fun ds S2 => .ok (d :: ds) S2 := id rfl
@[simp] theorem eCK_ap {p q : Nat} {perm : List Nat} : eCK F p q perm ga gb σ S = (ga σ S).bind fun ds S1 => (gb σ S1).bind fun es S2 => if ds.length = p ∧ es.length = q then F (pick perm (ds ++ es)) S2 else .bad := id rfl
@[simp] theorem tBl_ap : tBl e σ S = (e σ S).bind asB := id rfl
@[simp] theorem asB_ap {c : Bool} : asB (.d (.bl c)) S = .ok c S := id rfl
@[simp] theorem tNot_ap : tNot t σ S = (t σ S).bind fun b S1 => .ok (!b) S1 := id rfl
@[simp] theorem tAnd_ap : tAnd t u σ S = (t σ S).bind fun b S1 => if b = true then u σ S1 else .ok false S1 := id rfl
@[simp] theorem tOr_ap : tOr t u σ S = (t σ S).bind fun b S1 => if b = true then .ok true S1 else u σ S1 := id rfl
@[simp] theorem tTru_ap : tTru e σ S = (e σ S).bind fun d S1 => (truth d S1).bind fun b S2 => .ok b S2 := id rfl
@[simp] theorem tYs_ap : tYs σ S = .ok true S := id rfl
@[simp] theorem eAnd_ap : eAnd fa fb σ S = (fa σ S).bind fun d S1 => (truth d S1).bind fun b S2 => if b = true then fb σ S2 else .ok d S2 := id rfl
@[simp] theorem eOr_ap : eOr fa fb σ S = (fa σ S).bind fun d S1 => (truth d S1).bind fun b S2 => if b = true then .ok d S2 else fb σ S2 := id rfl
@[simp] theorem eNot_ap : eNot fa σ S = (fa σ S).bind fun d S1 => (truth d S1).bind fun b S2 => .ok (.d (.bl (!b))) S2 := id rfl
@[simp] theorem eIf_ap : eIf t fa fb σ S = (t σ S).bind fun b S1 => if b = true then fa σ S1 else fb σ S1 := id rfl
@[simp] theorem eChain_ap : eChain op op' fa fb fc σ S = (fa σ S).bind fun x S1 => (fb σ S1).bind fun y S2 => (op x y S2).bind fun z S3 => (asB z S3).bind fun k S4 => if k = true then (fc σ S4).bind fun w S5 => op' y w S5 else .ok (.d (.bl false)) S4 := id rfl
@[simp] theorem eTup_ap : eTup ga σ S = (ga σ S).bind fun ds S1 => (fzs S1 ds).bind fun l S2 => mkSeq true l S2 := id rfl
@[simp] theorem eLst_ap : eLst ga σ S = (ga σ S).bind fun ds S1 => (fzs S1 ds).bind fun l S2 => mkSeq false l S2 := id rfl
@[simp] theorem eLstL_ap : eLstL ga σ S = (ga σ S).bind fun ds S1 => (fzs S1 ds).bind fun l S2 => if l.length ≤ lim then .ok (.loc S2.length) (S2 ++ [.lst l]) else .bad := id rfl
@[simp] theorem eM_ap {ok : Wt → Store → Bool} {o : Wt → List Wt → Store → Res Wt} : eM ok o fa ga σ S = (fa σ S).bind fun x S1 => if ok x S1 = true then (ga σ S1).bind fun ds S2 => o x ds S2 else .bad := id rfl
@[simp] theorem eSl_ap {o : Wt → Option Int → Option Int → Store → Res Wt} {fl fh : OM} : eSl o fa fl fh σ S = (fa σ S).bind fun d S1 => (fl σ S1).bind fun lo S2 => (fh σ S2).bind fun hi S3 => o d lo hi S3 := id rfl
@[simp] theorem oNone_ap : oNone σ S = .ok none S := id rfl
@[simp] theorem oSome_ap : oSome e σ S = (e σ S).bind asI := id rfl
@[simp] theorem asI_ap : asI (.d (.int k)) S = .ok (some k) S := id rfl
@[simp] theorem sSeq_ap : sSeq f g b σ S = (match f b σ S with | .nx σ' S' => g b σ' S' | r => r) := id rfl
@[simp] theorem sNext_ap : sNext b σ S = .nx σ S := id rfl
@[simp] theorem sBad_ap : sBad b σ S = .bad := id rfl
@[simp] theorem sExpr_ap : sExpr e b σ S = (e σ S).toS σ fun _ S' => .nx σ S' := id rfl
@[simp] theorem sRet_ap : sRet e b σ S = (e σ S).toS σ fun d S' => .rt d S' := id rfl
@[simp] theorem sRetN_ap : sRetN b σ S = .rt (.d .non) S := id rfl
@[simp] theorem sSet_ap : sSet i e b σ S = (e σ S).toS σ fun d S' => .nx (σ.set i (some d)) S' := id rfl
@[simp] theorem sIf_ap : sIf t f g b σ S = (t σ S).toS σ fun k S' => if k = true then f b σ S' else g b σ S' := id rfl
@[simp] theorem sBreak_ap : sBreak b σ S = .bk σ S := id rfl
@[simp] theorem sCont_ap : sCont b σ S = .ct σ S := id rfl
@[simp] theorem sPar_ap : sPar i j ga b σ S = (ga σ S).toS σ fun ds S1 => match ds with
  | [d, e] => .nx ((σ.set i (some d)).set j (some e)) S1
  | _ => .bad := id rfl
@[simp] theorem sPar3_ap : sPar3 i j n ga b σ S = (ga σ S).toS σ fun ds S1 => match ds with
  | [d, e, h] => .nx (((σ.set i (some d)).set j (some e)).set n (some h)) S1
  | _ => .bad := id rfl
@[simp] theorem sAsg_ap {q : GM} : sAsg q e b σ S = (e σ S).toS σ fun d S1 => (q d σ S1).toS σ fun σ2 S2 => .nx σ2 S2 := id rfl
@[simp] theorem gN_ap : gN i w σ S = .ok (σ.set i (some w)) S := id rfl
@[simp] theorem gT_ap {h : GMs} : gT n h (.d (.tup l)) σ S = if l.length = n then h (l.map Wt.d) σ S else .bad := id rfl
@[simp] theorem gN0_ap : gN0 [] σ S = .ok σ S := id rfl
@[simp] theorem gN1_ap {q : GM} {h : GMs} {ws : List Wt} : gN1 q h (w :: ws) σ S = (q w σ S).bind fun σ1 S1 => h ws σ1 S1 := id rfl
@[simp] theorem sFor_ap {p : IM} {q : GM} : sFor p q f b σ S = (p σ S).toS σ fun ds S1 => forN q f ds b σ S1 := id rfl
@[simp] theorem iVal_ap : iVal e σ S = (e σ S).bind fun d S1 => (fz1 S1 d).bind fun x S2 => optI S2 (itemsOf x) := id rfl
@[simp] theorem optI_ap : optI S (some l) = .ok l S := id rfl
@[simp] theorem fz1_d : fz1 S (.d d) = .ok d S := id rfl
@[simp] theorem fzs_nil : fzs S [] = .ok [] S := id rfl
@[simp] theorem fzs_cons {ws : List Wt} : fzs S (w :: ws) = (fz1 S w).bind fun d' S1 => (fzs S1 ws).bind fun ds' S2 => .ok (d' :: ds') S2 := id rfl
@[simp] theorem mkT : mkSeq true l S = if l.length ≤ lim then .ok (.d (.tup l)) S else .bad := id rfl
@[simp] theorem mkL : mkSeq false l S = if l.length ≤ lim then .ok (.d (.lst l)) S else .bad := id rfl
@[simp] theorem deref_d : deref S (.d d) = some d := id rfl
@[simp] theorem truth_bl {c : Bool} : truth (.d (.bl c)) S = .ok c S := id rfl
@[simp] theorem truth_int : truth (.d (.int k)) S = .ok (k != 0) S := id rfl
@[simp] theorem add_int : opAdd (.d (.int k)) (.d (.int m)) S = .ok (.d (.int (k + m))) S := id rfl
@[simp] theorem add_str : opAdd (.d (.str x)) (.d (.str y)) S = if x.length + y.length ≤ lim then .ok (.d (.str (x ++ y))) S else .bad := id rfl
@[simp] theorem add_tup : opAdd (.d (.tup l)) (.d (.tup l')) S = if l.length + l'.length ≤ lim then .ok (.d (.tup (l ++ l'))) S else .bad := id rfl
@[simp] theorem add_lst : opAdd (.d (.lst l)) (.d (.lst l')) S = if l.length + l'.length ≤ lim then .ok (.d (.lst (l ++ l'))) S else .bad := id rfl
@[simp] theorem sub_int : opSub (.d (.int k)) (.d (.int m)) S = .ok (.d (.int (k - m))) S := id rfl
@[simp] theorem mul_int : opMul (.d (.int k)) (.d (.int m)) S = if mulOk k m then .ok (.d (.int (k * m))) S else .bad := id rfl
@[simp] theorem mul_str : opMul (.d (.str x)) (.d (.int m)) S = if 0 ≤ m ∧ m ≤ 1000 ∧ x.length ≤ 1000 then .ok (.d (.str (Txt.mul x m))) S else .bad := id rfl
@[simp] theorem fdiv_int : opFdiv (.d (.int k)) (.d (.int m)) S = if m ≠ 0 ∧ m.natAbs.log2 < 9000 then .ok (.d (.int (k.fdiv m))) S else .bad := id rfl
@[simp] theorem mod_int : opMod (.d (.int k)) (.d (.int m)) S = if m ≠ 0 then .ok (.d (.int (k.fmod m))) S else .bad := id rfl
@[simp] theorem neg_int : opNeg (.d (.int k)) S = .ok (.d (.int (-k))) S := id rfl
@[simp] theorem lt_int : opLt (.d (.int k)) (.d (.int m)) S = .ok (.d (.bl (decide (k < m)))) S := id rfl
@[simp] theorem le_int : opLe (.d (.int k)) (.d (.int m)) S = .ok (.d (.bl (decide (k ≤ m)))) S := id rfl
@[simp] theorem gt_int : opGt (.d (.int k)) (.d (.int m)) S = .ok (.d (.bl (decide (k > m)))) S := id rfl
@[simp] theorem ge_int : opGe (.d (.int k)) (.d (.int m)) S = .ok (.d (.bl (decide (k ≥ m)))) S := id rfl
theorem beqd {α : Type} [BEq α] [LawfulBEq α] [DecidableEq α] {a b : α} : (a == b) = decide (a = b) := by
  by_cases h : a = b
  · subst h; simp
  · rw [decide_eq_false h]; simpa using h
theorem deq_int : deq (.int k) (.int m) = decide (k = m) := by simp [deq, toPy, PyData.eqv, beqd]
theorem deq_str : deq (.str x) (.str y) = decide (x = y) := by simp [deq, toPy, PyData.eqv, beqd]
theorem deq_bl {c c' : Bool} : deq (.bl c) (.bl c') = decide (c = c') := by simp [deq, toPy, PyData.eqv, beqd]
@[simp] theorem eq_int : opEq false (.d (.int k)) (.d (.int m)) S = .ok (.d (.bl (decide (k = m)))) S := by simp [opEq, eqOk, D.scal, deq_int]
@[simp] theorem ne_int : opEq true (.d (.int k)) (.d (.int m)) S = .ok (.d (.bl (!decide (k = m)))) S := by simp [opEq, eqOk, D.scal, deq_int]
@[simp] theorem eq_str : opEq false (.d (.str x)) (.d (.str y)) S = .ok (.d (.bl (decide (x = y)))) S := by simp [opEq, eqOk, D.scal, deq_str]
@[simp] theorem ne_str : opEq true (.d (.str x)) (.d (.str y)) S = .ok (.d (.bl (!decide (x = y)))) S := by simp [opEq, eqOk, D.scal, deq_str]
@[simp] theorem eq_bl {c c' : Bool} : opEq false (.d (.bl c)) (.d (.bl c')) S = .ok (.d (.bl (decide (c = c')))) S := by simp [opEq, eqOk, D.scal, deq_bl]
@[simp] theorem ne_bl {c c' : Bool} : opEq true (.d (.bl c)) (.d (.bl c')) S = .ok (.d (.bl (!decide (c = c')))) S := by simp [opEq, eqOk, D.scal, deq_bl]
@[simp] theorem ix_tup : opIx (.d (.tup l)) (.d (.int k)) S = optR S (atI l k) := id rfl
@[simp] theorem ix_lst : opIx (.d (.lst l)) (.d (.int k)) S = optR S (atI l k) := id rfl
@[simp] theorem ix_fls : opIx (.d (.fls l)) (.d (.int k)) S = optR S (atI l k) := id rfl
@[simp] theorem ix_str : opIx (.d (.str x)) (.d (.int k)) S = if x.length ≤ lim then optR S ((atI (cl x) k).map fun c => .str ⟨#[c]⟩) else .bad := id rfl
@[simp] theorem optR_some : optR S (some d) = .ok (.d d) S := id rfl
@[simp] theorem sl_str {lo hi : Option Int} : opSl (.d (.str x)) lo hi S = if x.length ≤ lim then .ok (.d (.str (cutS x lo hi))) S else .bad := id rfl
@[simp] theorem sl_tup {lo hi : Option Int} : opSl (.d (.tup l)) lo hi S = .ok (.d (.tup (cutD l lo hi))) S := id rfl
@[simp] theorem sl_lst {lo hi : Option Int} : opSl (.d (.lst l)) lo hi S = .ok (.d (.lst (cutD l lo hi))) S := id rfl
@[simp] theorem len_str : bLen [.d (.str x)] S = if x.length ≤ lim then .ok (.d (.int x.length)) S else .bad := id rfl
@[simp] theorem len_tup : bLen [.d (.tup l)] S = .ok (.d (.int l.length)) S := id rfl
@[simp] theorem len_lst : bLen [.d (.lst l)] S = .ok (.d (.int l.length)) S := id rfl
@[simp] theorem len_fls : bLen [.d (.fls l)] S = .ok (.d (.int l.length)) S := id rfl
@[simp] theorem abs_int : bAbs [.d (.int k)] S = .ok (.d (.int (if k < 0 then -k else k))) S := id rfl
@[simp] theorem int_int : bInt [.d (.int k)] S = .ok (.d (.int k)) S := id rfl
@[simp] theorem int_bl {c : Bool} : bInt [.d (.bl c)] S = .ok (.d (.int (if c then 1 else 0))) S := id rfl
@[simp] theorem max_int : bMax [.d (.int k), .d (.int m)] S = .ok (.d (.int (if m > k then m else k))) S := id rfl
@[simp] theorem min_int : bMin [.d (.int k), .d (.int m)] S = .ok (.d (.int (if m < k then m else k))) S := id rfl
@[simp] theorem tuple_lst : bTuple [.d (.lst l)] S = .ok (.d (.tup l)) S := id rfl
@[simp] theorem tuple_tup : bTuple [.d (.tup l)] S = .ok (.d (.tup l)) S := id rfl
@[simp] theorem list_lst : bList [.d (.lst l)] S = .ok (.d (.lst l)) S := id rfl
@[simp] theorem list_tup : bList [.d (.tup l)] S = .ok (.d (.lst l)) S := id rfl
@[simp] theorem str_int : bStr [.d (.int k)] S = if k.natAbs.log2 < 1920 then .ok (.d (.str (toString k))) S else .bad := id rfl
/-- what range says of its arguments -/
def rg1 (ds : List Wt) (S : Store) : Res (List D) := match ds with
  | [.d (.int j)] => if -(2 ^ 62) ≤ j ∧ j < 2 ^ 62 then .ok (rng 0 j.toNat) S else .bad
  | _ => .bad
def rg2 (ds : List Wt) (S : Store) : Res (List D) := match ds with
  | [.d (.int i), .d (.int j)] => if -(2 ^ 62) ≤ i ∧ i < 2 ^ 62 ∧ -(2 ^ 62) ≤ j ∧ j < 2 ^ 62 then .ok (rng i (j - i).toNat) S else .bad
  | _ => .bad
@[simp] theorem rng1_ap : iRng1 ga σ S = (ga σ S).bind rg1 := id rfl
@[simp] theorem rng2_ap : iRng2 ga σ S = (ga σ S).bind rg2 := id rfl
theorem rg1_int {j : Int} (h0 : -100000000 ≤ j) (h : j ≤ 100000000) : rg1 [.d (.int j)] S = .ok (rng 0 j.toNat) S := if_pos ⟨by omega, by omega⟩
theorem rg1_nat {j : Nat} (h : j ≤ 100000000) : rg1 [.d (.int (j : Int))] S = .ok (rng 0 j) S := rg1_int (by omega) (by omega)
theorem rg2_int {i j : Int} (h0 : -100000000 ≤ j) (h : j ≤ 100000000) (g0 : -100000000 ≤ i) (g : i ≤ 100000000) : rg2 [.d (.int i), .d (.int j)] S = .ok (rng i (j - i).toNat) S := if_pos ⟨by omega, by omega, by omega, by omega⟩
theorem ix_loc {N : Nat} (e : S[N]? = some (.lst l)) : opIx (.loc N) (.d (.int k)) S = optR S (atI l k) := by simp [opIx, deref, e, cellD]
theorem len_loc {N : Nat} (e : S[N]? = some (.lst l)) : bLen [.loc N] S = .ok (.d (.int l.length)) S := by simp [bLen, f1, deref, e, cellD]
theorem set_loc {N j : Nat} (e : S[N]? = some (.lst l)) (hj : ixN l.length k = some j) : setC (.loc N) (.d (.int k)) (.d d) S = .ok () (S.set N (.lst (l.set j d))) := by simp [setC, e, putC, hj]
theorem app_loc {N : Nat} (e : S[N]? = some (.lst l)) (hl : l.length < lim) : mApp (.loc N) [.d d] S = .ok (.d .non) (S.set N (.lst (l ++ [d]))) := by
  simp only [lim_eq] at hl
  simp [mApp, e, appC, hl]
theorem isLst_loc {N : Nat} (e : S[N]? = some (.lst l)) : isLst (.loc N) S = true := by simp [isLst, deref, e, cellD]
theorem tuple_loc {N : Nat} (e : S[N]? = some (.lst l)) : bTuple [.loc N] S = .ok (.d (.tup l)) S := by simp [bTuple, f1, deref, e, cellD]
@[simp] theorem isStr_d : isStr (.d (.str x)) S = true := id rfl
@[simp] theorem noEx_ok {α : Type} {a : α} : noEx (.ok a S) = .ok a S := id rfl
@[simp] theorem gSb_ap : gSb fa fb w σ S = noEx ((fa σ S).bind fun o S1 => (fb σ S1).bind fun i S2 => (setC o i w S2).bind fun _ S3 => .ok σ S3) := id rfl
@[simp] theorem take_self : S.take S.length = S := List.take_length
@[simp] theorem take_set {N : Nat} {c : Cell} : (S.set N c).take S.length = S.set N c := by
  have : (S.set N c).length = S.length := by simp
  rw [← this, List.take_length]
theorem take_new {T : Store} : (S ++ T).take S.length = S := by simp
@[simp] theorem sWhile_ap {N : Nat} : sWhile N t f b σ S = whileN t f N b σ S := id rfl
theorem while_turn {N : Nat} (hN : 0 < N) : whileN t f N b σ S = (t σ S).toS σ fun k S1 => if k = true then (match f b σ S1 with
    | .nx σd' S' => whileN t f (N - 1) b σd' S'
    | .ct σd' S' => whileN t f (N - 1) b σd' S'
    | .bk σd' S' => .nx σd' S'
    | r => r) else .nx σ S1 := by
  cases N with
  | zero => omega
  | succ N => rfl
/-- a def's call -/
theorem mkFn_eq {N M : Nat} {ds : List Wt} : mkFn N M f ds S = if ds.length = N then finish S.length (f S.length (ds.map some ++ List.replicate (M - N) none) S) else .bad := id rfl
@[simp] theorem fin_d : finish b (.rt (.d d) S) = .ok (.d d) (S.take b) := id rfl
@[simp] theorem fin_nx : finish b (.nx σ S) = .ok (.d .non) (S.take b) := id rfl
end
@[simp] theorem in_int : tyK.contains "int" = true := by decide
@[simp] theorem in_bool : tyK.contains "bool" = true := by decide
@[simp] theorem in_str : tyK.contains "str" = true := by decide
@[simp] theorem in_tuple : tyK.contains "tuple" = true := by decide
@[simp] theorem in_list : tyK.contains "list" = true := by decide
@[simp] theorem in_dict : tyK.contains "dict" = true := by decide
@[simp] theorem mem_int : "int" ∈ tyK := by decide
@[simp] theorem mem_bool : "bool" ∈ tyK := by decide
@[simp] theorem mem_str : "str" ∈ tyK := by decide
@[simp] theorem mem_tuple : "tuple" ∈ tyK := by decide
@[simp] theorem mem_list : "list" ∈ tyK := by decide
@[simp] theorem mem_dict : "dict" ∈ tyK := by decide
@[simp] theorem isT_NoneType_int : isT "NoneType" "int" = false := by decide
@[simp] theorem isT_NoneType_bool : isT "NoneType" "bool" = false := by decide
@[simp] theorem isT_NoneType_str : isT "NoneType" "str" = false := by decide
@[simp] theorem isT_NoneType_tuple : isT "NoneType" "tuple" = false := by decide
@[simp] theorem isT_NoneType_list : isT "NoneType" "list" = false := by decide
@[simp] theorem isT_NoneType_dict : isT "NoneType" "dict" = false := by decide
@[simp] theorem isT_bool_int : isT "bool" "int" = true := by decide
@[simp] theorem isT_bool_bool : isT "bool" "bool" = true := by decide
@[simp] theorem isT_bool_str : isT "bool" "str" = false := by decide
@[simp] theorem isT_bool_tuple : isT "bool" "tuple" = false := by decide
@[simp] theorem isT_bool_list : isT "bool" "list" = false := by decide
@[simp] theorem isT_bool_dict : isT "bool" "dict" = false := by decide
@[simp] theorem isT_int_int : isT "int" "int" = true := by decide
@[simp] theorem isT_int_bool : isT "int" "bool" = false := by decide
@[simp] theorem isT_int_str : isT "int" "str" = false := by decide
@[simp] theorem isT_int_tuple : isT "int" "tuple" = false := by decide
@[simp] theorem isT_int_list : isT "int" "list" = false := by decide
@[simp] theorem isT_int_dict : isT "int" "dict" = false := by decide
@[simp] theorem isT_str_int : isT "str" "int" = false := by decide
@[simp] theorem isT_str_bool : isT "str" "bool" = false := by decide
@[simp] theorem isT_str_str : isT "str" "str" = true := by decide
@[simp] theorem isT_str_tuple : isT "str" "tuple" = false := by decide
@[simp] theorem isT_str_list : isT "str" "list" = false := by decide
@[simp] theorem isT_str_dict : isT "str" "dict" = false := by decide
@[simp] theorem isT_tuple_int : isT "tuple" "int" = false := by decide
@[simp] theorem isT_tuple_bool : isT "tuple" "bool" = false := by decide
@[simp] theorem isT_tuple_str : isT "tuple" "str" = false := by decide
@[simp] theorem isT_tuple_tuple : isT "tuple" "tuple" = true := by decide
@[simp] theorem isT_tuple_list : isT "tuple" "list" = false := by decide
@[simp] theorem isT_tuple_dict : isT "tuple" "dict" = false := by decide
@[simp] theorem isT_list_int : isT "list" "int" = false := by decide
@[simp] theorem isT_list_bool : isT "list" "bool" = false := by decide
@[simp] theorem isT_list_str : isT "list" "str" = false := by decide
@[simp] theorem isT_list_tuple : isT "list" "tuple" = false := by decide
@[simp] theorem isT_list_list : isT "list" "list" = true := by decide
@[simp] theorem isT_list_dict : isT "list" "dict" = false := by decide
@[simp] theorem isT_dict_int : isT "dict" "int" = false := by decide
@[simp] theorem isT_dict_bool : isT "dict" "bool" = false := by decide
@[simp] theorem isT_dict_str : isT "dict" "str" = false := by decide
@[simp] theorem isT_dict_tuple : isT "dict" "tuple" = false := by decide
@[simp] theorem isT_dict_list : isT "dict" "list" = false := by decide
@[simp] theorem isT_dict_dict : isT "dict" "dict" = true := by decide
theorem asTys2 {n m : String} (hn : tyK.contains n = true) (hm : tyK.contains m = true) : asTys [.ty n, .ty m] = some [n, m] := by
  simp only [asTys, if_pos hn, if_pos hm, Option.map_some]
@[simp] theorem isi_non {n : String} {S : Store} : bIsi [.d (.non), .d (.ty n)] S = if tyK.contains n = true then .ok (.d (.bl (isT "NoneType" n))) S else .bad := id rfl
@[simp] theorem isi2_non {n m : String} {S : Store} (hn : tyK.contains n = true) (hm : tyK.contains m = true) : bIsi [.d (.non), .d (.tup [.ty n, .ty m])] S = .ok (.d (.bl (isT "NoneType" n || isT "NoneType" m))) S := by simp [bIsi, f2, tyN, asTys2 hn hm]
@[simp] theorem isi_bl {n : String} {c : Bool} {S : Store} : bIsi [.d (.bl c), .d (.ty n)] S = if tyK.contains n = true then .ok (.d (.bl (isT "bool" n))) S else .bad := id rfl
@[simp] theorem isi2_bl {n m : String} {c : Bool} {S : Store} (hn : tyK.contains n = true) (hm : tyK.contains m = true) : bIsi [.d (.bl c), .d (.tup [.ty n, .ty m])] S = .ok (.d (.bl (isT "bool" n || isT "bool" m))) S := by simp [bIsi, f2, tyN, asTys2 hn hm]
@[simp] theorem isi_int {n : String} {k : Int} {S : Store} : bIsi [.d (.int k), .d (.ty n)] S = if tyK.contains n = true then .ok (.d (.bl (isT "int" n))) S else .bad := id rfl
@[simp] theorem isi2_int {n m : String} {k : Int} {S : Store} (hn : tyK.contains n = true) (hm : tyK.contains m = true) : bIsi [.d (.int k), .d (.tup [.ty n, .ty m])] S = .ok (.d (.bl (isT "int" n || isT "int" m))) S := by simp [bIsi, f2, tyN, asTys2 hn hm]
@[simp] theorem isi_str {n : String} {x : Str} {S : Store} : bIsi [.d (.str x), .d (.ty n)] S = if tyK.contains n = true then .ok (.d (.bl (isT "str" n))) S else .bad := id rfl
@[simp] theorem isi2_str {n m : String} {x : Str} {S : Store} (hn : tyK.contains n = true) (hm : tyK.contains m = true) : bIsi [.d (.str x), .d (.tup [.ty n, .ty m])] S = .ok (.d (.bl (isT "str" n || isT "str" m))) S := by simp [bIsi, f2, tyN, asTys2 hn hm]
@[simp] theorem isi_tup {n : String} {l : List D} {S : Store} : bIsi [.d (.tup l), .d (.ty n)] S = if tyK.contains n = true then .ok (.d (.bl (isT "tuple" n))) S else .bad := id rfl
@[simp] theorem isi2_tup {n m : String} {l : List D} {S : Store} (hn : tyK.contains n = true) (hm : tyK.contains m = true) : bIsi [.d (.tup l), .d (.tup [.ty n, .ty m])] S = .ok (.d (.bl (isT "tuple" n || isT "tuple" m))) S := by simp [bIsi, f2, tyN, asTys2 hn hm]
@[simp] theorem isi_lst {n : String} {l : List D} {S : Store} : bIsi [.d (.lst l), .d (.ty n)] S = if tyK.contains n = true then .ok (.d (.bl (isT "list" n))) S else .bad := id rfl
@[simp] theorem isi2_lst {n m : String} {l : List D} {S : Store} (hn : tyK.contains n = true) (hm : tyK.contains m = true) : bIsi [.d (.lst l), .d (.tup [.ty n, .ty m])] S = .ok (.d (.bl (isT "list" n || isT "list" m))) S := by simp [bIsi, f2, tyN, asTys2 hn hm]
@[simp] theorem isi_fls {n : String} {l : List D} {S : Store} : bIsi [.d (.fls l), .d (.ty n)] S = if tyK.contains n = true then .ok (.d (.bl (isT "list" n))) S else .bad := id rfl
@[simp] theorem isi2_fls {n m : String} {l : List D} {S : Store} (hn : tyK.contains n = true) (hm : tyK.contains m = true) : bIsi [.d (.fls l), .d (.tup [.ty n, .ty m])] S = .ok (.d (.bl (isT "list" n || isT "list" m))) S := by simp [bIsi, f2, tyN, asTys2 hn hm]
@[simp] theorem isi_dct {n : String} {l : List D} {ks : List Key} {S : Store} : bIsi [.d (.dct ks l), .d (.ty n)] S = if tyK.contains n = true then .ok (.d (.bl (isT "dict" n))) S else .bad := id rfl
@[simp] theorem isi2_dct {n m : String} {l : List D} {ks : List Key} {S : Store} (hn : tyK.contains n = true) (hm : tyK.contains m = true) : bIsi [.d (.dct ks l), .d (.tup [.ty n, .ty m])] S = .ok (.d (.bl (isT "dict" n || isT "dict" m))) S := by simp [bIsi, f2, tyN, asTys2 hn hm]
section
variable {S : Store} {b c : Bool} {neg : Bool} {k : Int} {x : Str} {l : List D} {ks : List Key}
@[simp] theorem is_non : opIs neg (.d .non) (.d .non) S = .ok (.d (.bl (!neg))) S := id rfl
@[simp] theorem is_bl_non : opIs neg (.d (.bl b)) (.d .non) S = .ok (.d (.bl neg)) S := id rfl
@[simp] theorem is_int_non : opIs neg (.d (.int k)) (.d .non) S = .ok (.d (.bl neg)) S := id rfl
@[simp] theorem is_str_non : opIs neg (.d (.str x)) (.d .non) S = .ok (.d (.bl neg)) S := id rfl
@[simp] theorem is_tup_non : opIs neg (.d (.tup l)) (.d .non) S = .ok (.d (.bl neg)) S := id rfl
@[simp] theorem is_lst_non : opIs neg (.d (.lst l)) (.d .non) S = .ok (.d (.bl neg)) S := id rfl
@[simp] theorem is_dct_non : opIs neg (.d (.dct ks l)) (.d .non) S = .ok (.d (.bl neg)) S := id rfl
@[simp] theorem is_bl : opIs neg (.d (.bl b)) (.d (.bl c)) S = .ok (.d (.bl (if neg then !(b == c) else b == c))) S := id rfl
end
end Y
end
section
/-! Y17: loops and comprehensions reckoned. -/
namespace Y
open PySem PySem.Spec PyProof.Rows L2
section
variable {g : GM} {t : TM} {e : EM} {σw : Ev} {n b : Nat} {f : SM}
theorem lcN_keep {d y : D} {ds : List D} {acc : List D} {σ2 : Ev} {S S' S2 S3 : Store} {J : Store} (hn : S'.length = n) (h1 : g (.d d) σw S = .ok σ2 S2) (h2 : t σ2 S2 = .ok true S3) (h3 : e σ2 S3 = .ok (.d y) (S' ++ .lst acc :: J)) (hl : acc.length < lim) :
    lcN g t e σw n (d :: ds) S = lcN g t e σw n ds (S' ++ [.lst (acc ++ [y])]) := by
  have h4 : (S' ++ .lst acc :: J)[n]? = some (.lst acc) := by rw [List.getElem?_append_right (by omega), hn, Nat.sub_self]; rfl
  have h5 : ((S' ++ .lst acc :: J).set n (.lst (acc ++ [y]))).take (n + 1) = S' ++ [.lst (acc ++ [y])] := by
    rw [List.set_append_right _ _ (by omega), hn, Nat.sub_self, List.set_cons_zero, List.take_append, hn]
    simp [List.take_of_length_le (Nat.le_of_lt (show S'.length < n + 1 by omega))]
  simp only [lcN, h1, h2, h3, fz1_d, h4, addC, if_pos hl, h5]
theorem lcN_skip {d : D} {ds : List D} {acc : List D} {σ2 : Ev} {S S' S2 : Store} {J : Store} (hn : S'.length = n) (h1 : g (.d d) σw S = .ok σ2 S2) (h2 : t σ2 S2 = .ok false (S' ++ .lst acc :: J)) :
    lcN g t e σw n (d :: ds) S = lcN g t e σw n ds (S' ++ [.lst acc]) := by
  have h5 : (S' ++ .lst acc :: J).take (n + 1) = S' ++ [.lst acc] := by
    rw [List.take_append, hn]
    simp [List.take_of_length_le (Nat.le_of_lt (show S'.length < n + 1 by omega))]
  simp only [lcN, h1, h2, h5]
theorem lc_map (h : D → D) : ∀ (ds acc : List D) (S : Store), S.length = n → (∀ d ∈ ds, ∀ acc', ∃ σ2, g (.d d) σw (S ++ [.lst acc']) = .ok σ2 (S ++ [.lst acc']) ∧ t σ2 (S ++ [.lst acc']) = .ok true (S ++ [.lst acc']) ∧ e σ2 (S ++ [.lst acc']) = .ok (.d (h d)) (S ++ [.lst acc'])) →
    acc.length + ds.length ≤ lim → lcN g t e σw n ds (S ++ [.lst acc]) = some (S ++ [.lst (acc ++ ds.map h)])
  | [], acc, S, hn, _, _ => by simp [lcN]
  | d :: ds, acc, S, hn, hd, hl => by
    obtain ⟨σ2, h1, h2, h3⟩ := hd d (List.mem_cons_self ..) acc
    rw [List.length_cons] at hl
    rw [lcN_keep hn h1 h2 h3 (by omega), lc_map h ds _ S hn (fun x hx => hd x (List.mem_cons_of_mem _ hx)) (by rw [List.length_append, List.length_singleton]; omega)]
    simp
/-- with tests -/
theorem lc_filter (h : D → D) (q : D → Bool) : ∀ (ds acc : List D) (S : Store), S.length = n → (∀ d ∈ ds, ∀ acc', ∃ σ2, g (.d d) σw (S ++ [.lst acc']) = .ok σ2 (S ++ [.lst acc']) ∧ t σ2 (S ++ [.lst acc']) = .ok (q d) (S ++ [.lst acc']) ∧ (q d = true → e σ2 (S ++ [.lst acc']) = .ok (.d (h d)) (S ++ [.lst acc']))) →
    acc.length + ds.length ≤ lim → lcN g t e σw n ds (S ++ [.lst acc]) = some (S ++ [.lst (acc ++ (ds.filter q).map h)])
  | [], acc, S, hn, _, _ => by simp [lcN]
  | d :: ds, acc, S, hn, hd, hl => by
    obtain ⟨σ2, h1, h2, h3⟩ := hd d (List.mem_cons_self ..) acc
    rw [List.length_cons] at hl
    cases hq : q d with
    | true =>
      rw [hq] at h2
      rw [lcN_keep hn h1 h2 (h3 hq) (by omega), lc_filter h q ds _ S hn (fun x hx => hd x (List.mem_cons_of_mem _ hx)) (by rw [List.length_append, List.length_singleton]; omega)]
      simp [hq]
    | false =>
      rw [hq] at h2
      rw [lcN_skip hn h1 h2, lc_filter h q ds _ S hn (fun x hx => hd x (List.mem_cons_of_mem _ hx)) (by omega)]
      simp [hq]
theorem lc_run (I : Store → Prop) (P : D → Prop) : ∀ (ds acc : List D) (S : Store), S.length = n → I S → (∀ d ∈ ds, ∀ acc' S, S.length = n → I S → ∃ σ2 y S' J, g (.d d) σw (S ++ [.lst acc']) = .ok σ2 (S ++ [.lst acc']) ∧ t σ2 (S ++ [.lst acc']) = .ok true (S ++ [.lst acc']) ∧ e σ2 (S ++ [.lst acc']) = .ok (.d y) (S' ++ .lst acc' :: J) ∧ S'.length = n ∧ I S' ∧ P y) →
    acc.length + ds.length ≤ lim → ∃ ys S', lcN g t e σw n ds (S ++ [.lst acc]) = some (S' ++ [.lst (acc ++ ys)]) ∧ S'.length = n ∧ I S' ∧ ys.length = ds.length ∧ ∀ y ∈ ys, P y
  | [], acc, S, hn, hI, _, _ => ⟨[], S, by simp [lcN], hn, hI, rfl, fun _ h => nomatch h⟩
  | d :: ds, acc, S, hn, hI, hd, hl => by
    obtain ⟨σ2, y, S', J, h1, h2, h3, h4, h5, h6⟩ := hd d (List.mem_cons_self ..) acc S hn hI
    rw [List.length_cons] at hl
    obtain ⟨ys, S2, e2, q1, q2, q3, q4⟩ := lc_run I P ds (acc ++ [y]) S' h4 h5 (fun x hx => hd x (List.mem_cons_of_mem _ hx)) (by rw [List.length_append, List.length_singleton]; omega)
    refine ⟨y :: ys, S2, ?_, q1, q2, by simp [q3], fun z hz => ?_⟩
    · rw [lcN_keep h4 h1 h2 h3 (by omega), e2]
      simp
    · rcases List.mem_cons.mp hz with rfl | hz
      · exact h6
      · exact q4 z hz
theorem eLc_map {w : IM} {vs : List Nat} {σ : Ev} {S : Store} {ds : List D} (h : D → D) (hw : w σ S = .ok ds S) (hl : ds.length ≤ lim)
    (hd : ∀ d ∈ ds, ∀ acc', ∃ σ2, g (.d d) (wipeD σ vs) (S ++ [.lst acc']) = .ok σ2 (S ++ [.lst acc']) ∧ t σ2 (S ++ [.lst acc']) = .ok true (S ++ [.lst acc']) ∧ e σ2 (S ++ [.lst acc']) = .ok (.d (h d)) (S ++ [.lst acc'])) :
    eLc w g t e vs σ S = .ok (.d (.lst (ds.map h))) S := by
  show (w σ S).bind _ = _
  rw [hw, ok_bind, lc_map h ds [] S rfl hd (by simpa using hl)]
  simp [optS, finV]
theorem eLc_filter {w : IM} {vs : List Nat} {σ : Ev} {S : Store} {ds : List D} (h : D → D) (q : D → Bool) (hw : w σ S = .ok ds S) (hl : ds.length ≤ lim)
    (hd : ∀ d ∈ ds, ∀ acc', ∃ σ2, g (.d d) (wipeD σ vs) (S ++ [.lst acc']) = .ok σ2 (S ++ [.lst acc']) ∧ t σ2 (S ++ [.lst acc']) = .ok (q d) (S ++ [.lst acc']) ∧ (q d = true → e σ2 (S ++ [.lst acc']) = .ok (.d (h d)) (S ++ [.lst acc']))) :
    eLc w g t e vs σ S = .ok (.d (.lst ((ds.filter q).map h))) S := by
  show (w σ S).bind _ = _
  rw [hw, ok_bind, lc_filter h q ds [] S rfl hd (by simpa using hl)]
  simp [optS, finV]
theorem eLc_run {w : IM} {vs : List Nat} {σ : Ev} {S0 S : Store} {ds : List D} (I : Store → Prop) (P : D → Prop) (hw : w σ S0 = .ok ds S) (hI : I S) (hl : ds.length ≤ lim)
    (hd : ∀ d ∈ ds, ∀ acc' S', S'.length = S.length → I S' → ∃ σ2 y S'' J, g (.d d) (wipeD σ vs) (S' ++ [.lst acc']) = .ok σ2 (S' ++ [.lst acc']) ∧ t σ2 (S' ++ [.lst acc']) = .ok true (S' ++ [.lst acc']) ∧ e σ2 (S' ++ [.lst acc']) = .ok (.d y) (S'' ++ .lst acc' :: J) ∧ S''.length = S.length ∧ I S'' ∧ P y) :
    ∃ ys S', eLc w g t e vs σ S0 = .ok (.d (.lst ys)) S' ∧ S'.length = S.length ∧ I S' ∧ ys.length = ds.length ∧ ∀ y ∈ ys, P y := by
  obtain ⟨ys, S', e2, q1, q2, q3, q4⟩ := lc_run I P ds [] S rfl hI hd (by simpa using hl)
  refine ⟨ys, S', ?_, q1, q2, q3, q4⟩
  show (w σ S0).bind _ = _
  rw [hw, ok_bind, e2]
  simp [optS, finV, ← q1]
theorem for_run (I : List D → Ev → Store → Prop) : ∀ (ds : List D) (σ : Ev) (S : Store), I ds σ S → (∀ d ds σ S, I (d :: ds) σ S → ∃ σ1 S1 σ2 S2, g (.d d) σ S = .ok σ1 S1 ∧ f b σ1 S1 = .nx σ2 S2 ∧ I ds σ2 S2) →
    ∃ σ' S', forN g f ds b σ S = .nx σ' S' ∧ I [] σ' S'
  | [], σ, S, h, _ => ⟨σ, S, rfl, h⟩
  | d :: ds, σ, S, h, step => by
    obtain ⟨σ1, S1, σ2, S2, h1, h2, h3⟩ := step d ds σ S h
    obtain ⟨σ', S', h4, h5⟩ := for_run I ds σ2 S2 h3 step
    refine ⟨σ', S', ?_, h5⟩
    simp only [forN, h1, ok_toS, h2, h4]
/-- .. that may hand back -/
theorem for_ret (I : List D → Ev → Store → Prop) (P : Wt → Store → Prop) : ∀ (ds : List D) (σ : Ev) (S : Store), I ds σ S → (∀ d ds σ S, I (d :: ds) σ S → ∃ σ1 S1, g (.d d) σ S = .ok σ1 S1 ∧ ((∃ σ2 S2, f b σ1 S1 = .nx σ2 S2 ∧ I ds σ2 S2) ∨ ∃ w S2, f b σ1 S1 = .rt w S2 ∧ P w S2)) →
    (∃ σ' S', forN g f ds b σ S = .nx σ' S' ∧ I [] σ' S') ∨ ∃ w S', forN g f ds b σ S = .rt w S' ∧ P w S'
  | [], σ, S, h, _ => .inl ⟨σ, S, rfl, h⟩
  | d :: ds, σ, S, h, step => by
    obtain ⟨σ1, S1, h1, h2⟩ := step d ds σ S h
    rcases h2 with ⟨σ2, S2, h2, h3⟩ | ⟨w, S2, h2, h3⟩
    · rcases for_ret I P ds σ2 S2 h3 step with ⟨σ', S', h4, h5⟩ | ⟨w, S', h4, h5⟩
      · exact .inl ⟨σ', S', by simp only [forN, h1, ok_toS, h2, h4], h5⟩
      · exact .inr ⟨w, S', by simp only [forN, h1, ok_toS, h2, h4], h5⟩
    · exact .inr ⟨w, S2, by simp only [forN, h1, ok_toS, h2], h3⟩
end
theorem rng_mem {lo : Int} {n : Nat} {d : D} (h : d ∈ rng lo n) : ∃ i : Nat, i < n ∧ d = .int (lo + i) := by
  unfold rng at h
  obtain ⟨i, hi, rfl⟩ := List.mem_map.mp h
  exact ⟨i, List.mem_range.mp hi, rfl⟩
@[simp] theorem rng_length {lo : Int} {n : Nat} : (rng lo n).length = n := by simp [rng]
theorem all_true {l : List D} (h : ∀ d ∈ l, d = .bl true) : asBools l = some (l.map fun _ => true) := by
  induction l with
  | nil => rfl
  | cons d l ih =>
    obtain rfl := h d (List.mem_cons_self ..)
    simp [asBools, ih fun x hx => h x (List.mem_cons_of_mem _ hx)]
theorem asBools_map {α : Type} (l : List α) (q : α → Bool) : asBools (l.map fun a => .bl (q a)) = some (l.map q) := by
  induction l with
  | nil => rfl
  | cons d l ih => simp [asBools, ih]
theorem bLst_ok {α : Type} {as : List D → Option (List α)} {k : List α → Store → Res Wt} {l : List D} {bs : List α} {S : Store} (h : as l = some bs) : bLst as k [.d (.lst l)] S = k bs S := by
  unfold bLst f1
  simp only [deref_d, h]
theorem all_ok {l : List D} {S : Store} (h : ∀ d ∈ l, d = .bl true) : bAll [.d (.lst l)] S = .ok (.d (.bl true)) S := by
  refine (bLst_ok (all_true h)).trans ?_
  simp
theorem all_map {α : Type} {l : List α} {q : α → Bool} {S : Store} : bAll [.d (.lst (l.map fun a => .bl (q a)))] S = .ok (.d (.bl (l.all q))) S := by
  refine (bLst_ok (asBools_map l q)).trans ?_
  simp [List.all_map, Function.comp_def]
theorem any_map_ok {α : Type} {l : List α} {q : α → Bool} {S : Store} : bAny [.d (.lst (l.map fun a => .bl (q a)))] S = .ok (.d (.bl (l.any q))) S := by
  refine (bLst_ok (asBools_map l q)).trans ?_
  simp [List.any_map, Function.comp_def]
end Y
end
section
/-! Y18: list comprehensions of two clauses. -/
namespace Y
open PySem PySem.Spec PyProof.Rows L2

def addM (n m : Nat) (y : D) (S : Store) : Option Cell → Option Store
  | some (.lst acc) => if acc.length < lim then some ((S.set n (.lst (acc ++ [y]))).take m) else none
  | _ => none
/-- as lcN, the cells below m kept -/
def lcM (g : GM) (t : TM) (e : EM) (σw : Ev) (n m : Nat) : List D → Store → Option Store
  | [], S => some S
  | d :: ds, S => match g (.d d) σw S with
    | .ok σ2 S2 => match t σ2 S2 with
      | .ok true S3 => match e σ2 S3 with
        | .ok w S4 => match fz1 S4 w with
          | .ok y S5 => match addM n m y S5 S5[n]? with
            | some S6 => lcM g t e σw n m ds S6
            | none => none
          | _ => none
        | _ => none
      | .ok false S3 => lcM g t e σw n m ds (S3.take m)
      | _ => none
    | _ => none
theorem lcM_eq {g : GM} {t : TM} {e : EM} {σw : Ev} {n : Nat} : ∀ (ds : List D) (S : Store), lcM g t e σw n (n + 1) ds S = lcN g t e σw n ds S
  | [], S => rfl
  | d :: ds, S => by
    unfold lcM lcN
    cases g (.d d) σw S with
    | bad => rfl
    | exc _ _ _ _ => rfl
    | ok σ2 S2 =>
      dsimp only
      cases t σ2 S2 with
      | bad => rfl
      | exc _ _ _ _ => rfl
      | ok b S3 =>
        cases b with
        | false => exact lcM_eq ds _
        | true =>
          dsimp only
          cases e σ2 S3 with
          | bad => rfl
          | exc _ _ _ _ => rfl
          | ok w S4 =>
            dsimp only
            cases fz1 S4 w with
            | bad => rfl
            | exc _ _ _ _ => rfl
            | ok y S5 =>
              dsimp only
              have : addM n (n + 1) y S5 S5[n]? = addC n y S5 S5[n]? := by
                cases S5[n]? with
                | none => rfl
                | some c => cases c <;> rfl
              rw [this]
              cases addC n y S5 S5[n]? with
              | none => rfl
              | some S6 => exact lcM_eq ds S6
def lc2N (g : GM) (t : TM) (w1 : IM) (g1 : GM) (t1 : TM) (e : EM) (σw : Ev) (vs1 : List Nat) (n : Nat) : List D → Store → Option Store
  | [], S => some S
  | d :: ds, S => match g (.d d) σw S with
    | .ok σ2 S2 => match t σ2 S2 with
      | .ok true S3 => match w1 σ2 S3 with
        | .ok ds1 S4 => match lcM g1 t1 e (wipeD σ2 vs1) n S4.length ds1 S4 with
          | some S5 => lc2N g t w1 g1 t1 e σw vs1 n ds (S5.take (n + 1))
          | none => none
        | _ => none
      | .ok false S3 => lc2N g t w1 g1 t1 e σw vs1 n ds (S3.take (n + 1))
      | _ => none
    | _ => none
def eLc2G (fin : Nat → Store → Res Wt) (w : IM) (g : GM) (t : TM) (w1 : IM) (g1 : GM) (t1 : TM) (e : EM) (vs vs1 : List Nat) : EM := fun σd S => (w σd S).bind fun ds S1 => optS (lc2N g t w1 g1 t1 e (wipeD σd vs) vs1 S1.length ds (S1 ++ [.lst []])) (fin S1.length)
abbrev eLc2 := eLc2G finV
abbrev eLc2L := eLc2G finL
section
variable {K : PySem.W.Frag} {hx : Hx} {W : WX} {w w1 : IM} {g g1 : GM} {t t1 : TM} {e : EM} {vs vs1 is is1 : List Nat} {fin : Nat → Store → Res Wt}
theorem stp_cell {A : Ads} {S : Store} {H : Hp} {Ab : Ads} {Sb : Store} {Hb : Hp} (Rb : Rel K Ab Sb Hb) (T : Stp Ab Sb Hb A S H) {m : Nat} (hm : Sb.length = m) : Stp Ab Sb Hb (A.take m) (S.take m) H := by
  have := T.take Rb
  rw [hm] at this
  exact this
theorem lc2_of (fo : FinOk fin) (hs : ∀ i ∈ is, i ∈ vs) (hs1 : ∀ i ∈ is1, i ∈ vs1) {σ : L2.St} {H : Hp} {Q : VK} (h : tE ⟨K, hx, W⟩ (eLc2G fin w g t w1 g1 t1 e vs vs1) σ H Q) :
    tLc2 (tI ⟨K, hx, W⟩ w) (tG (cno K hx) is g) (tT (cno K hx) t) (tI (cno K hx) w1) (tG (cno K hx) is1 g1) (tT (cno K hx) t1) (tE (cno K hx) e) vs vs1 σ H Q := by
  obtain ⟨A, S, σd, R, E, p⟩ := h
  refine ⟨A, S, σd, R, E, (Post.bind (R1 := rIt ⟨K, hx, W⟩) p).mono fun J H1 ⟨A1, S1, ds, R1, T1, j1, p1⟩ => ?_⟩
  intro D hD
  cases hq : lc2N g t w1 g1 t1 e (wipeD σd vs) vs1 S1.length ds (S1 ++ [.lst []]) with
  | none => rw [hq] at p1; exact p1.elim
  | some Sf =>
    rw [hq] at p1
    have p1 : Post ⟨K, hx, W⟩ (rV ⟨K, hx, W⟩) σ A1 S1 H1 Q (fin S1.length Sf) := p1
    obtain ⟨Rb, Tb⟩ := Rel.alloc (c := .lst []) (o := .lst []) R1 hD ⟨[], upd_same, .nil⟩
    have hAb : (A1 ++ [some D])[S1.length]? = some (some D) := by rw [← R1.len]; simp
    have hlb : (S1 ++ [Cell.lst []]).length = S1.length + 1 := by simp
    have E1 := E.step R T1
    have Ew := (E1.step R1 Tb).wipe vs
    generalize hAe : A1 ++ [some D] = Ab at Rb Tb hAb Ew
    generalize hSe : S1 ++ [Cell.lst []] = Sb at Rb Tb hlb hq Ew
    generalize hHe : upd H1 D (.lst []) = Hb at Rb Tb Ew
    refine ⟨fun i m H => i + m = ds.length ∧ ∃ A S, Rel K A S H ∧ Stp Ab Sb Hb A S H ∧ lc2N g t w1 g1 t1 e (wipeD σd vs) vs1 S1.length (ds.drop i) S = some Sf, ⟨ds.length, Nat.zero_add _, Ab, Sb, Rb, .refl, hq⟩, ?_⟩
    rintro i m H ⟨hm, A, S, R, T, q⟩
    obtain ⟨go, stop, yld⟩ := j1 A S H R (Tb.trans T).fr
    by_cases hlt : i < ds.length
    · refine .inr ⟨go i hlt, fun H => i + 1 + (m - 1) = ds.length ∧ ∃ A S, Rel K A S H ∧ Stp Ab Sb Hb A S H ∧ lc2N g t w1 g1 t1 e (wipeD σd vs) vs1 S1.length (ds.drop (i + 1)) S = some Sf, fun H' h => ⟨m - 1, by omega, h⟩, fun x H' y => ?_⟩
      obtain ⟨d, hd, R2, T2, r2⟩ := yld i x H' hlt y
      rw [drop_cons hd] at q
      unfold lc2N at q
      cases qg : g (.d d) (wipeD σd vs) S with
      | bad => rw [qg] at q; cases q
      | exc C ns l S' => rw [qg] at q; cases q
      | ok σ2d S2 =>
        rw [qg] at q
        dsimp only at q
        refine ⟨A, S, wipeD σd vs, .d d, R2, Ew.step Rb (T.trans T2), RV.of r2, ?_⟩
        rw [qg]
        intro A2 H2 σ2 R3 T3 ⟨E3, sm⟩
        refine ⟨by rw [sm.wipe hs, wipe_wipe], ?_⟩
        cases qt : t σ2d S2 with
        | bad => rw [qt] at q; cases q
        | exc C ns l S' => rw [qt] at q; cases q
        | ok b S3 =>
          rw [qt] at q
          refine ⟨A2, S2, σ2d, R3, E3, ?_⟩
          rw [qt]
          intro A3 H3 b' R4 T4 hb
          have hb : b = b' := hb
          subst hb
          have T' := ((T.trans T2).trans T3).trans T4
          cases b with
          | false =>
            rw [if_neg Bool.false_ne_true]
            dsimp only at q
            exact ⟨by omega, A3.take (S1.length + 1), S3.take (S1.length + 1), R4.take _, stp_cell Rb T' hlb, q⟩
          | true =>
            rw [if_pos rfl]
            dsimp only at q
            cases qw : w1 σ2d S3 with
            | bad => rw [qw] at q; cases q
            | exc C ns l S' => rw [qw] at q; cases q
            | ok ds1 S4 =>
              rw [qw] at q
              dsimp only at q
              refine ⟨A3, S3, σ2d, R4, E3.step R3 T4, ?_⟩
              rw [qw]
              intro A4 H4 J1 R5 T5 k1
              have E4 := ((E3.step R3 T4).step R4 T5).wipe vs1
              have T4' := T'.trans T5
              cases qi : lcM g1 t1 e (wipeD σ2d vs1) S1.length S4.length ds1 S4 with
              | none => rw [qi] at q; cases q
              | some S5 =>
                rw [qi] at q
                dsimp only at q
                have hln : S1.length < S4.length := by
                  have a1 := T4'.le
                  rw [Rb.len, R5.len, hlb] at a1
                  omega
                refine ⟨fun j k H => j + k = ds1.length ∧ ∃ A S, Rel K A S H ∧ Stp A4 S4 H4 A S H ∧ lcM g1 t1 e (wipeD σ2d vs1) S1.length S4.length (ds1.drop j) S = some S5, ⟨ds1.length, Nat.zero_add _, A4, S4, R5, .refl, qi⟩, ?_⟩
                rintro j k H ⟨hk, A, S, R, T, q1⟩
                obtain ⟨go1, stop1, yld1⟩ := k1 A S H R T.fr
                by_cases hlt1 : j < ds1.length
                · refine .inr ⟨go1 j hlt1, fun H => j + 1 + (k - 1) = ds1.length ∧ ∃ A S, Rel K A S H ∧ Stp A4 S4 H4 A S H ∧ lcM g1 t1 e (wipeD σ2d vs1) S1.length S4.length (ds1.drop (j + 1)) S = some S5, fun H' h => ⟨k - 1, by omega, h⟩, fun x H' y => ?_⟩
                  obtain ⟨d1, hd1, R6, T6, r6⟩ := yld1 j x H' hlt1 y
                  rw [drop_cons hd1] at q1
                  unfold lcM at q1
                  cases qg1 : g1 (.d d1) (wipeD σ2d vs1) S with
                  | bad => rw [qg1] at q1; cases q1
                  | exc C ns l S' => rw [qg1] at q1; cases q1
                  | ok σ3d S6 =>
                    rw [qg1] at q1
                    dsimp only at q1
                    refine ⟨A, S, wipeD σ2d vs1, .d d1, R6, E4.step R5 (T.trans T6), RV.of r6, ?_⟩
                    rw [qg1]
                    intro A7 H7 σ3 R7 T7 ⟨E7, sm7⟩
                    refine ⟨by rw [sm7.wipe hs1, wipe_wipe], ?_⟩
                    cases qt1 : t1 σ3d S6 with
                    | bad => rw [qt1] at q1; cases q1
                    | exc C ns l S' => rw [qt1] at q1; cases q1
                    | ok b1 S8 =>
                      rw [qt1] at q1
                      refine ⟨A7, S6, σ3d, R7, E7, ?_⟩
                      rw [qt1]
                      intro A8 H8 b1' R8 T8 hb1
                      have hb1 : b1 = b1' := hb1
                      subst hb1
                      have U := ((T.trans T6).trans T7).trans T8
                      cases b1 with
                      | false =>
                        rw [if_neg Bool.false_ne_true]
                        dsimp only at q1
                        exact ⟨by omega, A8.take S4.length, S8.take S4.length, R8.take _, stp_cell R5 U rfl, q1⟩
                      | true =>
                        rw [if_pos rfl]
                        dsimp only at q1
                        cases qe : e σ3d S8 with
                        | bad => rw [qe] at q1; cases q1
                        | exc C ns l S' => rw [qe] at q1; cases q1
                        | ok w9 S9 =>
                          rw [qe] at q1
                          dsimp only at q1
                          refine ⟨A8, S8, σ3d, R8, E7.step R7 T8, ?_⟩
                          rw [qe]
                          intro A9 H9 y9 R9 T9 r9
                          cases qf : fz1 S9 w9 with
                          | bad => rw [qf] at q1; cases q1
                          | exc C ns l S' => rw [qf] at q1; cases q1
                          | ok yd S10 =>
                            rw [qf] at q1
                            dsimp only at q1
                            obtain ⟨R10, T10, r10⟩ := fz1_ok R9 r9 qf
                            have U' := (U.trans T9).trans T10
                            have hA9 := U'.ext _ _ (T4'.ext _ _ hAb)
                            obtain ⟨cl, u, hcl, hu, ok⟩ := R10.known hA9
                            rw [hcl] at q1
                            cases cl with
                            | lst acc =>
                              obtain ⟨us, h1, h2⟩ := ok
                              unfold addM at q1
                              dsimp only at q1
                              by_cases hz : acc.length < lim
                              · rw [if_pos hz] at q1
                                dsimp only at q1
                                obtain ⟨R11, T11⟩ := R10.putL hA9 hcl (h2.append (.one r10))
                                exact ⟨us, h1, by rw [← h2.len]; exact lim_lt hz, by omega, A9.take S4.length, _, R11.take _, stp_cell R5 (U'.trans T11) rfl, q1⟩
                              · rw [if_neg hz] at q1; cases q1
                            | _ => cases q1
                · have ej : j = ds1.length := by omega
                  subst ej
                  rw [List.drop_length] at q1
                  cases q1
                  exact .inl ⟨stop1, by omega, A.take (S1.length + 1), _, R.take _, stp_cell Rb (T4'.trans T) hlb, q⟩
    · have e : i = ds.length := by omega
      subst e
      rw [List.drop_length] at q
      cases q
      exact .inl ⟨stop, fo ⟨K, hx, W⟩ σ A1 A S1 _ H1 H D Q R1 R (Tb.trans T) (T.ext _ _ hAb) p1⟩
end
section
variable {X : Cx} {hx : Hx} {elt tg iter tg1 iter1 : Expr} {ifs ifs1 : List Expr} {scope : Scope} {own : List (Str × Nat)} {pos : Pos} {w w1 : IM} {g g1 : GM} {t t1 : TM} {e : EM} {is is1 vs1 : List Nat} {fin : Nat → Store → Res Wt}
theorem d_lc2G (fo : FinOk fin) (hc : X.calm = true) (hN : X.N.Nodup) (own : List (Str × Nat)) (vs1 : List Nat) (hi : DI X hx tg iter w) (ok : BlkOk X.N X.env.scope scope own) (hv : ∀ i ∈ vs1, i ∈ own.map (·.2)) (hs' : ∀ i ∈ is, i ∈ own.map (·.2)) (hs1' : ∀ i ∈ is1, i ∈ vs1)
    (hg : ∀ (s : Shared) (H : Hp) (C : Addr) (cl : List (Str × Addr)) (fp : List Addr), DG (X.blk s H scope (compEnvC scope cl C X.env) fp) hx tg is g)
    (ht : ∀ (s : Shared) (H : Hp) (C : Addr) (cl : List (Str × Addr)) (fp : List Addr), DTs (X.blk s H scope (compEnvC scope cl C X.env) fp) hx ifs t)
    (hi1 : ∀ (s : Shared) (H : Hp) (C : Addr) (cl : List (Str × Addr)) (fp : List Addr), DI (X.blk s H scope (compEnvC scope cl C X.env) fp) hx tg1 iter1 w1)
    (hg1 : ∀ (s : Shared) (H : Hp) (C : Addr) (cl : List (Str × Addr)) (fp : List Addr), DG (X.blk s H scope (compEnvC scope cl C X.env) fp) hx tg1 is1 g1)
    (ht1 : ∀ (s : Shared) (H : Hp) (C : Addr) (cl : List (Str × Addr)) (fp : List Addr), DTs (X.blk s H scope (compEnvC scope cl C X.env) fp) hx ifs1 t1)
    (he : ∀ (s : Shared) (H : Hp) (C : Addr) (cl : List (Str × Addr)) (fp : List Addr), DE (X.blk s H scope (compEnvC scope cl C X.env) fp) hx elt e) (hs : ∀ x, foldedSetIterable iter X.env x = pure x := by intro _; rfl) (hs1 : ∀ env x, foldedSetIterable iter1 env x = pure x := by intro _ _; rfl) :
    DE X hx (.ListComp elt [⟨tg, iter, ifs, 0⟩, ⟨tg1, iter1, ifs1, 0⟩] scope pos) (eLc2G fin w g t w1 g1 t1 e (own.map (·.2)) vs1) :=
  ⟨fun W tk => PEimp (pe_lc2 hc hN (hi.run W tk) ok hv (fun s H C cl fp => (hg s H C cl fp).run _ takes_no) (fun s H C cl fp => (ht s H C cl fp).run _ takes_no) (fun s H C cl fp => (hi1 s H C cl fp).run _ takes_no) (fun s H C cl fp => (hg1 s H C cl fp).run _ takes_no) (fun s H C cl fp => (ht1 s H C cl fp).run _ takes_no) (fun s H C cl fp => (he s H C cl fp).run _ takes_no) hs hs1) fun σ H Q h => lc2_of fo hs' hs1' h⟩
theorem ds_setLc2G {i : Nat} {y : Str} {py spos : Pos} (fo : FinOk fin) (hc : X.calm = true) (hN : X.N.Nodup) (own : List (Str × Nat)) (vs1 : List Nat) (hi : DI X hx tg iter w) (ok : BlkOk X.N X.env.scope scope own) (hv : ∀ i ∈ vs1, i ∈ own.map (·.2)) (hs' : ∀ i ∈ is, i ∈ own.map (·.2)) (hs1' : ∀ i ∈ is1, i ∈ vs1)
    (hg : ∀ (s : Shared) (H : Hp) (C : Addr) (cl : List (Str × Addr)) (fp : List Addr), DG (X.blk s H scope (compEnvC scope cl C X.env) fp) hx tg is g)
    (ht : ∀ (s : Shared) (H : Hp) (C : Addr) (cl : List (Str × Addr)) (fp : List Addr), DTs (X.blk s H scope (compEnvC scope cl C X.env) fp) hx ifs t)
    (hi1 : ∀ (s : Shared) (H : Hp) (C : Addr) (cl : List (Str × Addr)) (fp : List Addr), DI (X.blk s H scope (compEnvC scope cl C X.env) fp) hx tg1 iter1 w1)
    (hg1 : ∀ (s : Shared) (H : Hp) (C : Addr) (cl : List (Str × Addr)) (fp : List Addr), DG (X.blk s H scope (compEnvC scope cl C X.env) fp) hx tg1 is1 g1)
    (ht1 : ∀ (s : Shared) (H : Hp) (C : Addr) (cl : List (Str × Addr)) (fp : List Addr), DTs (X.blk s H scope (compEnvC scope cl C X.env) fp) hx ifs1 t1)
    (he : ∀ (s : Shared) (H : Hp) (C : Addr) (cl : List (Str × Addr)) (fp : List Addr), DE (X.blk s H scope (compEnvC scope cl C X.env) fp) hx elt e)
    (hy : X.N[i]? = some y := by rfl) (hyl : X.env.scope.names.lookup y = some .local := by rfl)
    (hsw : swapsWith (.ListComp elt [⟨tg, iter, ifs, 0⟩, ⟨tg1, iter1, ifs1, 0⟩] scope pos) (some (.Name y py)) spos.line X.env = pure true := by first | exact sw_true rfl rfl rfl rfl) (hs : ∀ x, foldedSetIterable iter X.env x = pure x := by intro _; rfl) (hs1 : ∀ env x, foldedSetIterable iter1 env x = pure x := by intro _ _; rfl) :
    DS X hx (.Assign [.Name y py] (.ListComp elt [⟨tg, iter, ifs, 0⟩, ⟨tg1, iter1, ifs1, 0⟩] scope pos) spos) (sSet i (eLc2G fin w g t w1 g1 t1 e (own.map (·.2)) vs1)) :=
  ⟨fun W tk => PSimp (ps_setLc2 hc hN hy hyl hsw (hi.run W tk) ok hv (fun s H C cl fp => (hg s H C cl fp).run _ takes_no) (fun s H C cl fp => (ht s H C cl fp).run _ takes_no) (fun s H C cl fp => (hi1 s H C cl fp).run _ takes_no) (fun s H C cl fp => (hg1 s H C cl fp).run _ takes_no) (fun s H C cl fp => (ht1 s H C cl fp).run _ takes_no) (fun s H C cl fp => (he s H C cl fp).run _ takes_no) hs hs1) fun σ H D ⟨b0, A0, S0, H0, A, S, σd, R0, T, R, E, p⟩ =>
    lc2_of (W := W) fo hs' hs1' ⟨A, S, σd, R, E, (Post.ofS (R1 := rV _) R T E p).mono fun v H1 ⟨A1, S1, d, R1, T1, E1, r1, p1⟩ => p1 A1 H1 _ R1 T1 (E1.set r1)⟩⟩
end
end Y
end
section
/-! Y19: own exceptions with an __init__ that keeps what it is given: raise. -/
namespace Y
open PySem PySem.Spec PyProof.Rows L2

/-- what the top says of such a class -/
def oexB (K : PySem.W.Frag) (C : Addr) : Bool := (match K.lookup C with
  | some ⟨.type "type", _, .cls cd, sl⟩ => (match cd.mro, sl.toList with
    | .ref C' :: bm, [_, _, _, _, some (.builtin n), _] => decide (C' = C) && (decide (n = "ValueError.__new__") && (!cd.hasDel && (cd.hasDict && PySem.HandSPX.refsVE bm)))
    | _, _ => false)
  | _ => false) && (decide (PySem.W.findIn K (.ref C) "__setattr__" = some (some (.builtin "object.__setattr__"))) && (decide (PySem.W.subIn K (.ref C) (.type "BaseException") = some true) &&
    (decide (PySem.W.typeIn K (.ref C) = some (.type "type")) && PySem.W.keepIn K (.ref C))))
theorem oexB_ok {K : PySem.W.Frag} {C : Addr} (h : oexB K C = true) : OexC K C := by
  unfold oexB at h
  simp only [Bool.and_eq_true, decide_eq_true_eq] at h
  obtain ⟨h0, h1, h2, h3, h4⟩ := h
  refine ⟨?_, h1, h2, h3, h4⟩
  split at h0
  · rename_i dd cd sl ho
    split at h0
    · rename_i C' bm k0 k1 k2 k3 n k5 hm hs
      simp only [Bool.and_eq_true, decide_eq_true_eq, Bool.not_eq_true'] at h0
      obtain ⟨rfl, rfl, hdel, hdict, ht⟩ := h0
      obtain ⟨nm, bs, mro, ns, qn, hd, sn, sub, ab, col, del⟩ := cd
      dsimp only at hm hdel hdict
      subst hm hdel hdict
      have hsl : sl = #[k0, k1, k2, k3, some (.builtin "ValueError.__new__"), k5] := by
        obtain ⟨l⟩ := sl
        simp only at hs
        rw [hs]
      subst hsl
      exact ⟨nm, qn, ns, bs, bm, sn, sub, ab, col, dd, k0, k1, k2, k3, k5, ho, ht⟩
    · cases h0
  · cases h0
end Y
end
section
/-! Y20: list(range(..)), tuple(range(..)), methods of texts and lists. -/
namespace Y
open PySem PySem.Spec PyProof.Rows L2
section
variable {X : Cx} {hx : Hx}
/-! ### ranges as arguments -/
def rgOk (i j : Int) : Bool := decide (-(2 ^ 62) ≤ i ∧ i < 2 ^ 62 ∧ -(2 ^ 62) ≤ j ∧ j < 2 ^ 62 ∧ (j - i).toNat ≤ 16777216)
theorem rgOk_ok {i j : Int} (h : rgOk i j = true) : RgOk i j := by
  unfold rgOk at h
  have := of_decide_eq_true h
  exact ⟨this.1, this.2.1, this.2.2.1, this.2.2.2.1, by have := this.2.2.2.2; omega⟩
def rgS (i j : Int) (k : List D → Store → Res Wt) (S : Store) : Res Wt := if rgOk i j = true then k (rng i (j - i).toNat) S else .bad
def rgB (i : Int) (k : List D → Store → Res Wt) (w : Wt) (S : Store) : Res Wt := match w with
  | .d (.int j) => rgS i j k S
  | _ => .bad
def rgA (fb : EM) (σd : Ev) (k : List D → Store → Res Wt) (v : Wt) (S : Store) : Res Wt := match v with
  | .d (.int i) => (fb σd S).bind fun w S2 => rgB i k w S2
  | _ => .bad
def eRgK (k : List D → Store → Res Wt) (fa fb : EM) : EM := fun σd S => (fa σd S).bind fun v S1 => rgA fb σd k v S1
def eRgK1 (k : List D → Store → Res Wt) (fa : EM) : EM := fun σd S => (fa σd S).bind fun v S1 => rgB 0 k v S1
def kLst : List D → Store → Res Wt := fun l S => .ok (.d (.lst l)) S
def kLstL : List D → Store → Res Wt := fun l S => .ok (.loc S.length) (S ++ [.lst l])
def kTup : List D → Store → Res Wt := fun l S => .ok (.d (.tup l)) S
theorem rps_rng {K : PySem.W.Frag} {lv : Addr → Prop} {H : Hp} {i : Int} {j : Int} : RPs K lv H (rng i (j - i).toNat) (rgV i j) := by
  unfold rng rgV
  generalize (List.range (j - i).toNat) = l
  induction l with
  | nil => exact .nil
  | cons a l ih => exact .cons (.int _) ih
def RgK (o : List V → HO) (k : List D → Store → Res Wt) : Prop := ∀ {c : Cn} {σ : L2.St} {A : Ads} {S : Store} {H : Hp} {Q : VK} {l : List D} {vs : List V} {p : Addr}, Post c (rV c) σ A S H Q (k l S) → Rel c.K A S H → RPs c.K (Live A S) H l vs → H p = none → Q (.ref p) (upd H p (o vs))
theorem k_lst : RgK .lst kLst := fun q R r h => Post.lst q R r h
theorem k_lstL : RgK .lst kLstL := fun q R r h => Post.alloc q R r h
theorem k_tup : RgK .tup kTup := fun q R r h => Post.tup q R r h
theorem rgB_ok {o : List V → HO} {k : List D → Store → Res Wt} (ok : RgK o k) {c : Cn} {σ : L2.St} {A : Ads} {S : Store} {H : Hp} {Q : VK} {i : Int} {w : Wt} {y : V} (R : Rel c.K A S H) (r : rV c A S H w y) (p : Post c (rV c) σ A S H Q (rgB i k w S)) :
    ∃ j, y = .int j ∧ RgOk i j ∧ ∀ q, H q = none → Q (.ref q) (upd H q (o (rgV i j))) := by
  unfold rgB at p
  split at p
  · rename_i j
    obtain rfl := rv_int r
    obtain ⟨hz, p⟩ := Post.iteP p
    exact ⟨j, rfl, rgOk_ok hz, fun q hq => ok p R rps_rng hq⟩
  · exact p.elim
theorem rg1_of {o : List V → HO} {k : List D → Store → Res Wt} (ok : RgK o k) {c : Cn} {fa : EM} {σ : L2.St} {H : Hp} {Q : VK} (h : tE c (eRgK1 k fa) σ H Q) :
    tRg1 (tE c fa) σ H fun a b H1 => RgOk a b ∧ ∀ q, H1 q = none → Q (.ref q) (upd H1 q (o (rgV a b))) := by
  obtain ⟨A, S, σd, R, E, p⟩ := h
  refine ⟨A, S, σd, R, E, (Post.bind (R1 := rV _) p).mono fun v H1 ⟨A1, S1, d, R1, T1, r1, p1⟩ => ?_⟩
  obtain ⟨j, rfl, h1, h2⟩ := rgB_ok ok R1 r1 p1
  exact ⟨j, rfl, h1, h2⟩
theorem rg2_of {o : List V → HO} {k : List D → Store → Res Wt} (ok : RgK o k) {c : Cn} {fa fb : EM} {σ : L2.St} {H : Hp} {Q : VK} (h : tE c (eRgK k fa fb) σ H Q) :
    tRg2 (tE c fa) (tE c fb) σ H fun a b H1 => RgOk a b ∧ ∀ q, H1 q = none → Q (.ref q) (upd H1 q (o (rgV a b))) := by
  obtain ⟨A, S, σd, R, E, p⟩ := h
  refine ⟨A, S, σd, R, E, (Post.bind (R1 := rV _) p).mono fun v H1 ⟨A1, S1, d, R1, T1, r1, p1⟩ => ?_⟩
  unfold rgA at p1
  split at p1
  · rename_i i
    obtain rfl := rv_int r1
    refine ⟨A1, S1, σd, R1, E.step R T1, (Post.bind (R1 := rV _) p1).mono fun w H2 ⟨A2, S2, d2, R2, T2, r2, p2⟩ => ?_⟩
    obtain ⟨j, rfl, h1, h2⟩ := rgB_ok ok R2 r2 p2
    exact ⟨i, j, rfl, rfl, h1, h2⟩
  · exact p1.elim
variable {a b : Expr} {fa fb : EM} {k : List D → Store → Res Wt} {p p2 pos pos2 : Pos}
theorem d_listRg2 (ok : RgK .lst k) (hc : X.calm = true) (hl : X.mg "list" = none) (hm : X.mg "range" = none) (ha : DE X hx a fa) (hb : DE X hx b fb) (hgl : Gl X "list" := by rfl) (hg : Gl X "range" := by rfl)
    (na : starEach [a, b] X.env = (false, eval a X.env) :: starEach [b] X.env := by rfl) (nb : starEach [b] X.env = (false, eval b X.env) :: starEach [] X.env := by rfl) (hp : (backTo pos2 (starEach [b] X.env)).any (·.1) = false := by rfl)
    (ne : starEach [.Call (.Name "range" p2) [a, b] [] pos2] X.env = (false, eval (.Call (.Name "range" p2) [a, b] [] pos2) X.env) :: starEach [] X.env := by rfl) :
    DE X hx (.Call (.Name "list" p) [.Call (.Name "range" p2) [a, b] [] pos2] [] pos) (eRgK k fa fb) :=
  ⟨fun W tk => PEimp (pe_listRg hc hgl hl (prg_2 hg hm (ha.run W tk) (hb.run W tk) na nb hp) ne) fun σ H Q h => rg2_of (c := ⟨X.K, hx, W⟩) ok h⟩
theorem d_listRg1 (ok : RgK .lst k) (hc : X.calm = true) (hl : X.mg "list" = none) (hm : X.mg "range" = none) (ha : DE X hx a fa) (hgl : Gl X "list" := by rfl) (hg : Gl X "range" := by rfl)
    (na : starEach [a] X.env = (false, eval a X.env) :: starEach [] X.env := by rfl)
    (ne : starEach [.Call (.Name "range" p2) [a] [] pos2] X.env = (false, eval (.Call (.Name "range" p2) [a] [] pos2) X.env) :: starEach [] X.env := by rfl) :
    DE X hx (.Call (.Name "list" p) [.Call (.Name "range" p2) [a] [] pos2] [] pos) (eRgK1 k fa) :=
  ⟨fun W tk => PEimp (pe_listRg hc hgl hl (prg_1 hg hm (ha.run W tk) na) ne) fun σ H Q h => rg1_of (c := ⟨X.K, hx, W⟩) ok h⟩
theorem d_tupRg2 (hc : X.calm = true) (hl : X.mg "tuple" = none) (hm : X.mg "range" = none) (ha : DE X hx a fa) (hb : DE X hx b fb) (hgl : Gl X "tuple" := by rfl) (hg : Gl X "range" := by rfl)
    (na : starEach [a, b] X.env = (false, eval a X.env) :: starEach [b] X.env := by rfl) (nb : starEach [b] X.env = (false, eval b X.env) :: starEach [] X.env := by rfl) (hp : (backTo pos2 (starEach [b] X.env)).any (·.1) = false := by rfl)
    (ne : starEach [.Call (.Name "range" p2) [a, b] [] pos2] X.env = (false, eval (.Call (.Name "range" p2) [a, b] [] pos2) X.env) :: starEach [] X.env := by rfl) :
    DE X hx (.Call (.Name "tuple" p) [.Call (.Name "range" p2) [a, b] [] pos2] [] pos) (eRgK kTup fa fb) :=
  ⟨fun W tk => PEimp (pe_tupRg hc hgl hl (prg_2 hg hm (ha.run W tk) (hb.run W tk) na nb hp) ne) fun σ H Q h => rg2_of (c := ⟨X.K, hx, W⟩) k_tup h⟩
theorem d_tupRg1 (hc : X.calm = true) (hl : X.mg "tuple" = none) (hm : X.mg "range" = none) (ha : DE X hx a fa) (hgl : Gl X "tuple" := by rfl) (hg : Gl X "range" := by rfl)
    (na : starEach [a] X.env = (false, eval a X.env) :: starEach [] X.env := by rfl)
    (ne : starEach [.Call (.Name "range" p2) [a] [] pos2] X.env = (false, eval (.Call (.Name "range" p2) [a] [] pos2) X.env) :: starEach [] X.env := by rfl) :
    DE X hx (.Call (.Name "tuple" p) [.Call (.Name "range" p2) [a] [] pos2] [] pos) (eRgK1 kTup fa) :=
  ⟨fun W tk => PEimp (pe_tupRg hc hgl hl (prg_1 hg hm (ha.run W tk) na) ne) fun σ H Q h => rg1_of (c := ⟨X.K, hx, W⟩) k_tup h⟩
/-! ### list.index (whole numbers, texts, truths, None) -/
def isIx (o : Option Nat) (S : Store) : Res Wt := match o with
  | some j => .ok (.d (.int j)) S
  | none => .bad
def idxOf (x : D) : List D → Option Nat
  | [] => none
  | y :: l => if deq y x then some 0 else (idxOf x l).map (· + 1)
def mIndex (o : Wt) (ds : List Wt) (S : Store) : Res Wt := match ds with
  | [d] => match deref S o, deref S d with
    | some (.lst l), some x => if (x.flat && l.all D.flat) = true then isIx (idxOf x l) S else .bad
    | _, _ => .bad
  | _ => .bad
theorem idxOf_some {x : D} : ∀ {l : List D} {j : Nat}, idxOf x l = some j → ∃ z, l[j]? = some z ∧ deq z x = true ∧ ∀ (m : Nat) (z' : D), m < j → l[m]? = some z' → deq z' x = false
  | [], _, h => by cases h
  | y :: l, j, h => by
    unfold idxOf at h
    by_cases e : deq y x = true
    · rw [if_pos e] at h
      cases h
      exact ⟨y, rfl, e, fun m z' hm => absurd hm (Nat.not_lt_zero _)⟩
    · rw [if_neg e] at h
      cases q : idxOf x l with
      | none => rw [q] at h; cases h
      | some i =>
        rw [q] at h
        cases h
        obtain ⟨z, h1, h2, h3⟩ := idxOf_some q
        refine ⟨z, h1, h2, fun m z' hm hz => ?_⟩
        cases m with
        | zero => cases hz; exact Bool.eq_false_iff.mpr e
        | succ m => exact h3 m z' (by have hm : m + 1 < i + 1 := hm; omega) hz
theorem met_index : MetD X hx "list.index" mIndex := by
  intro W pins s σ H x xs v us Q I r rs h
  obtain ⟨A, S, σ', d, ds, R, rd, rds, p⟩ := h
  match ds, rds, p with
  | [], _, p => exact p.elim
  | _ :: _ :: _, _, p => exact p.elim
  | [y], rds, p =>
    obtain ⟨w, rfl, ry⟩ := rvs1 rds
    unfold mIndex at p
    dsimp only at p
    split at p
    · rename_i l x' e1 e2
      obtain ⟨hz, p2⟩ := Post.iteP p
      rw [Bool.and_eq_true] at hz
      obtain ⟨b, vs, rfl, hq, g⟩ := (readAs R rd e1).lst
      have q1 := readAs R ry e2
      cases e : idxOf x' l with
      | none => rw [e] at p2; exact p2.elim
      | some j =>
        rw [e] at p2
        obtain ⟨z, h1, h2, h3⟩ := idxOf_some e
        obtain ⟨fx, fy⟩ := flat_ok q1 hz.1
        have fl := fun {z : D} {m : Nat} (h : l[m]? = some z) => List.all_eq_true.mp hz.2 z (List.mem_of_getElem? h)
        obtain ⟨u, hu, ru⟩ := g.get h1
        refine mt_index pins s σ H _ _ v us Q I r rs ⟨b, vs, w, j, u, rfl, rfl, SqL.of hq, fx, (flats_ok q1 hz.1 g hz.2).1, hu, ?_, ?_, p2.hereV R (.int _)⟩
        · rw [fy _ _ (.inl ru) (fl h1)]; exact h2
        · intro m z' hm hz'
          obtain ⟨d', hd', rd'⟩ := g.get' hz'
          rw [fy _ _ (.inl rd') (fl hd')]
          exact h3 m d' hm hd'
    · exact p.elim
variable {o e : Expr} {fo fe : EM} {apos cpos : Pos}
theorem d_index (ho : DE X hx o fo) (he : DE X hx e fe) (hbase : attributeBase o "index" X.env (eval o X.env) = eval o X.env := by rfl)
    (hfew : ((backTo cpos (starEach [e] X.env)).all (fun x => !x.1) && (backToKw cpos (keywordEach [] X.env)).all (fun x => x.1.isSome)
      && decide ([e].length + ([] : List Keyword).length + (if ([] : List Keyword).isEmpty then 0 else 1) < 30)) = true := by rfl)
    (hline : (apos.endLine == cpos.line) = true := by rfl) (hs : starEach [e] X.env = (false, eval e X.env) :: starEach [] X.env := by rfl) (hplain : (backTo cpos (starEach [] X.env)).any (·.1) = false := by rfl) :
    DE X hx (.Call (.Attribute o "index" apos) [e] [] cpos) (eM isLst mIndex fo (aCons fe aNil)) :=
  d_m ty_lst F.plainAttrs_list F.slot_list_index F.type_list_index met_index ho (da_cons he da_nil hs) hbase hfew hline hs hplain
end
end Y
end
section
/-! Y21: exceptions held as values. -/
namespace Y
open PySem PySem.Spec PyProof.Rows L2
theorem exv_ok {P : Program} {w : World} {H : Hp} {h : Heap} {a C : Addr} {d : Option Addr} {oe : Obj} {vs : Array Value} (h1 : h.get? a = some oe) (h2 : Zc (.ref C) d oe) (h3 : oe.data = .fields vs) : ObjOk P w H h a (exv a C d) :=
  ⟨⟨oe, vs, h1, h2, h3⟩, ⟨oe, h1⟩, fun h1 h2 ⟨o, v, q1, q2, q3⟩ k => ⟨o, v, k _ q1, q2, q3⟩⟩
theorem exv_at {P : Program} {w : World} {H : Hp} {h : Heap} {a C : Addr} {d : Option Addr} (hok : HOk P w H h) (he : H a = some (exv a C d)) : ∃ (oe : Obj) (vs : Array Value), h.get? a = some oe ∧ Zc (.ref C) d oe ∧ oe.data = .fields vs := by
  have x : ObjOk P w H h a (.ext fun h => ∃ (oe : Obj) (vs : Array Value), h.get? a = some oe ∧ Zc (.ref C) d oe ∧ oe.data = .fields vs) := hok a _ he
  exact x.1
def tMkV (t : L2.St → Hp → XK → Prop) : TE := fun σ H Q => t σ H fun cls d H' => ∃ C, cls = .ref C ∧ ∀ a, H' a = none → Q (.ref a) (upd H' a (exv a C d))
theorem pe_mkv {X : Cx} {e : Expr} {t : L2.St → Hp → XK → Prop} (h : L2.PMk X e t) : PE X e (tMkV t) := by
  refine ⟨fun pins s σ H Q I hh => thn (h pins s σ H _ I hh) fun u s' ⟨a, oe, vs, sI, H', cls, d, eu, J, k, hne, ha, hz, hd, h1, na, os, ag, r, C, ec, q⟩ => ?_⟩
  subst eu ec
  obtain ⟨hp, g, dr, tk, o1⟩ := sI
  obtain ⟨h2, g2, d2, t2, o2⟩ := s'
  have ne : ∀ {b : Addr} {o : Obj}, hp.get? b = some o → b ≠ a := fun {b o} z e => by
    subst e
    rw [hne] at z
    cases z
  have un : Un (frs X.stack) [] H' (upd H' a (exv a C d)) hp h2 := {
    keep := fun b o z _ _ _ => k b o z
    slot := fun b o z _ _ _ => ⟨o.slots, k b o z⟩
    free := fun b o z n _ => by rw [upd_ne (ne z)]; exact n
    there := fun b o z _ => ⟨o, k b o z⟩
    tups := fun b xs z => by rw [upd_ne (ne_of_none z na)]; exact z
    frzs := fun b o u z => by rw [upd_ne (ne_of_none z na)]; exact z
    tbls := fun b ps z => ⟨#[], by rw [upd_ne (ne_of_none z na), z]; simp⟩ }
  have hok : HOk X.prog X.w (upd H' a (exv a C d)) h2 := fun b o z => by
    by_cases hb : b = a
    · subst hb
      rw [upd_same] at z
      cases z
      exact exv_ok ha hz hd
    · rw [upd_ne hb] at z
      exact (J.hok b o z).stay (fun c v _ y => k c v y) (fun c hc => by rw [upd_ne (ne_of_none hc na)]; exact hc) (fun c xs hc => by rw [upd_ne (ne_of_none hc na)]; exact hc)
  exact ⟨.ref a, _, J.call' (ch := []) os un hok ag (fun b z => absurd z (by simp)), rfl, q a na⟩
end Y
end
section
/-! Y22: e.f of an exception held as a value. -/
namespace Y
open PySem PySem.Spec PyProof.Rows L2
/-- the reading: the value's field f -/
def tXv (K : PySem.W.Frag) (f : Str) (te : TE) : TE := fun σ H Q => te σ H fun x H1 => ∃ (a C dd : Addr) (fs : List (Str × V)) (v : V), x = .ref a ∧ H1 a = some (exv a C (some dd)) ∧ XfC K C ∧ PySem.W.findIn K (.ref C) f = some none ∧ H1 dd = some (.xd fs) ∧ fs.lookup f = some v ∧ Q v H1
theorem pe_xv {X : Cx} {e : Expr} {te : TE} {pos : Pos} {n : Str} (he : PE X e te) (hb : attributeBase e n X.env (eval e X.env) = eval e X.env := by rfl) : PE X (.Attribute e n pos) (tXv X.K n te) := by
  refine ⟨fun pins s σ H Q I h => ?_⟩
  refine attr_of hb (thn (he.run pins s σ H _ I h) fun u s1 hh => ?_)
  obtain ⟨x, H1, I1, rx, a, C, dd, fs, v, ex, ea, T, hno, ed, l, q⟩ := hh
  subst ex
  obtain rfl : u = Value.ref a := rx
  obtain ⟨oe, vs, ha, hz, hd⟩ := exv_at I1.hok ea
  have hx : ObjOk X.prog X.w H1 s1.heap dd (.xd fs) := I1.hok dd _ ed
  obtain ⟨mA, hns, hr⟩ := hx
  obtain ⟨od, ho, hl⟩ := lookIn_ns hns
  obtain ⟨u, hu, ru⟩ := RelO.some_of (v := v) (o := mA n) (by rw [← l]; exact hr n)
  have J : PySem.W.InstAt s1.heap a oe C (some od) := by
    refine ⟨ha, hz.1, ?_, ?_⟩
    · unfold PySem.W.notCls
      rw [hd] <;> rfl
    · rw [hz.2]
      exact ho
  have fo := PySem.W.findObj_own T.hdC hno rfl (by rw [hl, hu])
  exact HandSPX.exc_get I1.kIn J T.ga T.gg T.exC fo (handed_of ru) ⟨v, H1, I1.tok _, ru, q⟩
def zipL (n : Str) : List Str → List D → Option D
  | x :: xs, y :: ys => if x = n then some y else zipL n xs ys
  | _, _ => none
theorem zipL_ok {K : PySem.W.Frag} {lv : Addr → Prop} {H : Hp} {n : Str} {y : D} : ∀ {ns : List Str} {l : List D} {vs : List V}, RPs K lv H l vs → zipL n ns l = some y → ∃ v, (ns.zip vs).lookup n = some v ∧ RP K lv H y v
  | [], _, _, _, e => by cases e
  | x :: xs, [], _, _, e => by cases e
  | x :: xs, d :: l, _, .cons r t, e => by
    unfold zipL at e
    rw [List.zip_cons_cons, lookup_put]
    by_cases h : x = n
    · rw [if_pos h] at e
      cases e
      exact ⟨_, by rw [if_pos h.symm], r⟩
    · rw [if_neg h] at e
      obtain ⟨v, h1, h2⟩ := zipL_ok t e
      exact ⟨v, by rw [if_neg (Ne.symm h)]; exact h1, h2⟩
def optD (S : Store) : Option D → Res Wt
  | some y => .ok (.d y) S
  | none => .bad
def xfD (Cs : List Str) (n : Str) (w : Wt) (S : Store) : Res Wt := match w with
  | .d (.exo C ns l) => if C ∈ Cs then optD S (zipL n ns l) else .bad
  | _ => .bad
def eXf (Cs : List Str) (n : Str) (f : EM) : EM := fun σd S => (f σd S).bind fun w S1 => xfD Cs n w S1
theorem d_xv {X : Cx} {hx : Hx} {e : Expr} {f : EM} {pos : Pos} {n : Str} (Cs : List Str) (hC : ∀ C ∈ Cs, XfC X.K (He.ga X.K C) ∧ PySem.W.findIn X.K (.ref (He.ga X.K C)) n = some none) (he : DE X hx e f) (hb : attributeBase e n X.env (eval e X.env) = eval e X.env := by rfl) :
    DE X hx (.Attribute e n pos) (eXf Cs n f) :=
  ⟨fun W tk => PEimp (pe_xv (he.run W tk) hb) fun σ H Q ⟨A, S, σd, R, E, p⟩ => ⟨A, S, σd, R, E, (Post.bind (R1 := rV _) p).mono fun v H1 ⟨A1, S1, d, R1, T1, r1, p1⟩ => by
    unfold xfD at p1
    split at p1
    · rename_i C ns l
      obtain ⟨hm, p1⟩ := Post.iteP p1
      obtain ⟨c1, c2⟩ := hC C hm
      cases q : zipL n ns l with
      | none => rw [q] at p1; exact p1.elim
      | some y =>
        rw [q] at p1
        have r1 : RP X.K (Live A1 S1) H1 (.exo C ns l) v := r1
        cases r1 with
        | exo h0 h1 h2 h3 h4 h5 =>
          obtain ⟨v, l1, l2⟩ := zipL_ok h5 q
          exact ⟨_, _, _, _, v, rfl, h1, c1, c2, h3, l1, p1.hereV R1 l2⟩
        | exo0 h0 h1 => cases q
    · exact p1.elim⟩⟩
end Y
end
section
/-! Y23: isinstance of an exception held as a value. -/
namespace Y
open PySem PySem.Spec PySem.Calls PyProof.Rows L2 PySem.W
section
variable {prog : Program} {w : World} {A : Around} {E : Value → Shared → Prop} {s : Shared} {K : Frag} {x D : Addr} {ox : Obj} {od : Option Obj}
theorem xv_find {a g : Value} {C : Addr} {name : Str} (hc : (clsIn K C).isSome = true) (ha : findIn K (.ref C) name = some (some a)) (hg : specialIn K a "__get__" = some (some g)) (ht : takesIn K a = some true) : findObj K C od name = some (.bind g a) := by
  obtain ⟨cd, hc⟩ := Option.isSome_iff_exists.mp hc
  unfold findObj
  rw [hc, Option.bind_some, ha, Option.bind_some]
  simp [hg, ht]
theorem xv_class {Q : Option Value → Shared → Prop} (c : ExcC K D) (X : K.In s.heap) (I : InstAt s.heap x ox D od) (h : Q (some (.ref D)) { s with toks := s.toks + 1 }) : wpAny (model prog w) A (getAttr? (.ref x) "__class__") Q E s := by
  obtain ⟨cd, hcd, _⟩ := any_some c.hd
  have hf : findObj K D od "__class__" = some (.bind (.builtin "getset_descriptor.__get__") (.builtin "object.__class__")) := xv_find (by rw [hcd]; rfl) c.ha c.hn c.ht
  obtain ⟨hp, g, d, t, os⟩ := s
  have T0 := I.type (M := model prog w)
  have T1 := looks_findIn (M := model prog w) X c.hg
  have T2 := looks_findIn (M := model prog w) X c.hk
  have T3 := looks_find (M := model prog w) X I hf
  have sb : Looks (model prog w) hp (isInstance (.ref x) (.type "BaseException")) true := T0.andThen (looks_subIn X c.hs)
  have n0 : (false && onTheHeap (Value.builtin "BaseException.__getattribute__")) = false := rfl
  have n2 : (Value.builtin "BaseException.__getattribute__" == Value.builtin "object.__getattribute__") = false := by decide +kernel
  have n1 : (onTheHeap (Value.ref D) && Value.builtin "BaseException.__getattribute__" == Value.builtin "object.__getattribute__") = false := by rw [n2]; rfl
  unfold getAttr? getAttrBy? getAttrBy
  refine wpAny_bind (wpAny_mkText (wpAny_bind (wpAny_attempt (wpAny_holding (wpAny_bind (T0.at (wpAny_bind (T1.at ?_))))))))
  show wpAny _ _ (if (onTheHeap (Value.ref D) && Value.builtin "BaseException.__getattribute__" == Value.builtin "object.__getattribute__") = true then _ else _) _ _ _
  rw [n1, if_neg Bool.false_ne_true]
  unfold getAttrByItsOwn hookBefore
  refine wpAny_bind ?_
  rw [if_pos (show onTheHeap (Value.ref D) = true from rfl)]
  refine T2.at (wpAny_bind (wpAny_attempt (wpAny_holding ?_)))
  unfold callGetattribute
  rw [n0, if_neg Bool.false_ne_true]
  unfold boundAndCalled
  rw [PySem.F.excAttr_ValueError.ga.bind (.ref x)]
  refine wpAny_bind (wpAny_pure (wpAny_call (codeAny_call_builtin PySem.F.excAttr_ValueError.ga.plain PySem.F.entry_bexc_ga (@check_slot (model prog w) _ _ ⟨hp, g, d, t + 1, os⟩ "BaseException.__getattribute__" "BaseException" "__getattribute__" (.ref x) [.str "__class__" t] [] _ (by decide +kernel) (by decide +kernel) sb (PySem.F.args_bexc_ga (.ref x) (.str "__class__" t)) ?_))))
  unfold Builtin.«object.__getattribute__»
  refine wpAny_bind (wpAny_of_eq (a := ((Value.ref x : Value), [Value.str "__class__" t])) (by first | rfl | (simp only [slotArgs]; rfl)) (wpAny_bind (wpAny_pure (wpAny_bind (T0.at (wpAny_bind (T3.at ?_)))))))
  show wpAny _ _ (holding [Value.builtin "object.__class__"] (call (.builtin "getset_descriptor.__get__") [.builtin "object.__class__", .ref x, .ref D]) >>= ret) _ _ _
  refine wpAny_bind (wpAny_holding (wpAny_call (class_get (s := ⟨hp, g, d, t + 1, os⟩) (ox := ox) (od := od) X I c.hm (wpAny_pure ?_))))
  show wpAny _ _ (handedOut (.ref D)) _ _ _
  rw [handedOut_of (v := .ref D) rfl]
  first
    | exact wpAny_pure (wpAny_pure h)
    | exact wpAny_pure h
    | exact wpAny_pure (wpAny_bind (wpAny_pure (wpAny_pure h)))
theorem xv_cls (c : ExcC K D) : ∃ o cd, K.lookup D = some o ∧ o.data = .cls cd := by
  obtain ⟨cd, hcd, _⟩ := any_some c.hd
  unfold clsIn at hcd
  split at hcd
  · rename_i c' d' cd' sl' ho
    exact ⟨_, cd', ho, rfl⟩
  · cases hcd
theorem kitx_xv (c : ExcC K D) : KitX K (.ref x) (.ref D) (fun h => ∃ ox od, InstAt h x ox D od) where
  ty := fun _ _ _ ⟨_, _, I⟩ => I.type
  it := fun _ _ X _ => by
    obtain ⟨cd, hcd, _⟩ := any_some c.hd
    unfold clsIn at hcd
    split at hcd
    · rename_i o1 o2 o3 o4 ho
      intro A1 Q1 E1 s1 k q
      unfold isType loadHead
      refine wpAny_bind (wpAny_loadPart (k _ _ (X _ _ ho)) ?_)
      exact wpAny_pure q
    · cases hcd
  ne := fun h tp dd its n sl X htp => by
    refine Bool.eq_false_iff.mpr fun q => ?_
    obtain rfl : D = tp := Value.ref.inj (beq_iff_eq.mp q)
    obtain ⟨o, cd, ho, hd⟩ := xv_cls c
    have z := (X _ _ ho).symm.trans htp
    cases z
    cases hd
  ca := fun X ⟨_, _, I⟩ k => xv_class c X I k
end
end Y
namespace Y
open PySem PySem.Spec PyProof.Rows L2
/-- isinstance(e, c), e an exception held as a value -/
def rIsV (K : PySem.W.Frag) : List V → Hp → VK → Prop := fun xs H Q => ∃ (a D : Addr) (d : Option Addr) (c : V) (cv : Value) (b : Bool), xs = [.ref a, c] ∧ H a = some (exv a D d) ∧ (∀ dd, d = some dd → ∃ fs, H dd = some (.xd fs)) ∧ ExcC K D ∧ (∀ u, RelV c u → u = cv) ∧ PySem.W.kitOne K (.ref D) cv = some b ∧ Q (.bl b) H
theorem call_isV {X : Cx} : CallR X (.builtin "isinstance") (rIsV X.K) := by
  intro pins s σ H xs us Q I r h
  obtain ⟨a, D, d, c, cv, b, rfl, ea, hd, C, hcv, e, q⟩ := h
  cases r with
  | cons rx rr =>
    cases rr with
    | cons rt rr =>
      cases rr
      cases rx
      obtain rfl := hcv _ rt
      obtain ⟨oe, vs, ha, hz, hv⟩ := exv_at I.hok ea
      have nc : PySem.W.notCls oe := by
        unfold PySem.W.notCls
        rw [hv] <;> rfl
      have J : ∃ ox od, PySem.W.InstAt s.heap a ox D od := by
        cases d with
        | none => exact ⟨oe, none, ha, hz.1, nc, by rw [hz.2]; trivial⟩
        | some dd =>
          obtain ⟨fs, hf⟩ := hd dd rfl
          have hx : ObjOk X.prog X.w H s.heap dd (.xd fs) := I.hok dd _ hf
          obtain ⟨mA, hns, _⟩ := hx
          obtain ⟨od, ho, _⟩ := lookIn_ns hns
          exact ⟨oe, some od, ha, hz.1, nc, by rw [hz.2]; exact ho⟩
      exact PySem.W.kia_one (kitx_xv C) I.kIn J e (fun z => nomatch z) fun tk => ⟨.bl b, H, I.kept (t' := tk) fun _ _ z => z, rfl, q⟩
end Y
end
section
/-! Y24: isinstance with exceptions held as values, over D. -/
namespace Y
open PySem PySem.Spec PyProof.Rows L2
def ansB (S : Store) : Option Bool → Res Wt
  | some b => .ok (.d (.bl b)) S
  | none => .bad
/-- tb: the answers, by the class's name and the name (or the built-in type) that is asked -/
def bIsX (tb : Str → D → Option Bool) : List Wt → Store → Res Wt := fun ds S => match ds with
  | [.d (.exo C ns l), .d c] => ansB S (tb C c)
  | _ => .bad
def IsTb (K : PySem.W.Frag) (tb : Str → D → Option Bool) : Prop := ∀ C c b, tb C c = some b → ExcC K (He.ga K C) ∧ ∃ v cv, (∀ lv H v', RP K lv H c v' → v' = v) ∧ (∀ u, RelV v u → u = cv) ∧ PySem.W.kitOne K (.ref (He.ga K C)) cv = some b
theorem cal_isX {X : Cx} {hx : Hx} {tb : Str → D → Option Bool} (ht : IsTb X.K tb) : CalD X hx (.builtin "isinstance") (bIsX tb) := by
  intro W pins s σ H xs us Q I r h
  obtain ⟨A, S, σ', ds, R, rd, p⟩ := h
  unfold bIsX at p
  split at p
  · rename_i C ns l c
    obtain ⟨v, u, rfl, r1, r2⟩ := rvs2 rd
    cases q : tb C c with
    | none => rw [q] at p; exact p.elim
    | some b =>
      rw [q] at p
      obtain ⟨hE, v0, cv, h1, h2, h3⟩ := ht C c b q
      have r1 : RP X.K (Live A S) H (.exo C ns l) v := r1
      have r2 : RP X.K (Live A S) H c u := r2
      obtain rfl := h1 _ _ _ r2
      cases r1 with
      | exo e0 e1 e2 e3 e4 e5 => exact call_isV pins s σ H _ us Q I r ⟨_, _, _, _, cv, b, rfl, e1, fun dd hd => by cases hd; exact ⟨_, e3⟩, hE, h2, h3, p.hereV R (.bl _)⟩
      | exo0 e0 e1 => exact call_isV pins s σ H _ us Q I r ⟨_, _, _, _, cv, b, rfl, e1, (fun dd hd => nomatch hd), hE, h2, h3, p.hereV R (.bl _)⟩
  · exact p.elim
end Y
end
section
/-! Y25: an exception class's own __init__ that keeps what it is given. -/
namespace Y
open PySem PySem.Spec PyProof.Rows L2
/-- self.f = what is given -/
def spI1 (K : PySem.W.Frag) (f : Str) : Sp := fun vs H Q E => ∃ (a C : Addr) (y : V), vs = [.ref a, y] ∧ OexC K C ∧ PySem.W.findIn K (.ref C) f = some none ∧ H a = some (L2.exo a C none) ∧
  ∀ dx, H dx = none → dx ≠ a → Q .non (upd (upd H dx (exd dx [(f, y)])) a (L2.exo a C (some dx)))
def spI2 (K : PySem.W.Frag) (f g : Str) : Sp := fun vs H Q E => ∃ (a C : Addr) (y z : V), vs = [.ref a, y, z] ∧ OexC K C ∧ PySem.W.findIn K (.ref C) f = some none ∧ PySem.W.findIn K (.ref C) g = some none ∧ H a = some (L2.exo a C none) ∧
  ∀ dx, H dx = none → dx ≠ a → Q .non (upd (upd (upd H dx (exd dx [(f, y)])) a (L2.exo a C (some dx))) dx (exd dx [(g, z), (f, y)]))
section
variable {P : Program} {w : World} {K : PySem.W.Frag} {mg : Str → Option Value} {base : Heap} {CX : CXT} {x qual f g s0 y0 z0 : Str} {params : Arguments} {scope : Scope} {fI : Addr} {fd : FuncData} {k : Nat} {p1 p2 p3 p4 p5 p6 p7 p8 : Pos}
theorem ini1_ok (F : FunD K x qual params [.Assign [.Attribute (.Name s0 p1) f p2] (.Name y0 p3) p4] scope [] [] fI fd) (Sc : FnScope [s0, y0] [s0, y0] scope)
    (v0 : Vis scope s0) (v1 : Vis scope y0) (d0 : (s0 == ("__debug__" : Str)) = false := by decide) (c0 : (s0 == ("__classdict__" : Str)) = false := by decide) (d1 : (y0 == ("__debug__" : Str)) = false := by decide) (c1 : (y0 == ("__classdict__" : Str)) = false := by decide) :
    FnOk P w K mg base CX (k + 1) fI fd [s0, y0] (spI1 K f) := by
  refine F.ok Sc (fun vs H Q E h => ?_) fun cdv A outer s H vs Q E hr h => ?_
  · obtain ⟨a, C, y, rfl, _⟩ := h
    rfl
  · obtain ⟨a, C, y, rfl, T, hno, ea, q⟩ := h
    refine ⟨_, pss_one (ps_ost (pv 0 rfl v0 d0 c0) (pv 1 rfl v1 d1 c1)), ?_⟩
    exact ⟨y, rfl, .ref a, rfl, a, C, rfl, T, hno, .inl ⟨ea, q⟩⟩
theorem ini2_ok (F : FunD K x qual params [.Assign [.Attribute (.Name s0 p1) f p2] (.Name y0 p3) p4, .Assign [.Attribute (.Name s0 p5) g p6] (.Name z0 p7) p8] scope [] [] fI fd) (Sc : FnScope [s0, y0, z0] [s0, y0, z0] scope)
    (v0 : Vis scope s0) (v1 : Vis scope y0) (v2 : Vis scope z0) (d0 : (s0 == ("__debug__" : Str)) = false := by decide) (c0 : (s0 == ("__classdict__" : Str)) = false := by decide) (d1 : (y0 == ("__debug__" : Str)) = false := by decide) (c1 : (y0 == ("__classdict__" : Str)) = false := by decide)
    (d2 : (z0 == ("__debug__" : Str)) = false := by decide) (c2 : (z0 == ("__classdict__" : Str)) = false := by decide) : FnOk P w K mg base CX (k + 1) fI fd [s0, y0, z0] (spI2 K f g) := by
  refine F.ok Sc (fun vs H Q E h => ?_) fun cdv A outer s H vs Q E hr h => ?_
  · obtain ⟨a, C, y, z, rfl, _⟩ := h
    rfl
  · obtain ⟨a, C, y, z, rfl, T, hno, hno2, ea, q⟩ := h
    refine ⟨_, pss_cons (ps_ost (pv 0 rfl v0 d0 c0) (pv 1 rfl v1 d1 c1)) (pss_one (ps_ost (pv 0 rfl v0 d0 c0) (pv 2 rfl v2 d2 c2))), ?_⟩
    refine ⟨y, rfl, .ref a, rfl, a, C, rfl, T, hno, .inl ⟨ea, fun dx hn hne => ?_⟩⟩
    exact ⟨z, rfl, .ref a, rfl, a, C, rfl, T, hno2, .inr ⟨dx, [(f, y)], upd_same, by rw [upd_ne hne, upd_same], (show 1 ≤ 900 by omega), q dx hn hne⟩⟩
end
end Y
end
section
/-! Y26: C(e), C an own exception class that keeps what it is given, as a value. -/
namespace Y
open PySem PySem.Spec PyProof.Rows L2
theorem Post.exo {c : Cn} {σ : L2.St} {A : Ads} {S : Store} {H : Hp} {Q : V → Hp → Prop} {C : Str} {ns : List Str} {l : List D} {vs : List V} {p a : Addr} (q : Post c (rV c) σ A S H Q (.ok (.d (.exo C ns l)) S)) (R : Rel c.K A S H) (r : RPs c.K (Live A S) H l vs) (hl : ns.length = l.length) (h : H p = none)
    (ha : upd H p (.xd (ns.zip vs)) a = none) : Q (.ref a) (upd (upd H p (.xd (ns.zip vs))) a (exv a (He.ga c.K C) (some p))) := by
  have R1 := R.new (o := .xd (ns.zip vs)) h
  have R2 := R1.new (o := exv a (He.ga c.K C) (some p)) ha
  have ne : p ≠ a := fun e => by
    subst e
    rw [upd_same] at ha
    cases ha
  exact q A _ _ R2 ((Stp.new h).trans (Stp.new ha)) (RV.of (.exo (notLive_new R1 ha) upd_same (notLive_new R h) (by rw [upd_ne ne, upd_same]) hl (fr_new R1 ha (fr_new R h r))))
theorem heap_mk {H : Hp} {a d : Addr} {o1 o2 o3 o4 : HO} (ha : H a = none) (ne : d ≠ a) : upd (del (upd (upd (upd H a o1) d o2) a o3) a) d o4 = upd H d o4 := by
  funext b
  by_cases hd : b = d
  · rw [hd, upd_same, upd_same]
  · rw [upd_ne hd, upd_ne hd]
    by_cases hb : b = a
    · rw [hb, del_same, ha]
    · rw [del_ne hb, upd_ne hb, upd_ne hd, upd_ne hb]
theorem fzC_nexc {S S' : Store} {n : Nat} {C : Str} {ns : List Str} {l : List D} : ∀ {o : Option Cell}, fzC S n o = .exc C ns l S' → False
  | none, h => by cases h
  | some .dead, h => by cases h
  | some (.lst _), h => by cases h
  | some (.dK _), h => by cases h
  | some (.frz _), h => by cases h
  | some (.ins _ _), h => by cases h
theorem fz1_nexc {S S' : Store} {C : Str} {ns : List Str} {l : List D} : ∀ {w : Wt}, fz1 S w = .exc C ns l S' → False
  | .d _, h => by cases h
  | .loc _, h => fzC_nexc h
  | .hex _ _ _, h => by cases h
/-- what is known of the class at the name C whose __init__ keeps one thing -/
structure Ini1 (P : Program) (w : World) (K : PySem.W.Frag) (mg : Str → Option Value) (base : Heap) (C f : Str) (k : Nat) : Prop where
  is : ∃ (fI : Addr) (fd : FuncData) (ps : List Str), OexC K (He.ga K C) ∧ PySem.W.findIn K (.ref (He.ga K C)) "__init__" = some (some (.ref fI)) ∧ PySem.W.typeIn K (.ref fI) = some (.type "function") ∧
    FnOk P w K mg base (L2.CX P w) k fI fd ps (spI1 K f) ∧ Binds K fd ps [] ∧ PySem.W.findIn K (.ref (He.ga K C)) f = some none ∧ mg C = some (.ref (He.ga K C))
def mk1D (C f : Str) (ws : List Wt) (S : Store) : Res Wt := match ws with
  | [w] => (fz1 S w).bind fun x S2 => .ok (.d (.exo C [f] [x])) S2
  | _ => .bad
def eMk1 (C f : Str) (g : AM) : EM := fun σd S => (g σd S).bind fun ws S1 => mk1D C f ws S1
theorem d_mk1 {X : Cx} {hx : Hx} {C f : Str} {k : Nat} {e : Expr} {es : List Expr} {g : AM} {p pos : Pos} (G : Ini1 X.prog X.w X.K X.mg X.base C f k) (hr : Room (k + 1) X.A) (ha : DA X hx (e :: es) g) (hg : Gl X C := by rfl)
    (hdb : (C == ("__debug__" : Str)) = false := by decide) (he : starEach (e :: es) X.env = (false, eval e X.env) :: starEach es X.env := by rfl) (hpl : (backTo pos (starEach es X.env)).any (·.1) = false := by rfl) :
    DE X hx (.Call (.Name C p) (e :: es) [] pos) (eMk1 C f g) := by
  obtain ⟨fI, fd, ps, T, iC, tI, F1, hb, hno, hm⟩ := G.is
  refine ⟨fun W tk => PEimp (pe_mkv (pmk_oex T iC tI F1 hr hb .nil (fun pins σ H s e s' I c => tk e s' (XE.of_call (σ := σ) I (fun _ _ _ h => h.elim) c)) hg hm (ha.run W tk) hdb he hpl)) fun σ H Q h => ?_⟩
  obtain ⟨A, S, σd, R, E, p⟩ := h
  refine ⟨A, S, σd, R, E, (Post.bind (R1 := rVs _) p).mono fun us H1 ⟨A1, S1, ds, R1, T1, r1, p1⟩ => ?_⟩
  unfold mk1D at p1
  split at p1
  · rename_i w0
    obtain ⟨y, rfl, ry⟩ := rvs1 r1
    cases q : fz1 S1 w0 with
    | bad => rw [q] at p1; exact p1.elim
    | exc _ _ _ _ => exact (fz1_nexc q).elim
    | ok x S2 =>
      rw [q] at p1
      obtain ⟨R2, T2, r2⟩ := fz1_ok R1 ry q
      refine ⟨by show 1 ≤ 1000; omega, fun a hn => ?_⟩
      refine ⟨a, He.ga X.K C, y, rfl, T, hno, upd_same, fun d hd ne => ?_⟩
      have hd1 : H1 d = none := by rw [upd_ne ne] at hd; exact hd
      refine ⟨rfl, d, [(f, y)], upd_same, by rw [upd_ne ne, upd_same], hd1, He.ga X.K C, rfl, fun a' ha' => ?_⟩
      rw [heap_mk hn ne] at ha' ⊢
      exact Post.exo (c := ⟨X.K, hx, W⟩) (σ := σ) (ns := [f]) (vs := [y]) (fun A3 H3 v R3 T3 r3 => p1 A3 H3 v R3 (T2.trans T3) r3) R2 (.one r2) rfl hd1 ha'
  · exact p1.elim
end Y
end
section
/-! Y27: C(e, e2), C an own exception class that keeps two things, as a value. -/
namespace Y
open PySem PySem.Spec PyProof.Rows L2
theorem heap_mk2 {H : Hp} {a d : Addr} {o1 o2 o3 o4 o5 : HO} (ha : H a = none) (ne : d ≠ a) : upd (del (upd (upd (upd (upd H a o1) d o2) a o3) d o5) a) d o4 = upd H d o4 := by
  funext b
  by_cases hd : b = d
  · rw [hd, upd_same, upd_same]
  · rw [upd_ne hd, upd_ne hd]
    by_cases hb : b = a
    · rw [hb, del_same, ha]
    · rw [del_ne hb, upd_ne hd, upd_ne hb, upd_ne hd, upd_ne hb]
structure Ini2 (P : Program) (w : World) (K : PySem.W.Frag) (mg : Str → Option Value) (base : Heap) (C f g : Str) (k : Nat) : Prop where
  is : ∃ (fI : Addr) (fd : FuncData) (ps : List Str), OexC K (He.ga K C) ∧ PySem.W.findIn K (.ref (He.ga K C)) "__init__" = some (some (.ref fI)) ∧ PySem.W.typeIn K (.ref fI) = some (.type "function") ∧
    FnOk P w K mg base (L2.CX P w) k fI fd ps (spI2 K f g) ∧ Binds K fd ps [] ∧ PySem.W.findIn K (.ref (He.ga K C)) f = some none ∧ PySem.W.findIn K (.ref (He.ga K C)) g = some none ∧ mg C = some (.ref (He.ga K C))
def mk2D (C f g : Str) (ws : List Wt) (S : Store) : Res Wt := match ws with
  | [.d x, .d y] => .ok (.d (.exo C [g, f] [y, x])) S
  | _ => .bad
def eMk2 (C f g : Str) (h : AM) : EM := fun σd S => (h σd S).bind fun ws S1 => mk2D C f g ws S1
theorem d_mk2 {X : Cx} {hx : Hx} {C f g : Str} {k : Nat} {e : Expr} {es : List Expr} {h : AM} {p pos : Pos} (G : Ini2 X.prog X.w X.K X.mg X.base C f g k) (hr : Room (k + 1) X.A) (ha : DA X hx (e :: es) h) (hg : Gl X C := by rfl)
    (hdb : (C == ("__debug__" : Str)) = false := by decide) (he : starEach (e :: es) X.env = (false, eval e X.env) :: starEach es X.env := by rfl) (hpl : (backTo pos (starEach es X.env)).any (·.1) = false := by rfl) :
    DE X hx (.Call (.Name C p) (e :: es) [] pos) (eMk2 C f g h) := by
  obtain ⟨fI, fd, ps, T, iC, tI, F1, hb, hno, hno2, hm⟩ := G.is
  refine ⟨fun W tk => PEimp (pe_mkv (pmk_oex T iC tI F1 hr hb .nil (fun pins σ H s e s' I c => tk e s' (XE.of_call (σ := σ) I (fun _ _ _ h => h.elim) c)) hg hm (ha.run W tk) hdb he hpl)) fun σ H Q q => ?_⟩
  obtain ⟨A, S, σd, R, E, p⟩ := q
  refine ⟨A, S, σd, R, E, (Post.bind (R1 := rVs _) p).mono fun us H1 ⟨A1, S1, ds, R1, T1, r1, p1⟩ => ?_⟩
  unfold mk2D at p1
  split at p1
  · rename_i x0 y0
    obtain ⟨x, y, rfl, rx, ry⟩ := rvs2 r1
    have rx : RP X.K (Live A1 S1) H1 x0 x := rx
    have ry : RP X.K (Live A1 S1) H1 y0 y := ry
    refine ⟨by show 2 ≤ 1000; omega, fun a hn => ?_⟩
    refine ⟨a, He.ga X.K C, x, y, rfl, T, hno, hno2, upd_same, fun d hd ne => ?_⟩
    have hd1 : H1 d = none := by rw [upd_ne ne] at hd; exact hd
    refine ⟨rfl, d, [(g, y), (f, x)], by rw [upd_ne (Ne.symm ne), upd_same], upd_same, hd1, He.ga X.K C, rfl, fun a' ha' => ?_⟩
    rw [heap_mk2 hn ne] at ha' ⊢
    exact Post.exo (c := ⟨X.K, hx, W⟩) (σ := σ) (ns := [g, f]) (vs := [y, x]) p1 R1 (.cons ry (.one rx)) rfl hd1 ha'
  · exact p1.elim
end Y
end
section
/-! Y28: C(), C an own exception class without an own __init__, as a value. -/
namespace Y
open PySem PySem.Spec PyProof.Rows L2
theorem pmk_own0 {X : Cx} {C : Addr} {bmB : List Value} {B newId initId : String} {x : Str} {p pos : Pos} (F : ExcBaseFacts B newId initId bmB) (q : PySem.W.excIn X.K C bmB newId = true) (gC : X.mg x = some (.ref C)) (kC : PySem.W.keepIn X.K (.ref C) = true)
    (r : Raises X (.ref C)) (hg : Gl X x) (hdb : (x == ("__debug__" : Str)) = false := by decide) : L2.PMk X (.Call (.Name x p) [] [] pos) (fun _ H Q => Q (.ref C) none H) := by
  intro pins s σ H Q I h
  refine wpAny_Call_Name_kw (ld_glob I hg gC ?_ hdb)
  refine PySem.W.callWith_KW0 (kws := []) (env := X.env) (h₀ := X.base) I.ok.mod.kin kC rfl (wpAny_evalAll_nil ⟨I.kIn, ?_⟩) rfl
  show wpAny _ _ (call (.ref C) []) _ _ _
  obtain ⟨bm, N, nm, qn, bs, hdct, sn, sub, ab, col, dd, k0, k1, k2, k3, k5, mN, hC, hN, hni, T⟩ := exc_obj I.kIn q
  refine wpAny_call_exc_subT F T hC hN hni (fun h' e hm => mk_of I hm r h (I.hok.gone hm.new)) ?_
  exact Nat.zero_le _
/-- what is known of such a class -/
structure Ini0 (P : Program) (w : World) (K : PySem.W.Frag) (mg : Str → Option Value) (C : Str) : Prop where
  is : ∃ (bmB : List Value) (B newId initId : String), ExcBaseFacts B newId initId bmB ∧ PySem.W.excIn K (He.ga K C) bmB newId = true ∧ PySem.W.subIn K (.ref (He.ga K C)) (.type "BaseException") = some true ∧
    PySem.W.typeIn K (.ref (He.ga K C)) = some (.type "type") ∧ PySem.W.keepIn K (.ref (He.ga K C)) = true ∧ mg C = some (.ref (He.ga K C))
def eMk0 (C : Str) : EM := fun σd S => .ok (.d (.exo C [] [])) S
theorem d_mk0 {X : Cx} {hx : Hx} {C : Str} {p pos : Pos} (G : Ini0 X.prog X.w X.K X.mg C) (hg : Gl X C := by rfl) (hdb : (C == ("__debug__" : Str)) = false := by decide) : DE X hx (.Call (.Name C p) [] [] pos) (eMk0 C) := by
  obtain ⟨bmB, B, newId, initId, F, q, s1, s2, kC, hm⟩ := G.is
  refine ⟨fun W tk => PEimp (pe_mkv (pmk_own0 F q hm kC (raises_own s1 s2) hg hdb)) fun σ H Q ⟨A, S, σd, R, E, p⟩ => ⟨_, rfl, fun a ha => ?_⟩⟩
  exact p A _ _ (R.new ha) (Stp.new ha) (RV.of (.exo0 (notLive_new R ha) upd_same))
end Y
end
section
set_option maxHeartbeats 2000000
/-! Y29: an own exception class called with keywords. -/
namespace PySem
namespace YK
open PySem.W PySem.Calls PyProof.Rows PySem.HandSPX
section
variable {M : Model} {A : Around} {E : Value → Shared → Prop} {h : Heap} {g : Array GenState} {d : Drawn} {t : Nat} {os : OsState}
variable {nm q : Str} {C N : Addr} {bs bm bmB : List Value} {hdct : Bool} {sn : List Str} {sub : List Value} {ab : Bool} {col : Option Bool} {dd : Option Addr} {k0 k1 k2 k3 k5 : Option Value} {B newId initId : String} {kw : List (Str × Value)}
theorem newK_check (F : ExcBaseFacts B newId initId bmB) (hT : ∀ X : String, bm.contains (.type X) = bmB.contains (.type X)) {rest : List Value} {Q : Unit → Shared → Prop}
    (hC : h.get? C = some (excClassObj nm q C N bs bm hdct sn sub ab col dd k0 k1 k2 k3 k5 newId)) (hq : Q () ⟨h, g, d, t, os⟩) : wpAny M A (checkBuiltinCall newId ⟨.ref C :: rest, kw⟩) Q E ⟨h, g, d, t, os⟩ := by
  have hcont : (Value.ref C :: bm).contains (.type B) = true := by rw [List.contains_cons, hT, F.hasB, Bool.or_true]
  have hstar := F.noStar
  simp only [checkBuiltinCall, F.newKind, F.newSplit, F.newRow]
  repeat (first | refine wpAny_loadPart_at hC ?_ | (refine wpAny_isSubtype_exc hC ?_; rw [hcont]) | refine wpAny_staticBase_exc hC ?_ | refine wpAny_madeBy_exc hC ?_ | simp only [bne_self_eq_false, Bool.false_eq_true, if_false] | wp_step)
  exact hq
theorem tcK_check {M : Model} {rest : List Value} {Q : Unit → Shared → Prop} (hC : h.get? C = some (excClassObj nm q C N bs bm hdct sn sub ab col dd k0 k1 k2 k3 k5 newId))
    (hq : Q () ⟨h, g, d, t, os⟩) : wpAny M A (checkBuiltinCall "type.__call__" ⟨.ref C :: rest, kw⟩) Q E ⟨h, g, d, t, os⟩ := by
  have f3 := tc_sub
  have hT : (⟨h, g, d, t, os⟩ : Shared).TypeIs (.ref C) "type" := ⟨_, hC, rfl⟩
  simp only [checkBuiltinCall, tc_kind, tc_split]
  repeat (any_goals (first | assumption | with_reducible refine wpAny_loadPart_at hC ?_ | with_reducible refine wpAny_onRaise ?_ | with_reducible refine wpAny_map ?_ | wp_step))
end
section
variable {prog : Program} {w : World} {A : Around} {E : Value → Shared → Prop} {R : Result → Shared → Prop} {h : Heap} {g : Array GenState} {d : Drawn} {t : Nat} {os : OsState}
variable {nm q : Str} {C N : Addr} {bs bm bmB : List Value} {hdct : Bool} {sn : List Str} {sub : List Value} {ab : Bool} {col : Option Bool} {dd : Option Addr} {k0 k1 k2 k3 k5 : Option Value} {B newId initId : String} {kw : List (Str × Value)}
theorem newK (F : ExcBaseFacts B newId initId bmB) (hT : ∀ X : String, bm.contains (.type X) = bmB.contains (.type X)) {rest : List Value}
    (hC : h.get? C = some (excClassObj nm q C N bs bm hdct sn sub ab col dd k0 k1 k2 k3 k5 newId))
    (hq : R (.ok (.ret (.ref (h.objs.size + 1)))) ⟨(h.push { cls := .type "tuple", data := .seq rest.toArray }).push
      { cls := .ref C, data := .fields #[.ref h.objs.size, .none, .none, .none, .bool false, .none] }, g, d, t, os⟩) (hrest : rest.length ≤ sizeLine) :
    codeAny (model prog w) A (.builtin newId ⟨.ref C :: rest, kw⟩) R ⟨h, g, d, t, os⟩ := by
  have hends := F.ends
  have hcB : (Value.ref C :: bm).contains (.type B) = true := by rw [List.contains_cons, hT, F.hasB, Bool.or_true]
  have hcA : (Value.ref C :: bm).contains (.type "AttributeError") = false := by rw [List.contains_cons, hT, F.noAttr]; rfl
  have hcN : (Value.ref C :: bm).contains (.type "NameError") = false := by rw [List.contains_cons, hT, F.noName]; rfl
  refine codeAny_builtinAt F.entry ?_
  unfold Builtin.«BaseException.__new__»
  refine wpAt_bind ?_
  show wpAt _ _ _ (stack >>= _) _ _ _
  refine wpAt_bind (wpAt_stack fun p below => wpAt_of_wpAny ?_)
  wp_walk
  refine wpAt_of_wpAny ?_
  rw [F.owner]
  repeat (first | with_reducible refine wpAny_madeHere_exc F.canon hC ?_ | with_reducible refine wpAny_loadPart_at hC ?_ | (with_reducible refine wpAny_isSubtype_exc hC ?_; first | rw [hcB] | rw [hcA] | rw [hcN]) | wp_step)
  show R _ _
  rw [Heap.size_push]
  exact hq
theorem typeK (F : ExcBaseFacts B newId initId bmB) (hT : ∀ X : String, bm.contains (.type X) = bmB.contains (.type X)) {rest : List Value} {fI : Addr} {Q : Fin → Shared → Prop}
    (hC : h.get? C = some (excClassObj nm q C N bs bm hdct sn sub ab col dd k0 k1 k2 k3 k5 newId))
    (hi : PySem.W.Looks (model prog w) h (typeLookup (.ref C) "__init__") (some (.ref fI))) (hb : ∀ self, PySem.W.Looks (model prog w) h (bindSpecial (.ref fI) self) (.ref fI, [self])) (hrest : rest.length ≤ sizeLine)
    (hq : codeAny (model prog w) A (.call (.ref fI) ⟨.ref (h.objs.size + 1) :: rest, kw⟩)
      (fun r s' => match r with | .ok (.ret v) => v = .none ∧ Q (.done (.ret (.ref (h.objs.size + 1)))) s' | .ok _ => False | .error e => E e s')
      ⟨(h.push (PySem.W.kdv_tup rest)).push (excO C h.objs.size), g, d, t, os⟩) :
    wpAny (model prog w) A (Builtin.«type.__call__» ⟨.ref C :: rest, kw⟩) Q E ⟨h, g, d, t, os⟩ := by
  repeat (first | with_reducible refine wpAny_loadPart_at hC ?_ | with_reducible refine wpAny_madeBy_exc hC ?_ | wp_step)
  refine codeAny_call_builtin_code (Code.quiet_builtin _ F.quiet) (newK_check F hT hC ?_)
  refine newK F hT hC ?_ hrest
  show wpAny _ _ _ _ _ _
  have k : ∀ b o, h.get? b = some o → ((h.push (PySem.W.kdv_tup rest)).push (excO C h.objs.size)).get? b = some o := fun b o e => Heap.get?_push_of_some _ (Heap.get?_push_of_some _ e)
  have hC₁ := k _ _ hC
  have hget : ((h.push (PySem.W.kdv_tup rest)).push (excO C h.objs.size)).get? (h.objs.size + 1) = some (excO C h.objs.size) := by heap_get
  have hcC : (Value.ref C :: bm).contains (.ref C) = true := by simp
  have i1 := hi.keeps k
  have b1 := (hb (.ref (h.objs.size + 1))).keeps k
  unfold isInstance
  repeat (first | with_reducible refine wpAny_loadPart_at hget ?_ | (with_reducible refine wpAny_isSubtype_exc hC₁ ?_; rw [hcC]) | wp_step)
  show wpAny _ _ (typeLookup (.ref C) _) _ _ _
  refine i1.at ?_
  refine wpAny_holding (wpAny_bind (b1.at ?_))
  refine wpAny_bind (wpAny_call (codeAny_mono hq fun r s' z => ?_))
  rcases r with e | (v | _ | _ | _) <;> first | exact z | exact z.elim | skip
  obtain ⟨rfl, z⟩ := z
  first
    | exact wpAny_pure (wpAny_pure z)
    | (wp_walk; exact z)
theorem ownK (F : ExcBaseFacts B newId initId bmB) (hT : ∀ X : String, bm.contains (.type X) = bmB.contains (.type X)) {rest : List Value} {fI : Addr}
    (hC : h.get? C = some (excClassObj nm q C N bs bm hdct sn sub ab col dd k0 k1 k2 k3 k5 newId))
    (hi : PySem.W.Looks (model prog w) h (typeLookup (.ref C) "__init__") (some (.ref fI))) (hb : ∀ self, PySem.W.Looks (model prog w) h (bindSpecial (.ref fI) self) (.ref fI, [self])) (hrest : rest.length ≤ sizeLine)
    (hq : codeAny (model prog w) (A.under (.builtin "type.__call__" ⟨.ref C :: rest, kw⟩)) (.call (.ref fI) ⟨.ref (h.objs.size + 1) :: rest, kw⟩) (PySem.W.InitBack (h.objs.size + 1) R)
      ⟨(h.push (PySem.W.kdv_tup rest)).push (excO C h.objs.size), g, d, t, os⟩) :
    codeAny (model prog w) A (.call (.ref C) ⟨rest, kw⟩) R ⟨h, g, d, t, os⟩ := by
  have f1 := tc_lookup
  have f2 := tc_bind (.ref C)
  have hTy : (⟨h, g, d, t, os⟩ : Shared).TypeIs (.ref C) "type" := ⟨_, hC, rfl⟩
  refine codeAny_of_tree ?_
  show wpAny _ _ (callAny (.ref C) _) _ _ _
  repeat (any_goals (first | assumption | with_reducible refine wpAny_loadPart_at hC ?_ | wp_step))
  refine ⟨rfl, ?_⟩
  refine codeAny_call_builtin_at (Code.quiet_builtin _ (by decide +kernel)) entry_typeCall (tcK_check hC (typeK F hT hC hi hb hrest ?_))
  refine codeAny_mono hq fun r s' z => ?_
  rcases r with e | (v | _ | _ | _) <;> exact z
end
end YK
end PySem
namespace Y
open PySem PySem.Spec PyProof.Rows L2
section
variable {X : Cx} {kws : List Keyword} {tk : TA} {p pos : Pos}
theorem pmk_kw {CX : CXT} {x : Str} {C fI : Addr} {k : Nat} {fd : FuncData} {ps ks : List Str} {sp : Sp} {gg : List Value → List Value → List Value} {gV : List V → List V → List V} (T : OexC X.K C) (iC : PySem.W.findIn X.K (.ref C) "__init__" = some (some (.ref fI))) (tI : PySem.W.typeIn X.K (.ref fI) = some (.type "function"))
    (F1 : FnOk X.prog X.w X.K X.mg X.base CX k fI fd ps sp) (hr : Room (k + 1) X.A) (hb : KBn X.K fd ps 1 ks gg gV) (hx : Passes CX X (fun _ _ _ => False)) (hg : Gl X x) (hm : X.mg x = some (.ref C)) (ha : PK X kws tk)
    (hdb : (x == ("__debug__" : Str)) = false := by decide) (hall : (backToKw pos (keywordEach kws X.env)).all (·.1.isSome) = true := by rfl) (hks : (backToKw pos (keywordEach kws X.env)).filterMap (·.1) = ks := by rfl)
    (hpl : ((backTo pos (starEach [] X.env)).any (·.1) || (backToKw pos (keywordEach kws X.env)).any (·.1.isNone)) = false := by rfl) :
    L2.PMk X (.Call (.Name x p) [] kws pos) (fun σ H Q => tk σ H fun vs H1 => vs.length = ks.length ∧ ∀ a, H1 a = none → sp (gV [.ref a] vs) (upd H1 a (L2.exo a C none))
      (fun v H2 => v = .non ∧ ∃ (d : Addr) (fs : List (Str × V)), H2 a = some (L2.exo a C (some d)) ∧ H2 d = some (exd d fs) ∧ H1 d = none ∧ Q (.ref C) (some d) (upd (del H2 a) d (.xd fs))) (fun _ _ _ => False)) := by
  intro pins s σ H Q I h
  obtain ⟨nm, q, N, bs, bm, sn, sub, ab, col, dd, k0, k1, k2, k3, k5, hC, hbm⟩ := T.cls
  refine wpAny_Call_Name_kw (ld_glob I hg hm ?_ hdb)
  refine PySem.W.callWith_KW0 (h₀ := X.base) I.ok.mod.kin T.kC hall ?_ hpl
  refine thn (ha.run pos pins s σ H _ I h) fun us s1 ⟨vs, H1, I1, r1, hz, q1⟩ => ⟨I1.kIn, ?_⟩
  rw [hks]
  show wpAny _ _ (call (.ref C) [] _) _ _ _
  obtain ⟨hp, g, dr, tk, os⟩ := s1
  have hsz : hp.objs.size ≤ hp.objs.size + 1 := Nat.le_succ _
  have hn : H1 (hp.objs.size + 1) = none := I1.hok.fresh hsz
  have hq := q1 (hp.objs.size + 1) hn
  have kk : ∀ b o, hp.get? b = some o → ((hp.push (PySem.W.kdv_tup [])).push (PySem.HandSPX.excO C hp.objs.size)).get? b = some o := fun b o e => Heap.get?_push_of_some _ (Heap.get?_push_of_some _ e)
  have hget : ((hp.push (PySem.W.kdv_tup [])).push (PySem.HandSPX.excO C hp.objs.size)).get? (hp.objs.size + 1) = some (PySem.HandSPX.excO C hp.objs.size) := by heap_get
  have I2 : Inv X pins σ (upd H1 (hp.objs.size + 1) (L2.exo (hp.objs.size + 1) C none)) ⟨(hp.push (PySem.W.kdv_tup [])).push (PySem.HandSPX.excO C hp.objs.size), g, dr, tk, os⟩ :=
    I1.laid (t' := tk) (a := hp.objs.size + 1) (o := L2.exo (hp.objs.size + 1) C none) (h' := (hp.push (PySem.W.kdv_tup [])).push (PySem.HandSPX.excO C hp.objs.size)) kk hsz (exo_ok hget)
  have r0 : Vals [V.ref (hp.objs.size + 1)] [Value.ref (hp.objs.size + 1)] := .cons rfl .nil
  have r2 := hb.rel r0 r1
  have hl : us.length = ks.length := by rw [← hz]; exact (Paired.length r1).symm
  refine wpAny_call (PySem.YK.ownK F.excBase_ValueError (fun Y => PySem.HandSPX.refsVE_contains Y bm hbm) (I1.kIn _ _ hC) (PySem.W.looks_findIn I1.kIn iC) (fun self => PySem.W.bind_fn I1.kIn self tI) (by simp)
    (codeAny_mono (F1.run _ X.stack _ _ ⟨[Value.ref (hp.objs.size + 1)], ks.zip us⟩ (gg [Value.ref (hp.objs.size + 1)] us) _ _ (fun _ _ _ => False) (hr.make C [] _) (I2.env0.make C [] _) (hb.to _ [Value.ref (hp.objs.size + 1)] us I2.kIn rfl hl) r2 hq) fun r s' hq' => ?_))
  cases r with
  | error er => exact hx pins σ _ _ er s' I2 hq'
  | ok fl =>
    cases fl with
    | ret u =>
      obtain ⟨v, H2, os2, bare2, un2, hok2, rv, ev, d, fs, ea, ed, hd1, q2⟩ := hq'
      subst ev
      obtain ⟨h2, g2, d2, t2, os'⟩ := s'
      exact ⟨rv, mk_end (raises_own T.exC T.tyC) I1 hsz kk un2 hok2 os2 bare2 ea ed hd1 q2⟩
    | next => exact False.elim hq'
    | brk => exact False.elim hq'
    | cont => exact False.elim hq'
end
end Y
end
section
/-! Y30: own exceptions made with keywords, as values; {}; what the heap tells of the classes. -/
namespace Y
open PySem PySem.Spec PyProof.Rows L2
structure IniK1 (P : Program) (w : World) (K : PySem.W.Frag) (mg : Str → Option Value) (base : Heap) (C f q : Str) (k : Nat) : Prop where
  is : ∃ (fI : Addr) (fd : FuncData) (ps : List Str), OexC K (He.ga K C) ∧ PySem.W.findIn K (.ref (He.ga K C)) "__init__" = some (some (.ref fI)) ∧ PySem.W.typeIn K (.ref fI) = some (.type "function") ∧
    FnOk P w K mg base (L2.CX P w) k fI fd ps (spI1 K f) ∧ KBn K fd ps 1 [q] (fun us ws => pick [0, 1] (us ++ ws)) (fun us ws => pick [0, 1] (us ++ ws)) ∧ PySem.W.findIn K (.ref (He.ga K C)) f = some none ∧ mg C = some (.ref (He.ga K C))
/-- both given by name, the second one first -/
structure IniK2 (P : Program) (w : World) (K : PySem.W.Frag) (mg : Str → Option Value) (base : Heap) (C f g q r : Str) (k : Nat) : Prop where
  is : ∃ (fI : Addr) (fd : FuncData) (ps : List Str), OexC K (He.ga K C) ∧ PySem.W.findIn K (.ref (He.ga K C)) "__init__" = some (some (.ref fI)) ∧ PySem.W.typeIn K (.ref fI) = some (.type "function") ∧
    FnOk P w K mg base (L2.CX P w) k fI fd ps (spI2 K f g) ∧ KBn K fd ps 1 [r, q] (fun us ws => pick [0, 2, 1] (us ++ ws)) (fun us ws => pick [0, 2, 1] (us ++ ws)) ∧ PySem.W.findIn K (.ref (He.ga K C)) f = some none ∧ PySem.W.findIn K (.ref (He.ga K C)) g = some none ∧ mg C = some (.ref (He.ga K C))
def mk2R (C f g : Str) (ws : List Wt) (S : Store) : Res Wt := match ws with
  | [.d y, .d x] => .ok (.d (.exo C [g, f] [y, x])) S
  | _ => .bad
def eMk2R (C f g : Str) (h : AM) : EM := fun σd S => (h σd S).bind fun ws S1 => mk2R C f g ws S1
section
variable {X : Cx} {hx : Hx} {kws : List Keyword} {p pos : Pos}
theorem d_mk1K {C f q : Str} {k : Nat} {g : AM} (G : IniK1 X.prog X.w X.K X.mg X.base C f q k) (hr : Room (k + 1) X.A) (ha : DK X hx kws g) (hg : Gl X C := by rfl)
    (hdb : (C == ("__debug__" : Str)) = false := by decide) (hall : (backToKw pos (keywordEach kws X.env)).all (·.1.isSome) = true := by rfl) (hks : (backToKw pos (keywordEach kws X.env)).filterMap (·.1) = [q] := by rfl)
    (hpl : ((backTo pos (starEach [] X.env)).any (·.1) || (backToKw pos (keywordEach kws X.env)).any (·.1.isNone)) = false := by rfl) :
    DE X hx (.Call (.Name C p) [] kws pos) (eMk1 C f g) := by
  obtain ⟨fI, fd, ps, T, iC, tI, F1, hb, hno, hm⟩ := G.is
  refine ⟨fun W tk => PEimp (pe_mkv (pmk_kw T iC tI F1 hr hb (fun pins σ H s e s' I c => tk e s' (XE.of_call (σ := σ) I (fun _ _ _ h => h.elim) c)) hg hm (ha.run W tk) hdb hall hks hpl)) fun σ H Q h => ?_⟩
  obtain ⟨A, S, σd, R, E, p⟩ := h
  refine ⟨A, S, σd, R, E, (Post.bind (R1 := rVs _) p).mono fun us H1 ⟨A1, S1, ds, R1, T1, r1, p1⟩ => ?_⟩
  unfold mk1D at p1
  split at p1
  · rename_i w0
    obtain ⟨y, rfl, ry⟩ := rvs1 r1
    cases q : fz1 S1 w0 with
    | bad => rw [q] at p1; exact p1.elim
    | exc _ _ _ _ => exact (fz1_nexc q).elim
    | ok x S2 =>
      rw [q] at p1
      obtain ⟨R2, T2, r2⟩ := fz1_ok R1 ry q
      refine ⟨rfl, fun a hn => ?_⟩
      refine ⟨a, He.ga X.K C, y, rfl, T, hno, upd_same, fun d hd ne => ?_⟩
      have hd1 : H1 d = none := by rw [upd_ne ne] at hd; exact hd
      refine ⟨rfl, d, [(f, y)], upd_same, by rw [upd_ne ne, upd_same], hd1, He.ga X.K C, rfl, fun a' ha' => ?_⟩
      rw [heap_mk hn ne] at ha' ⊢
      exact Post.exo (c := ⟨X.K, hx, W⟩) (σ := σ) (ns := [f]) (vs := [y]) (fun A3 H3 v R3 T3 r3 => p1 A3 H3 v R3 (T2.trans T3) r3) R2 (.one r2) rfl hd1 ha'
  · exact p1.elim
theorem d_mk2K {C f g q r : Str} {k : Nat} {h : AM} (G : IniK2 X.prog X.w X.K X.mg X.base C f g q r k) (hr : Room (k + 1) X.A) (ha : DK X hx kws h) (hg : Gl X C := by rfl)
    (hdb : (C == ("__debug__" : Str)) = false := by decide) (hall : (backToKw pos (keywordEach kws X.env)).all (·.1.isSome) = true := by rfl) (hks : (backToKw pos (keywordEach kws X.env)).filterMap (·.1) = [r, q] := by rfl)
    (hpl : ((backTo pos (starEach [] X.env)).any (·.1) || (backToKw pos (keywordEach kws X.env)).any (·.1.isNone)) = false := by rfl) :
    DE X hx (.Call (.Name C p) [] kws pos) (eMk2R C f g h) := by
  obtain ⟨fI, fd, ps, T, iC, tI, F1, hb, hno, hno2, hm⟩ := G.is
  refine ⟨fun W tk => PEimp (pe_mkv (pmk_kw T iC tI F1 hr hb (fun pins σ H s e s' I c => tk e s' (XE.of_call (σ := σ) I (fun _ _ _ h => h.elim) c)) hg hm (ha.run W tk) hdb hall hks hpl)) fun σ H Q q => ?_⟩
  obtain ⟨A, S, σd, R, E, p⟩ := q
  refine ⟨A, S, σd, R, E, (Post.bind (R1 := rVs _) p).mono fun us H1 ⟨A1, S1, ds, R1, T1, r1, p1⟩ => ?_⟩
  unfold mk2R at p1
  split at p1
  · rename_i y0 x0
    obtain ⟨y, x, rfl, ry, rx⟩ := rvs2 r1
    have rx : RP X.K (Live A1 S1) H1 x0 x := rx
    have ry : RP X.K (Live A1 S1) H1 y0 y := ry
    refine ⟨rfl, fun a hn => ?_⟩
    refine ⟨a, He.ga X.K C, x, y, rfl, T, hno, hno2, upd_same, fun d hd ne => ?_⟩
    have hd1 : H1 d = none := by rw [upd_ne ne] at hd; exact hd
    refine ⟨rfl, d, [(g, y), (f, x)], by rw [upd_ne (Ne.symm ne), upd_same], upd_same, hd1, He.ga X.K C, rfl, fun a' ha' => ?_⟩
    rw [heap_mk2 hn ne] at ha' ⊢
    exact Post.exo (c := ⟨X.K, hx, W⟩) (σ := σ) (ns := [g, f]) (vs := [y, x]) p1 R1 (.cons ry (.one rx)) rfl hd1 ha'
  · exact p1.elim
/-- {} -/
theorem d_dict0 : DE X hx (.Dict [] [] pos) (eC (.dct [] [])) := ⟨fun W tk => PEimp pe_dnewK fun σ H Q ⟨A, S, σd, R, E, p⟩ => fun a h =>
  p A _ _ (R.new h) (Stp.new h) (RV.of (.dct (kvs := []) (notLive_new R h) (.inl upd_same) .nil))⟩
end

/-! ### told by the heap -/
def eqV (a b : Option Value) : Bool := decide (a = b)
def ini1B (K : PySem.W.Frag) (p : Str × Str) : Bool := oexB K (He.ga K p.1) && (He.eqO (PySem.W.findIn K (.ref (He.ga K p.1)) "__init__") (some (some (.ref (He.ma K (He.ga K p.1) "__init__")))) && (eqV (PySem.W.typeIn K (.ref (He.ma K (He.ga K p.1) "__init__"))) (some (.type "function")) &&
  (He.eqO (PySem.W.findIn K (.ref (He.ga K p.1)) p.2) (some none) && He.eqO (PySem.W.nsIn K mainGlobals p.1) (some (some (.ref (He.ga K p.1)))))))
structure IniF (K : PySem.W.Frag) (mg : Str → Option Value) (C f : Str) : Prop where
  o : OexC K (He.ga K C)
  i : PySem.W.findIn K (.ref (He.ga K C)) "__init__" = some (some (.ref (He.ma K (He.ga K C) "__init__")))
  t : PySem.W.typeIn K (.ref (He.ma K (He.ga K C) "__init__")) = some (.type "function")
  n : PySem.W.findIn K (.ref (He.ga K C)) f = some none
  m : mg C = some (.ref (He.ga K C))
theorem ini1B_ok {K : PySem.W.Frag} {h : Heap} {mg : Str → Option Value} (X : K.In h) (G : h.Ns mainGlobals mg) {p : Str × Str} (c : ini1B K p = true) : IniF K mg p.1 p.2 := by
  unfold ini1B at c
  obtain ⟨c1, c⟩ := He.ba c
  obtain ⟨c2, c⟩ := He.ba c
  obtain ⟨c3, c⟩ := He.ba c
  obtain ⟨c4, c5⟩ := He.ba c
  exact ⟨oexB_ok c1, He.eqO_ok c2, of_decide_eq_true c3, He.eqO_ok c4, PySem.W.mg_of X G (He.eqO_ok c5)⟩
section
variable {P : Program} {w : World} {K : PySem.W.Frag} {mg : Str → Option Value} {base : Heap} {C f g q r : Str} {k : Nat} {fd : FuncData} {ps : List Str}
theorem ini1_of (c : IniF K mg C f) (F : FnOk P w K mg base (L2.CX P w) k (He.ma K (He.ga K C) "__init__") fd ps (spI1 K f)) (hb : Binds K fd ps []) : Ini1 P w K mg base C f k := ⟨_, fd, ps, c.o, c.i, c.t, F, hb, c.n, c.m⟩
theorem iniK1_of (c : IniF K mg C f) (F : FnOk P w K mg base (L2.CX P w) k (He.ma K (He.ga K C) "__init__") fd ps (spI1 K f)) (hb : KBn K fd ps 1 [q] (fun us ws => pick [0, 1] (us ++ ws)) (fun us ws => pick [0, 1] (us ++ ws))) : IniK1 P w K mg base C f q k := ⟨_, fd, ps, c.o, c.i, c.t, F, hb, c.n, c.m⟩
theorem ini2_of (c : IniF K mg C f) (c2 : IniF K mg C g) (F : FnOk P w K mg base (L2.CX P w) k (He.ma K (He.ga K C) "__init__") fd ps (spI2 K f g)) (hb : Binds K fd ps []) : Ini2 P w K mg base C f g k := ⟨_, fd, ps, c.o, c.i, c.t, F, hb, c.n, c2.n, c.m⟩
theorem iniK2_of (c : IniF K mg C f) (c2 : IniF K mg C g) (F : FnOk P w K mg base (L2.CX P w) k (He.ma K (He.ga K C) "__init__") fd ps (spI2 K f g)) (hb : KBn K fd ps 1 [r, q] (fun us ws => pick [0, 2, 1] (us ++ ws)) (fun us ws => pick [0, 2, 1] (us ++ ws))) : IniK2 P w K mg base C f g q r k := ⟨_, fd, ps, c.o, c.i, c.t, F, hb, c.n, c2.n, c.m⟩
end
def ini0B (K : PySem.W.Frag) (C : Str) : Bool := (He.Fa.exc C).ok K && (He.Fa.glo C).ok K
theorem ini0B_ok {K : PySem.W.Frag} {h : Heap} {mg : Str → Option Value} (X : K.In h) (G : h.Ns mainGlobals mg) {P : Program} {w : World} {C : Str} (c : ini0B K C = true) : Ini0 P w K mg C := by
  obtain ⟨c1, c2⟩ := He.ba c
  obtain ⟨h1, h2, h3, h4⟩ := He.exc_ok c1
  exact ⟨He.veBase, "ValueError", "ValueError.__new__", "ValueError.__init__", F.excBase_ValueError, h1, h3, h4, h2, He.glo_ok X G c2⟩
def xcB (K : PySem.W.Frag) (D : Addr) : Bool := He.eqO (PySem.W.findIn K (.ref D) "__getattribute__") (some (some (.builtin "BaseException.__getattribute__"))) && (He.eqO (PySem.W.findIn K (.ref D) "__getattr__") (some none) && (decide (PySem.W.subIn K (.ref D) (.type "BaseException") = some true) &&
  (PySem.W.hasDictIn K D && (He.eqO (PySem.W.findIn K (.ref D) "__class__") (some (some (.builtin "object.__class__"))) && (He.eqO (PySem.W.specialIn K (.builtin "object.__class__") "__get__") (some (some (.builtin "getset_descriptor.__get__"))) &&
  (decide (PySem.W.takesIn K (.builtin "object.__class__") = some true) && decide (PySem.W.mroIn K D (.type "object") = some true)))))))
theorem xcB_ok {K : PySem.W.Frag} {D : Addr} (c : xcB K D = true) : ExcC K D ∧ XfC K D := by
  obtain ⟨c1, c⟩ := He.ba c
  obtain ⟨c2, c⟩ := He.ba c
  obtain ⟨c3, c⟩ := He.ba c
  obtain ⟨c4, c⟩ := He.ba c
  obtain ⟨c5, c⟩ := He.ba c
  obtain ⟨c6, c⟩ := He.ba c
  obtain ⟨c7, c8⟩ := He.ba c
  exact ⟨⟨He.eqO_ok c1, He.eqO_ok c2, of_decide_eq_true c3, c4, He.eqO_ok c5, He.eqO_ok c6, of_decide_eq_true c7, of_decide_eq_true c8⟩, ⟨He.eqO_ok c1, He.eqO_ok c2, of_decide_eq_true c3, c4⟩⟩
/-- the answers of isinstance: xt each class with all names, all built-in types that it stands under; xn the names, xy the types that are asked -/
abbrev XT : Type := List (Str × List Str × List String)
def tbOf (xt : XT) (xn : List Str) (xy : List String) : Str → D → Option Bool := fun C c => match c with
  | .gl x => if xn.contains x then (xt.lookup C).map fun p => p.1.contains x else none
  | .ty n => if xy.contains n then (xt.lookup C).map fun p => p.2.contains n else none
  | _ => none
def tbB (K : PySem.W.Frag) (xt : XT) (xn : List Str) (xy : List String) : Bool := xt.all fun p => xcB K (He.ga K p.1) &&
  ((xn.all fun x => decide (PySem.W.kitOne K (.ref (He.ga K p.1)) (.ref (He.ga K x)) = some (p.2.1.contains x))) && xy.all fun n => decide (PySem.W.kitOne K (.ref (He.ga K p.1)) (.type n) = some (p.2.2.contains n)))
theorem mem_of_lookup {α β : Type} [BEq α] [LawfulBEq α] {a : α} {b : β} : ∀ {l : List (α × β)}, l.lookup a = some b → (a, b) ∈ l
  | [], h => by cases h
  | (x, y) :: r, h => by
    rw [List.lookup_cons] at h
    cases q : a == x with
    | true =>
      rw [q] at h
      cases h
      obtain rfl := eq_of_beq q
      exact List.mem_cons_self
    | false =>
      rw [q] at h
      exact List.mem_cons_of_mem _ (mem_of_lookup h)
theorem tbB_ok {K : PySem.W.Frag} {xt : XT} {xn : List Str} {xy : List String} (h : tbB K xt xn xy = true) : IsTb K (tbOf xt xn xy) := by
  intro C c b e
  unfold tbOf at e
  have key : ∀ {p : List Str × List String}, xt.lookup C = some p → ExcC K (He.ga K C) ∧ (∀ x ∈ xn, PySem.W.kitOne K (.ref (He.ga K C)) (.ref (He.ga K x)) = some (p.1.contains x)) ∧ ∀ n ∈ xy, PySem.W.kitOne K (.ref (He.ga K C)) (.type n) = some (p.2.contains n) := fun {p} q => by
    have := List.all_eq_true.mp h _ (mem_of_lookup q)
    obtain ⟨h1, h2⟩ := He.ba this
    obtain ⟨h2, h3⟩ := He.ba h2
    exact ⟨(xcB_ok h1).1, fun x hx => of_decide_eq_true (List.all_eq_true.mp h2 x hx), fun x hx => of_decide_eq_true (List.all_eq_true.mp h3 x hx)⟩
  split at e
  · rename_i x
    split at e
    · rename_i hx
      cases q : xt.lookup C with
      | none => rw [q] at e; cases e
      | some p =>
        rw [q] at e
        cases e
        obtain ⟨k1, k2, _⟩ := key q
        refine ⟨k1, .ref (He.ga K x), .ref (He.ga K x), fun lv H v' r => ?_, fun u r => r, k2 x (by simpa using hx)⟩
        cases r; rfl
    · cases e
  · rename_i x
    split at e
    · rename_i hx
      cases q : xt.lookup C with
      | none => rw [q] at e; cases e
      | some p =>
        rw [q] at e
        cases e
        obtain ⟨k1, _, k2⟩ := key q
        refine ⟨k1, .ty x, .type x, fun lv H v' r => ?_, fun u r => r, k2 x (by simpa using hx)⟩
        cases r; rfl
    · cases e
  · cases e
/-- e.f: the classes, no class field of this name -/
def xfsB (K : PySem.W.Frag) (Cs : List Str) (n : Str) : Bool := Cs.all fun C => xcB K (He.ga K C) && He.eqO (PySem.W.findIn K (.ref (He.ga K C)) n) (some none)
theorem xfsB_ok {K : PySem.W.Frag} {Cs : List Str} {n : Str} (h : xfsB K Cs n = true) : ∀ C ∈ Cs, XfC K (He.ga K C) ∧ PySem.W.findIn K (.ref (He.ga K C)) n = some none := fun C hC => by
  obtain ⟨h1, h2⟩ := He.ba (List.all_eq_true.mp h C hC)
  exact ⟨(xcB_ok h1).2, He.eqO_ok h2⟩
/-- the methods of a class -/
def clsBody : Stmt → List Stmt
  | .ClassDef _ _ _ b _ _ _ _ _ _ _ => b
  | _ => []
theorem kon_gl {K : PySem.W.Frag} {h : Heap} {mg : Str → Option Value} (X : K.In h) (G : h.Ns mainGlobals mg) {x : Str} (c : (He.Fa.glo x).ok K = true) : ∃ u v, mg x = some u ∧ RelV v u ∧ ∀ lv H, RP K lv H (.gl x) v :=
  ⟨_, .ref (He.ga K x), He.glo_ok X G c, rfl, fun _ _ => .gl x⟩
end Y
end
section
/-! the D functions of the law. -/
namespace K00
open PySem PySem.Spec PyProof.Rows L2 Y
def xt : XT := [("DuelError", ["DuelError"], ["ValueError", "Exception", "BaseException", "object"]), ("Misread", ["Misread", "DuelError"], ["ValueError", "Exception", "BaseException", "object"]), ("NotATree", ["NotATree", "DuelError"], ["ValueError", "Exception", "BaseException", "object"]), ("NotSound", ["NotSound", "DuelError"], ["ValueError", "Exception", "BaseException", "object"]), ("NotLawful", ["NotLawful", "DuelError"], ["ValueError", "Exception", "BaseException", "object"]), ("NotAKink", ["NotAKink", "DuelError"], ["ValueError", "Exception", "BaseException", "object"]), ("NotAProgram", ["NotAProgram", "DuelError"], ["ValueError", "Exception", "BaseException", "object"]), ("NotAPaper", ["NotAPaper", "DuelError"], ["ValueError", "Exception", "BaseException", "object"]), ("NotRows", ["NotRows", "DuelError"], ["ValueError", "Exception", "BaseException", "object"]), ("NotACode", ["NotACode", "DuelError"], ["ValueError", "Exception", "BaseException", "object"]), ("NotAFraction", ["NotAFraction", "DuelError"], ["ValueError", "Exception", "BaseException", "object"]), ("NotNow", ["NotNow", "DuelError"], ["ValueError", "Exception", "BaseException", "object"]), ("NotADesk", ["NotADesk", "DuelError"], ["ValueError", "Exception", "BaseException", "object"]), ("InvalidAsk", ["InvalidAsk", "DuelError"], ["ValueError", "Exception", "BaseException", "object"]), ("InvalidNumber", ["InvalidNumber", "DuelError"], ["ValueError", "Exception", "BaseException", "object"]), ("InvalidText", ["InvalidText", "DuelError"], ["ValueError", "Exception", "BaseException", "object"]), ("InvalidLine", ["InvalidLine", "DuelError"], ["ValueError", "Exception", "BaseException", "object"]), ("NothingToUndo", ["NothingToUndo", "DuelError"], ["ValueError", "Exception", "BaseException", "object"])]
def xn : List Str := ["DuelError", "Misread", "NotATree", "NotSound", "NotLawful", "NotAKink", "NotAProgram", "NotAPaper", "NotRows", "NotACode", "NotAFraction", "NotNow", "NotADesk", "InvalidAsk", "InvalidNumber", "InvalidText", "InvalidLine", "NothingToUndo"]
def xy : List String := ["ValueError"]
def tb : Str → D → Option Bool := tbOf xt xn xy
def Cs_given : List Str := ["NotATree", "NotSound", "NotLawful", "NotAKink", "NotAProgram", "NotAPaper", "NotRows", "NotACode", "NotAFraction", "NotNow", "NotADesk", "InvalidAsk", "InvalidNumber", "InvalidText", "InvalidLine"]
def Cs_line : List Str := ["Misread"]
def Cs_word : List Str := ["Misread"]
def b__law_pool : SM := sSeq (sSet 2 (eOp opAdd (eOp opMul (eC (.int 7)) (eVar 1)) (eOp opMul (eC (.int 3)) (eB bLen (aCons (eVar 0) (aNil))))))
  (sSeq (sIf (tBl (eOp opLt (eVar 1) (eB bLen (aCons (eVar 0) (aNil)))))
  (sSet 2 (eOp opIx (eVar 0) (eVar 1)))
  (sNext))
  (sSeq (sSet 3 (eB bAbs (aCons (eVar 2) (aNil))))
  (sSeq (sSet 4 (eOp opMod (eB bInt (aCons (eOp opAdd (eOp opAdd (eOp opAdd (eOp opMul (eVar 3) (eC (.int 48271))) (eOp opMul (eC (.int 16807)) (eVar 1))) (eOp opMul (eC (.int 11)) (eB bInt (aCons (eOp opLt (eVar 2) (eC (.int 0))) (aNil))))) (eC (.int 1))) (aNil))) (eC (.int 2305843009213693951))))
  (sSeq (sIf (tBl (eOp opGe (eVar 3) (eC (.int 1000000000000000000))))
  (sRet (eLstL (aCons (eOp opAdd (eOp opMul (eC (.int 2)) (eOp opSub (eVar 3) (eC (.int 1000000000000000000)))) (eB bInt (aCons (eOp opLt (eVar 2) (eC (.int 0))) (aNil)))) (aCons (eVar 4) (aNil)))))
  (sNext))
  (sRet (eLstL (aCons (eC (.int 0)) (aCons (eVar 4) (aNil)))))))))
def F__law_pool : List Wt → Store → Res Wt := mkFn 2 5 b__law_pool
def b__law_take : SM := sSeq (sIf (tBl (eOp opGt (eOp opIx (eVar 0) (eC (.int 0))) (eC (.int 1))))
  (sSeq (sSet 2 (eOp opMod (eB bInt (aCons (eOp opIx (eVar 0) (eC (.int 0))) (aNil))) (eVar 1)))
  (sSeq (sAsg (gSb (eVar 0) (eC (.int 0))) (eOp opFdiv (eOp opIx (eVar 0) (eC (.int 0))) (eVar 1)))
  (sRet (eVar 2))))
  (sNext))
  (sSeq (sSet 2 (eC (.int 0)))
  (sSeq (sSet 3 (eC (.int 1)))
  (sSeq (sWhile fuelW (tBl (eOp opLt (eVar 3) (eOp opMul (eC (.int 16777216)) (eVar 1))))
  (sSeq (sAsg (gSb (eVar 0) (eC (.int 1))) (eOp opMod (eB bInt (aCons (eOp opAdd (eOp opMul (eOp opIx (eVar 0) (eC (.int 1))) (eC (.int 6364136223846793005))) (eC (.int 1442695040888963407))) (aNil))) (eC (.int 18446744073709551616))))
  (sSeq (sSet 2 (eOp opAdd (eOp opMul (eVar 2) (eC (.int 16777216))) (eOp opFdiv (eOp opIx (eVar 0) (eC (.int 1))) (eC (.int 1099511627776)))))
  (sSet 3 (eOp opMul (eVar 3) (eC (.int 16777216)))))))
  (sRet (eOp opMod (eB bInt (aCons (eVar 2) (aNil))) (eVar 1))))))
def F__law_take : List Wt → Store → Res Wt := mkFn 2 4 b__law_take
def b__law_alike (f__law_alike : List Wt → Store → Res Wt) : SM := sSeq (sIf (tOr (tTru (eB bIsi (aCons (eVar 0) (aCons (eC (.ty "bool")) (aNil))))) (tTru (eB bIsi (aCons (eVar 1) (aCons (eC (.ty "bool")) (aNil))))))
  (sRet (eAnd (eB bIsi (aCons (eVar 0) (aCons (eC (.ty "bool")) (aNil)))) (eAnd (eB bIsi (aCons (eVar 1) (aCons (eC (.ty "bool")) (aNil)))) (eOp (opEq false) (eVar 0) (eVar 1)))))
  (sNext))
  (sSeq (sIf (tOr (tTru (eB bIsi (aCons (eVar 0) (aCons (eC (.ty "int")) (aNil))))) (tTru (eB bIsi (aCons (eVar 1) (aCons (eC (.ty "int")) (aNil))))))
  (sRet (eAnd (eB bIsi (aCons (eVar 0) (aCons (eC (.ty "int")) (aNil)))) (eAnd (eB bIsi (aCons (eVar 1) (aCons (eC (.ty "int")) (aNil)))) (eOp (opEq false) (eVar 0) (eVar 1)))))
  (sNext))
  (sSeq (sIf (tOr (tTru (eB bIsi (aCons (eVar 0) (aCons (eC (.ty "str")) (aNil))))) (tTru (eB bIsi (aCons (eVar 1) (aCons (eC (.ty "str")) (aNil))))))
  (sRet (eAnd (eB bIsi (aCons (eVar 0) (aCons (eC (.ty "str")) (aNil)))) (eAnd (eB bIsi (aCons (eVar 1) (aCons (eC (.ty "str")) (aNil)))) (eOp (opEq false) (eVar 0) (eVar 1)))))
  (sNext))
  (sSeq (sIf (tOr (tBl (eOp (opIs false) (eVar 0) (eC .non))) (tBl (eOp (opIs false) (eVar 1) (eC .non))))
  (sRet (eAnd (eOp (opIs false) (eVar 0) (eC .non)) (eOp (opIs false) (eVar 1) (eC .non))))
  (sNext))
  (sSeq (sIf (tOr (tTru (eB bIsi (aCons (eVar 0) (aCons (eC (.ty "dict")) (aNil))))) (tTru (eB bIsi (aCons (eVar 1) (aCons (eC (.ty "dict")) (aNil))))))
  (sRet (eAnd (eB bIsi (aCons (eVar 0) (aCons (eC (.ty "dict")) (aNil)))) (eAnd (eB bIsi (aCons (eVar 1) (aCons (eC (.ty "dict")) (aNil)))) (eChain (opEq false) (opEq false) (eB bLen (aCons (eVar 0) (aNil))) (eB bLen (aCons (eVar 1) (aNil))) (eC (.int 0))))))
  (sNext))
  (sSeq (sIf (tOr (tBl (eOp (opEq true) (eB bIsi (aCons (eVar 0) (aCons (eC (.ty "tuple")) (aNil)))) (eB bIsi (aCons (eVar 1) (aCons (eC (.ty "tuple")) (aNil)))))) (tBl (eOp (opEq true) (eB bIsi (aCons (eVar 0) (aCons (eC (.ty "list")) (aNil)))) (eB bIsi (aCons (eVar 1) (aCons (eC (.ty "list")) (aNil)))))))
  (sRet (eC (.bl false)))
  (sNext))
  (sSeq (sIf (tOr (tNot (tTru (eB bIsi (aCons (eVar 0) (aCons (eTup (aCons (eC (.ty "tuple")) (aCons (eC (.ty "list")) (aNil)))) (aNil)))))) (tBl (eOp (opEq true) (eB bLen (aCons (eVar 0) (aNil))) (eB bLen (aCons (eVar 1) (aNil))))))
  (sRet (eC (.bl false)))
  (sNext))
  (sRet (eB bAll (aCons (eLc (iRng1 (aCons (eB bLen (aCons (eVar 0) (aNil))) (aNil))) (gN 2) (tYs) (eB f__law_alike (aCons (eOp opIx (eVar 0) (eVar 2)) (aCons (eOp opIx (eVar 1) (eVar 2)) (aNil)))) [2]) (aNil))))))))))
def F__law_alike : Nat → List Wt → Store → Res Wt
  | 0 => fun _ _ => .bad
  | k + 1 => mkFn 2 3 (b__law_alike (F__law_alike k))
def b__law_one : SM := sRet (eOp opIx (eVar 1) (eB F__law_take (aCons (eVar 0) (aCons (eB bLen (aCons (eVar 1) (aNil))) (aNil)))))
def F__law_one : List Wt → Store → Res Wt := mkFn 2 2 b__law_one
def b__law_held : SM := sSeq (sIf (tBl (eOp (opEq false) (eVar 0) (eC (.int 0))))
  (sRet (eIf (tTru (eVar 2)) (eMk1 "NotATree" "given" (aCons (eVar 1) (aNil))) (eMk1 "NotATree" "given" (aCons (eVar 1) (aNil)))))
  (sNext))
  (sSeq (sIf (tBl (eOp (opEq false) (eVar 0) (eC (.int 1))))
  (sRet (eIf (tTru (eVar 2)) (eMk1 "NotSound" "given" (aCons (eVar 1) (aNil))) (eMk1 "NotSound" "given" (aCons (eVar 1) (aNil)))))
  (sNext))
  (sSeq (sIf (tBl (eOp (opEq false) (eVar 0) (eC (.int 2))))
  (sRet (eIf (tTru (eVar 2)) (eMk1 "NotLawful" "given" (aCons (eVar 1) (aNil))) (eMk1 "NotLawful" "given" (aCons (eVar 1) (aNil)))))
  (sNext))
  (sSeq (sIf (tBl (eOp (opEq false) (eVar 0) (eC (.int 3))))
  (sRet (eIf (tTru (eVar 2)) (eMk1 "NotAKink" "given" (aCons (eVar 1) (aNil))) (eMk1 "NotAKink" "given" (aCons (eVar 1) (aNil)))))
  (sNext))
  (sSeq (sIf (tBl (eOp (opEq false) (eVar 0) (eC (.int 4))))
  (sRet (eIf (tTru (eVar 2)) (eMk1 "NotAProgram" "given" (aCons (eVar 1) (aNil))) (eMk1 "NotAProgram" "given" (aCons (eVar 1) (aNil)))))
  (sNext))
  (sSeq (sIf (tBl (eOp (opEq false) (eVar 0) (eC (.int 5))))
  (sRet (eIf (tTru (eVar 2)) (eMk1 "NotAPaper" "given" (aCons (eVar 1) (aNil))) (eMk1 "NotAPaper" "given" (aCons (eVar 1) (aNil)))))
  (sNext))
  (sRet (eIf (tTru (eVar 2)) (eMk1 "NotRows" "given" (aCons (eVar 1) (aNil))) (eMk1 "NotRows" "given" (aCons (eVar 1) (aNil))))))))))
def F__law_held : List Wt → Store → Res Wt := mkFn 3 3 b__law_held
def b__law_kept : SM := sSeq (sIf (tBl (eOp (opEq false) (eVar 0) (eC (.int 0))))
  (sRet (eIf (tTru (eVar 2)) (eMk1 "NotACode" "given" (aCons (eVar 1) (aNil))) (eMk1 "NotACode" "given" (aCons (eVar 1) (aNil)))))
  (sNext))
  (sSeq (sIf (tBl (eOp (opEq false) (eVar 0) (eC (.int 1))))
  (sRet (eIf (tTru (eVar 2)) (eMk1 "NotAFraction" "given" (aCons (eVar 1) (aNil))) (eMk1 "NotAFraction" "given" (aCons (eVar 1) (aNil)))))
  (sNext))
  (sSeq (sIf (tBl (eOp (opEq false) (eVar 0) (eC (.int 2))))
  (sRet (eIf (tTru (eVar 2)) (eMk1 "NotNow" "given" (aCons (eVar 1) (aNil))) (eMk1 "NotNow" "given" (aCons (eVar 1) (aNil)))))
  (sNext))
  (sSeq (sIf (tBl (eOp (opEq false) (eVar 0) (eC (.int 3))))
  (sRet (eIf (tTru (eVar 2)) (eMk1 "NotADesk" "given" (aCons (eVar 1) (aNil))) (eMk1 "NotADesk" "given" (aCons (eVar 1) (aNil)))))
  (sNext))
  (sSeq (sIf (tBl (eOp (opEq false) (eVar 0) (eC (.int 4))))
  (sRet (eIf (tTru (eVar 2)) (eMk1 "InvalidAsk" "given" (aCons (eVar 1) (aNil))) (eMk1 "InvalidAsk" "given" (aCons (eVar 1) (aNil)))))
  (sNext))
  (sSeq (sIf (tBl (eOp (opEq false) (eVar 0) (eC (.int 5))))
  (sRet (eIf (tTru (eVar 2)) (eMk1 "InvalidNumber" "given" (aCons (eVar 1) (aNil))) (eMk1 "InvalidNumber" "given" (aCons (eVar 1) (aNil)))))
  (sNext))
  (sSeq (sIf (tBl (eOp (opEq false) (eVar 0) (eC (.int 6))))
  (sRet (eIf (tTru (eVar 2)) (eMk1 "InvalidText" "given" (aCons (eVar 1) (aNil))) (eMk1 "InvalidText" "given" (aCons (eVar 1) (aNil)))))
  (sNext))
  (sRet (eIf (tTru (eVar 2)) (eMk1 "InvalidLine" "given" (aCons (eVar 1) (aNil))) (eMk1 "InvalidLine" "given" (aCons (eVar 1) (aNil)))))))))))
def F__law_kept : List Wt → Store → Res Wt := mkFn 3 3 b__law_kept
def b__law_kinds_of : SM := sSeq (sSet 1 (eLst (aCons (eB (bIsX tb) (aCons (eVar 0) (aCons (eC (.gl "NotATree")) (aNil)))) (aCons (eB (bIsX tb) (aCons (eVar 0) (aCons (eC (.gl "NotSound")) (aNil)))) (aCons (eB (bIsX tb) (aCons (eVar 0) (aCons (eC (.gl "NotLawful")) (aNil)))) (aCons (eB (bIsX tb) (aCons (eVar 0) (aCons (eC (.gl "NotAKink")) (aNil)))) (aCons (eB (bIsX tb) (aCons (eVar 0) (aCons (eC (.gl "NotAProgram")) (aNil)))) (aCons (eB (bIsX tb) (aCons (eVar 0) (aCons (eC (.gl "NotAPaper")) (aNil)))) (aNil)))))))))
  (sSeq (sSet 1 (eOp opAdd (eVar 1) (eLst (aCons (eB (bIsX tb) (aCons (eVar 0) (aCons (eC (.gl "NotRows")) (aNil)))) (aCons (eB (bIsX tb) (aCons (eVar 0) (aCons (eC (.gl "NotACode")) (aNil)))) (aCons (eB (bIsX tb) (aCons (eVar 0) (aCons (eC (.gl "NotAFraction")) (aNil)))) (aCons (eB (bIsX tb) (aCons (eVar 0) (aCons (eC (.gl "NotNow")) (aNil)))) (aCons (eB (bIsX tb) (aCons (eVar 0) (aCons (eC (.gl "NotADesk")) (aNil)))) (aNil)))))))))
  (sSeq (sSet 1 (eOp opAdd (eVar 1) (eLst (aCons (eB (bIsX tb) (aCons (eVar 0) (aCons (eC (.gl "InvalidAsk")) (aNil)))) (aCons (eB (bIsX tb) (aCons (eVar 0) (aCons (eC (.gl "InvalidNumber")) (aNil)))) (aCons (eB (bIsX tb) (aCons (eVar 0) (aCons (eC (.gl "InvalidText")) (aNil)))) (aCons (eB (bIsX tb) (aCons (eVar 0) (aCons (eC (.gl "InvalidLine")) (aNil)))) (aNil))))))))
  (sSeq (sSet 1 (eOp opAdd (eVar 1) (eLst (aCons (eB (bIsX tb) (aCons (eVar 0) (aCons (eC (.gl "Misread")) (aNil)))) (aCons (eB (bIsX tb) (aCons (eVar 0) (aCons (eC (.gl "NothingToUndo")) (aNil)))) (aNil))))))
  (sRet (eLc (iEnu (aCons (eVar 1) (aNil))) (gT 2 (gN1 (gN 2) (gN1 (gN 3) (gN0)))) (tTru (eVar 3)) (eVar 2) [2, 3])))))
def F__law_kinds_of : List Wt → Store → Res Wt := mkFn 1 4 b__law_kinds_of
def b__law_right : SM := sSeq (sSet 1 (eLst (aCons (eC .non) (aCons (eC (.int 0)) (aCons (eUn opNeg (eC (.int 1))) (aCons (eC (.bl true)) (aCons (eC (.str "")) (aCons (eC (.str "pay 1\n")) (aCons (eTup (aNil)) (aCons (eTup (aCons (eC (.int 1)) (aCons (eTup (aCons (eC (.int 2)) (aCons (eC (.str "a")) (aNil)))) (aNil)))) (aCons (eLst (aCons (eC (.int 3)) (aNil))) (aCons (eC (.dct [] [])) (aCons (eOp opPow (eC (.int 10)) (eC (.int 29))) (aCons (eB F__law_take (aCons (eVar 0) (aCons (eC (.int 99)) (aNil)))) (aNil)))))))))))))))
  (sSeq (sFor (iRng1 (aCons (eC (.int 15)) (aNil))) (gN 2)
  (sSeq (sSet 3 (eB F__law_one (aCons (eVar 0) (aCons (eVar 1) (aNil)))))
  (sSeq (sSet 4 (eIf (tBl (eOp opLt (eVar 2) (eC (.int 7)))) (eB F__law_held (aCons (eVar 2) (aCons (eVar 3) (aCons (eOp (opEq false) (eB F__law_take (aCons (eVar 0) (aCons (eC (.int 2)) (aNil)))) (eC (.int 0))) (aNil))))) (eB F__law_kept (aCons (eOp opSub (eVar 2) (eC (.int 7))) (aCons (eVar 3) (aCons (eOp (opEq false) (eB F__law_take (aCons (eVar 0) (aCons (eC (.int 2)) (aNil)))) (eC (.int 0))) (aNil)))))))
  (sIf (tOr (tNot (tTru (eB (F__law_alike 8) (aCons (eXf Cs_given "given" (eVar 4)) (aCons (eVar 3) (aNil)))))) (tOr (tBl (eOp (opEq true) (eB F__law_kinds_of (aCons (eVar 4) (aNil))) (eLst (aCons (eVar 2) (aNil))))) (tOr (tNot (tTru (eB (bIsX tb) (aCons (eVar 4) (aCons (eC (.gl "DuelError")) (aNil)))))) (tNot (tTru (eB (bIsX tb) (aCons (eVar 4) (aCons (eC (.ty "ValueError")) (aNil)))))))))
  (sRet (eC (.bl false)))
  (sNext)))))
  (sSeq (sPar 5 6 (aCons (eB F__law_one (aCons (eVar 0) (aCons (eVar 1) (aNil)))) (aCons (eB F__law_one (aCons (eVar 0) (aCons (eVar 1) (aNil)))) (aNil))))
  (sSeq (sFor (iVal (eTup (aCons (eMk2 "Misread" "line" "word" (aCons (eVar 5) (aCons (eVar 6) (aNil)))) (aCons (eMk2R "Misread" "line" "word" (aCons (eVar 6) (aCons (eVar 5) (aNil)))) (aNil))))) (gN 4)
  (sIf (tOr (tNot (tTru (eB (F__law_alike 8) (aCons (eTup (aCons (eXf Cs_line "line" (eVar 4)) (aCons (eXf Cs_word "word" (eVar 4)) (aNil)))) (aCons (eTup (aCons (eVar 5) (aCons (eVar 6) (aNil)))) (aNil)))))) (tOr (tBl (eOp (opEq true) (eB F__law_kinds_of (aCons (eVar 4) (aNil))) (eLst (aCons (eC (.int 15)) (aNil))))) (tNot (tTru (eB (bIsX tb) (aCons (eVar 4) (aCons (eC (.gl "DuelError")) (aNil))))))))
  (sRet (eC (.bl false)))
  (sNext)))
  (sSeq (sSet 4 (eMk0 "NothingToUndo"))
  (sRet (eAnd (eOp (opEq false) (eB F__law_kinds_of (aCons (eVar 4) (aNil))) (eLst (aCons (eC (.int 16)) (aNil)))) (eAnd (eB (bIsX tb) (aCons (eVar 4) (aCons (eC (.gl "DuelError")) (aNil)))) (eAnd (eB (bIsX tb) (aCons (eMk0 "DuelError") (aCons (eC (.ty "ValueError")) (aNil)))) (eOp (opEq false) (eB F__law_kinds_of (aCons (eMk0 "DuelError") (aNil))) (eLst (aNil)))))))))))
def F__law_right : List Wt → Store → Res Wt := mkFn 1 7 b__law_right
def b_law : SM := sSeq (sFor (iRng1 (aCons (eB bMin (aCons (eC (.int 8)) (aCons (eB bMax (aCons (eC (.int 3)) (aCons (eB bLen (aCons (eVar 0) (aNil))) (aNil)))) (aNil)))) (aNil))) (gN 1)
  (sIf (tNot (tTru (eB F__law_right (aCons (eB F__law_pool (aCons (eVar 0) (aCons (eVar 1) (aNil)))) (aNil)))))
  (sRet (eC (.bl false)))
  (sNext)))
  (sRet (eC (.bl true)))
def F_law : List Wt → Store → Res Wt := mkFn 1 2 b_law
end K00
end
section
/-! the pool of numbers -/
namespace Y
open PySem PySem.Spec PyProof.Rows L2
theorem mulOk_of {i j : Int} (h : i.natAbs.log2 ≤ 50000000) (h' : j.natAbs.log2 ≤ 50000000) : mulOk i j = true := by
  unfold mulOk
  exact decide_eq_true (by omega)
theorem log_small {i : Int} (h : i.natAbs ≤ 50000000) : i.natAbs.log2 ≤ 50000000 := Nat.le_trans (Nat.log2_le_self _) h
theorem log_lt {n m : Nat} (h : n < 2 ^ m) (hm : m ≤ 50000000) : n.log2 ≤ 50000000 := by
  by_cases e : n = 0
  · subst e; simp
  · have := (Nat.log2_lt e).mpr h
    omega
theorem log_mono {n m : Nat} (h : n ≤ m) : n.log2 ≤ m.log2 := by
  by_cases e : n = 0
  · subst e; simp
  · exact (Nat.le_log2 (by omega)).mpr (Nat.le_trans ((Nat.le_log2 e).mp (Nat.le_refl _)) h)
theorem mulOk_c {i j : Int} (h : i.natAbs ≤ 50000000) (h' : j.natAbs ≤ 50000000) : mulOk i j = true := mulOk_of (log_small h) (log_small h')
theorem log_bits {z : Int} (h : Builtin.Int.intBits z ≤ 1048576) : z.natAbs.log2 ≤ 1048576 := by
  unfold Builtin.Int.intBits at h
  split at h
  · rename_i e
    simp at e
    subst e
    simp
  · omega
@[simp] theorem fin_new {S : Store} {c : Cell} : finish S.length (.rt (.loc S.length) (S ++ [c])) = .ok (.loc S.length) (S ++ [c]) := by simp [finish]
def PoolOk (a b : Int) : Prop := 0 ≤ a ∧ 0 ≤ b ∧ b < 2 ^ 64
/-- the n-th cell is a pool -/
def Pl (n : Nat) (S : Store) : Prop := ∃ a b, S[n]? = some (.lst [.int a, .int b]) ∧ PoolOk a b
/-- only the pool has moved -/
def Mv (n : Nat) (S S' : Store) : Prop := ∃ a b, S' = S.set n (.lst [.int a, .int b]) ∧ PoolOk a b ∧ n < S.length
theorem Mv.pl {n : Nat} {S S' : Store} (h : Mv n S S') : Pl n S' := by
  obtain ⟨a, b, rfl, p, hn⟩ := h
  exact ⟨a, b, by rw [List.getElem?_set_self hn], p⟩
theorem Pl.mv {n : Nat} {S : Store} (h : Pl n S) : Mv n S S := by
  obtain ⟨a, b, e, p⟩ := h
  obtain ⟨hn, e2⟩ := List.getElem?_eq_some_iff.mp e
  refine ⟨a, b, ?_, p, hn⟩
  rw [← e2, List.set_getElem_self]
theorem Mv.trans {n : Nat} {S S' S'' : Store} (h : Mv n S S') (g : Mv n S' S'') : Mv n S S'' := by
  obtain ⟨a, b, rfl, p, hn⟩ := h
  obtain ⟨c, d, rfl, q, _⟩ := g
  exact ⟨c, d, by rw [List.set_set], q, hn⟩
theorem Mv.length {n : Nat} {S S' : Store} (h : Mv n S S') : S'.length = S.length := by
  obtain ⟨a, b, rfl, _⟩ := h
  simp
theorem Mv.app {n : Nat} {S S' T : Store} (h : Mv n S S') : Mv n (S ++ T) (S' ++ T) := by
  obtain ⟨a, b, rfl, p, hn⟩ := h
  exact ⟨a, b, by rw [List.set_append_left _ _ hn], p, by rw [List.length_append]; omega⟩
theorem Pl.app {n : Nat} {S T : Store} (h : Pl n S) : Pl n (S ++ T) := by
  obtain ⟨a, b, e, p⟩ := h
  exact ⟨a, b, by rw [List.getElem?_append_left (List.getElem?_eq_some_iff.mp e).1]; exact e, p⟩
theorem Pl.lt {n : Nat} {S : Store} (h : Pl n S) : n < S.length := by
  obtain ⟨a, b, e, p⟩ := h
  exact (List.getElem?_eq_some_iff.mp e).1
theorem Mv.back {n : Nat} {S S' T : Store} (h : Mv n (S ++ T) S') (hn : n < S.length) : ∃ S1, S' = S1 ++ T ∧ Mv n S S1 := by
  obtain ⟨a, b, rfl, p, _⟩ := h
  exact ⟨S.set n (.lst [.int a, .int b]), by rw [List.set_append_left _ _ hn], a, b, rfl, p, hn⟩
theorem fmod_range {a m : Int} (h : 0 < m) : 0 ≤ a.fmod m ∧ a.fmod m < m := by
  rw [Int.fmod_eq_emod_of_nonneg _ (Int.le_of_lt h)]
  exact ⟨Int.emod_nonneg _ (by omega), Int.emod_lt_of_pos _ h⟩
theorem fdiv_nonneg {a m : Int} (ha : 0 ≤ a) (h : 0 < m) : 0 ≤ a.fdiv m := by
  rw [Int.fdiv_eq_ediv_of_nonneg _ (Int.le_of_lt h)]
  exact Int.ediv_nonneg ha (Int.le_of_lt h)
theorem atIn {α : Type} {l : List α} {k : Nat} : atI l (k : Int) = l[k]? := by
  unfold atI ixN
  by_cases h : k < l.length
  · rw [if_pos (by omega), if_pos (by omega)]; rfl
  · rw [if_pos (by omega), if_neg (by omega), List.getElem?_eq_none (by omega)]; rfl
@[simp] theorem atI_0 {α : Type} {a : α} {l : List α} : atI (a :: l) 0 = some a := by
  have := atIn (l := a :: l) (k := 0)
  simpa using this
@[simp] theorem atI_1 {α : Type} {a b : α} {l : List α} : atI (a :: b :: l) 1 = some b := by
  have := atIn (l := a :: b :: l) (k := 1)
  simpa using this
end Y
namespace K00
open PySem PySem.Spec PyProof.Rows L2 Y
theorem pool_ok {ns : List Int} (hb : ∀ z ∈ ns, Builtin.Int.intBits z ≤ 1048576) (hn : ns.length ≤ 63) (k : Nat) (hk : k ≤ 100) (S : Store) :
    ∃ a b, PoolOk a b ∧ F__law_pool [scr ns, .d (.int k)] S = .ok (.loc S.length) (S ++ [.lst [.int a, .int b]]) := by
  have k1 : (k : Int).natAbs ≤ 50000000 := by omega
  have k2 : ((ns.length : Nat) : Int).natAbs ≤ 50000000 := by omega
  have m1 : mulOk 7 k = true := mulOk_c (by omega) (by omega)
  have m2 : mulOk 3 ns.length = true := mulOk_c (by omega) (by omega)
  have m3 : mulOk 16807 k = true := mulOk_c (by omega) (by omega)
  have key : ∀ c : Int, c.natAbs.log2 ≤ 1048576 → ∀ (S : Store), ∃ a b, PoolOk a b ∧ finish S.length ((sSeq (sSet 3 (eB bAbs (aCons (eVar 2) (aNil))))
  (sSeq (sSet 4 (eOp opMod (eB bInt (aCons (eOp opAdd (eOp opAdd (eOp opAdd (eOp opMul (eVar 3) (eC (.int 48271))) (eOp opMul (eC (.int 16807)) (eVar 1))) (eOp opMul (eC (.int 11)) (eB bInt (aCons (eOp opLt (eVar 2) (eC (.int 0))) (aNil))))) (eC (.int 1))) (aNil))) (eC (.int 2305843009213693951))))
  (sSeq (sIf (tBl (eOp opGe (eVar 3) (eC (.int 1000000000000000000))))
  (sRet (eLstL (aCons (eOp opAdd (eOp opMul (eC (.int 2)) (eOp opSub (eVar 3) (eC (.int 1000000000000000000)))) (eB bInt (aCons (eOp opLt (eVar 2) (eC (.int 0))) (aNil)))) (aCons (eVar 4) (aNil)))))
  (sNext))
  (sRet (eLstL (aCons (eC (.int 0)) (aCons (eVar 4) (aNil)))))))) S.length [some (scr ns), some (.d (.int k)), some (.d (.int c)), none, none] S) = .ok (.loc S.length) (S ++ [.lst [.int a, .int b]]) := by
    intro c hc S
    have a1 : (if c < 0 then -c else c).natAbs = c.natAbs := by split <;> omega
    have m4 : mulOk 11 (if c < 0 then 1 else 0) = true := by split <;> exact mulOk_c (by decide) (by decide)
    have m5 : mulOk (if c < 0 then -c else c) 48271 = true := mulOk_of (by rw [a1]; omega) (by decide)
    have m6 : mulOk 2 ((if c < 0 then -c else c) - 1000000000000000000) = true := mulOk_of (by decide) (by
      by_cases h : (if c < 0 then -c else c) - 1000000000000000000 < 0
      · exact log_lt (m := 64) (by split at h <;> omega) (by omega)
      · exact Nat.le_trans (log_mono (show _ ≤ c.natAbs by split at h <;> omega)) (by omega))
    obtain ⟨f1, f2⟩ := fmod_range (a := (if c < 0 then -c else c) * 48271 + 16807 * k + 11 * (if c < 0 then 1 else 0) + 1) (m := 2305843009213693951) (by decide)
    by_cases h : (if c < 0 then -c else c) ≥ 1000000000000000000
    · have n1 : (0 : Int) ≤ (if c < 0 then 1 else 0) := by split <;> omega
      exact ⟨2 * ((if c < 0 then -c else c) - 1000000000000000000) + (if c < 0 then 1 else 0), _, ⟨by omega, f1, by omega⟩, by simp [m1, m3, m4, m5, m6, h]⟩
    · exact ⟨0, _, ⟨by omega, f1, by omega⟩, by simp [m1, m3, m4, m5, m6, h]⟩
  unfold F__law_pool b__law_pool
  by_cases h : k < ns.length
  · obtain ⟨a, b, p, e⟩ := key ns[k] (log_bits (hb _ (List.getElem_mem h))) S
    refine ⟨a, b, p, ?_⟩
    rw [← e]
    simp [mkFn_eq, scr, m1, m2, h, atIn]
  · obtain ⟨a, b, p, e⟩ := key (7 * k + 3 * ns.length) (Nat.le_trans (Nat.log2_le_self _) (by omega)) S
    refine ⟨a, b, p, ?_⟩
    rw [← e]
    simp [mkFn_eq, scr, m1, m2, h]
theorem take_loop {n : Nat} {many a : Int} (h1 : 1 ≤ many) (h2 : many ≤ 50000000) (b0 : Nat) : ∀ (j : Nat) (N : Nat) (S : Store) (b told R : Int), j + 1 ≤ N → S[n]? = some (.lst [.int a, .int b]) → 0 ≤ b → b < 2 ^ 64 → 0 ≤ told → told < R → R ≤ 2 ^ 80 → 2 ^ 72 ≤ R * 2 ^ (24 * j) →
    ∃ b' told' reach, 0 ≤ b' ∧ b' < 2 ^ 64 ∧ 0 ≤ told' ∧ whileN (tBl (eOp opLt (eVar 3) (eOp opMul (eC (.int 16777216)) (eVar 1))))
  (sSeq (sAsg (gSb (eVar 0) (eC (.int 1))) (eOp opMod (eB bInt (aCons (eOp opAdd (eOp opMul (eOp opIx (eVar 0) (eC (.int 1))) (eC (.int 6364136223846793005))) (eC (.int 1442695040888963407))) (aNil))) (eC (.int 18446744073709551616))))
  (sSeq (sSet 2 (eOp opAdd (eOp opMul (eVar 2) (eC (.int 16777216))) (eOp opFdiv (eOp opIx (eVar 0) (eC (.int 1))) (eC (.int 1099511627776)))))
  (sSet 3 (eOp opMul (eVar 3) (eC (.int 16777216)))))) N b0 [some (.loc n), some (.d (.int many)), some (.d (.int told)), some (.d (.int R))] S = .nx [some (.loc n), some (.d (.int many)), some (.d (.int told')), some (.d (.int reach))] (S.set n (.lst [.int a, .int b'])) := by
  have m0 : mulOk 16777216 many = true := mulOk_c (by decide) (by omega)
  intro j
  induction j with
  | zero =>
    intro N S b told R hN e pb pb2 ht ht2 hR hR2
    have hs : S.set n (.lst [.int a, .int b]) = S := by rw [← (List.getElem?_eq_some_iff.mp e).2, List.set_getElem_self]
    refine ⟨b, told, R, pb, pb2, ht, ?_⟩
    rw [while_turn (by omega), hs]
    have hc : ¬ R < 16777216 * many := by omega
    simp [m0, hc]
  | succ j ih =>
    intro N S b told R hN e pb pb2 ht ht2 hR hR2
    have hn := (List.getElem?_eq_some_iff.mp e).1
    by_cases hc : R < 16777216 * many
    · have e1 : ixN 2 1 = some 1 := by decide
      obtain ⟨f1, f2⟩ := fmod_range (a := b * 6364136223846793005 + 1442695040888963407) (m := 18446744073709551616) (by decide)
      generalize hb' : (b * 6364136223846793005 + 1442695040888963407).fmod 18446744073709551616 = b1 at f1 f2
      have d1 := fdiv_nonneg (a := b1) (m := 1099511627776) f1 (by decide)
      have d2 : b1.fdiv 1099511627776 < 16777216 := by rw [Int.fdiv_eq_ediv_of_nonneg _ (by decide)]; omega
      have e' : (S.set n (.lst [.int a, .int b1]))[n]? = some (.lst [.int a, .int b1]) := List.getElem?_set_self hn
      obtain ⟨b', told', reach, q1, q2, q3, q4⟩ := ih (N - 1) _ b1 (told * 16777216 + b1.fdiv 1099511627776) (R * 16777216) (by omega) e' f1 f2 (by omega) (by omega) (by omega) (by
        have : R * 16777216 * 2 ^ (24 * j) = R * 2 ^ (24 * (j + 1)) := by
          rw [show 24 * (j + 1) = 24 + 24 * j by omega, Int.pow_add, ← Int.mul_assoc]
          rfl
        omega)
      refine ⟨b', told', reach, q1, q2, q3, ?_⟩
      rw [List.set_set] at q4
      have m1 : mulOk b 6364136223846793005 = true := mulOk_of (log_lt (m := 64) (by omega) (by omega)) (by decide)
      have m2 : mulOk told 16777216 = true := mulOk_of (log_lt (m := 80) (by omega) (by omega)) (by decide)
      have m3 : mulOk R 16777216 = true := mulOk_of (log_lt (m := 81) (by omega) (by omega)) (by decide)
      have l1 : Nat.log2 1099511627776 < 9000 := by decide
      rw [while_turn (by omega), ← q4]
      simp [m0, m1, m2, m3, hc, ix_loc e, hb', set_loc (k := 1) e e1, ix_loc e', l1]
    · have hs : S.set n (.lst [.int a, .int b]) = S := by rw [← (List.getElem?_eq_some_iff.mp e).2, List.set_getElem_self]
      refine ⟨b, told, R, pb, pb2, ht, ?_⟩
      rw [while_turn (by omega), hs]
      simp [m0, hc]
theorem take_ok {n : Nat} {S : Store} (hp : Pl n S) {many : Int} (h1 : 1 ≤ many) (h2 : many ≤ 50000000) :
    ∃ r S', F__law_take [.loc n, .d (.int many)] S = .ok (.d (.int r)) S' ∧ Mv n S S' ∧ 0 ≤ r ∧ r < many := by
  obtain ⟨a, b, e, pa, pb, pb2⟩ := hp
  have hn := (List.getElem?_eq_some_iff.mp e).1
  have hl : many.natAbs.log2 < 9000 := by
    have : many.natAbs.log2 ≤ 50000000 := log_small (by omega)
    have := (Nat.log2_lt (n := many.natAbs) (k := 26) (by omega)).mpr (by omega)
    omega
  have hne : many ≠ 0 := by omega
  unfold F__law_take b__law_take
  by_cases ha : a > 1
  · obtain ⟨f1, f2⟩ := fmod_range (a := a) (m := many) (by omega)
    refine ⟨_, S.set n (.lst [.int (a.fdiv many), .int b]), ?_, ⟨_, _, rfl, ⟨fdiv_nonneg pa (by omega), pb, pb2⟩, hn⟩, f1, f2⟩
    have e0 : ixN 2 0 = some 0 := by decide
    simp [mkFn_eq, ix_loc e, ha, hne, hl, set_loc (k := 0) e e0]
  · obtain ⟨b', told', R, q1, q2, q3, q4⟩ := take_loop h1 h2 S.length 3 fuelW S b 0 1 (by decide) e pb pb2 (by decide) (by decide) (by decide) (by decide)
    obtain ⟨f1, f2⟩ := fmod_range (a := told') (m := many) (by omega)
    refine ⟨_, S.set n (.lst [.int a, .int b']), ?_, ⟨_, _, rfl, ⟨pa, q1, q2⟩, hn⟩, f1, f2⟩
    simp [mkFn_eq, ix_loc e, ha, q4, hne]
theorem one_ok {n : Nat} {S : Store} (hp : Pl n S) {l : List D} (h1 : l ≠ []) (h2 : l.length ≤ 50000000) :
    ∃ d ∈ l, ∃ S', F__law_one [.loc n, .d (.tup l)] S = .ok (.d d) S' ∧ Mv n S S' := by
  have hl : 0 < l.length := List.length_pos_iff.mpr h1
  obtain ⟨r, S', e, mv, r1, r2⟩ := take_ok hp (many := l.length) (by omega) (by omega)
  have hr : r.toNat < l.length := by omega
  refine ⟨l[r.toNat], List.getElem_mem hr, S', ?_, mv⟩
  have : atI l r = some l[r.toNat] := by
    have := atIn (l := l) (k := r.toNat)
    rw [show ((r.toNat : Nat) : Int) = r by omega] at this
    rw [this, List.getElem?_eq_getElem hr]
  unfold F__law_one b__law_one
  simp [mkFn_eq, e, this, ← mv.length]
/-- alike: of texts -/
theorem alike_str {x y : Str} {k : Nat} {S : Store} : F__law_alike (k + 1) [.d (.str x), .d (.str y)] S = .ok (.d (.bl (decide (x = y)))) S := by
  unfold F__law_alike b__law_alike
  simp [mkFn_eq]
end K00
end
section
/-! alike, of what is given -/
namespace Y
open PySem PySem.Spec PyProof.Rows L2
theorem take_mv {n : Nat} {S S' : Store} (h : Mv n S S') : S'.take S.length = S' := by rw [← h.length, List.take_length]
theorem eq_of {A B : D} {neg b : Bool} {S : Store} (h1 : eqOk A B = true) (h2 : deq A B = b) : opEq neg (.d A) (.d B) S = .ok (.d (.bl (if neg then !b else b))) S := by
  simp only [opEq, deref_d, if_pos h1, h2]
end Y
namespace K00
open PySem PySem.Spec PyProof.Rows L2 Y
/-- alike itself -/
def Al (k : Nat) (d : D) : Prop := ∀ S, F__law_alike k [.d d, .d d] S = .ok (.d (.bl true)) S
theorem al_non {k : Nat} : Al (k + 1) .non := fun S => by
  unfold F__law_alike b__law_alike
  simp [mkFn_eq]
theorem al_bl {k : Nat} {b : Bool} : Al (k + 1) (.bl b) := fun S => by
  unfold F__law_alike b__law_alike
  simp [mkFn_eq]
theorem al_int {k : Nat} {b : Int} : Al (k + 1) (.int b) := fun S => by
  unfold F__law_alike b__law_alike
  simp [mkFn_eq]
theorem al_str {k : Nat} {b : Str} : Al (k + 1) (.str b) := fun S => by
  unfold F__law_alike b__law_alike
  simp [mkFn_eq]
theorem len_dct {ks : List Key} {l : List D} {S : Store} : bLen [.d (.dct ks l)] S = .ok (.d (.int ks.length)) S := rfl
theorem al_dct {k : Nat} : Al (k + 1) (.dct [] []) := fun S => by
  unfold F__law_alike b__law_alike
  simp [mkFn_eq, len_dct]
theorem alike_sub {k : Nat} {l : List D} (ih : ∀ d ∈ l, Al (k + 1) d) (hl : l.length ≤ 1000) {σ : Ev} {S : Store} {q : D} (hq : q = .tup l ∨ q = .lst l) (e : σ = [some (.d q), some (.d q), none]) :
    eLc (iRng1 (aCons (eB bLen (aCons (eVar 0) (aNil))) (aNil))) (gN 2) (tYs) (eB (F__law_alike (k + 1)) (aCons (eOp opIx (eVar 0) (eVar 2)) (aCons (eOp opIx (eVar 1) (eVar 2)) (aNil)))) [2] σ S = .ok (.d (.lst ((rng 0 l.length).map fun _ => .bl true))) S := by
  subst e
  have h1 : (iRng1 (aCons (eB bLen (aCons (eVar 0) (aNil))) (aNil))) [some (.d q), some (.d q), none] S = .ok (rng 0 l.length) S := by
    rcases hq with rfl | rfl <;> simp [rg1_nat (show l.length ≤ 100000000 by omega)]
  refine eLc_map _ h1 (by simp; omega) ?_
  intro d hd acc
  obtain ⟨i, hi, rfl⟩ := rng_mem hd
  have e1 : ((0 : Int) + i) = (i : Nat) := by omega
  refine ⟨_, by simp [wipeD]; rfl, by simp, ?_⟩
  have := ih _ (List.getElem_mem hi) (S ++ [.lst acc])
  rcases hq with rfl | rfl <;> simp [wipeD, atIn, hi, this]
theorem al_tup {k : Nat} {l : List D} (ih : ∀ d ∈ l, Al (k + 1) d) (hl : l.length ≤ 1000) : Al (k + 2) (.tup l) := fun S => by
  have hc := fun S => alike_sub ih hl (S := S) (.inl rfl) rfl
  have ha := fun S : Store => all_ok (l := (rng 0 l.length).map fun _ => D.bl true) (S := S) (by simp)
  unfold F__law_alike b__law_alike
  simp [mkFn_eq, hc, ha]
theorem al_lst {k : Nat} {l : List D} (ih : ∀ d ∈ l, Al (k + 1) d) (hl : l.length ≤ 1000) : Al (k + 2) (.lst l) := fun S => by
  have hc := fun S => alike_sub ih hl (S := S) (.inr rfl) rfl
  have ha := fun S : Store => all_ok (l := (rng 0 l.length).map fun _ => D.bl true) (S := S) (by simp)
  unfold F__law_alike b__law_alike
  simp [mkFn_eq, hc, ha]
def VL (x : Int) : List D := [.non, .int 0, .int (-1), .bl true, .str "", .str "pay 1\n", .tup [], .tup [.int 1, .tup [.int 2, .str "a"]], .lst [.int 3], .dct [] [], .int 100000000000000000000000000000, .int x]
theorem al_VL {k : Nat} {x : Int} {d : D} (h : d ∈ VL x) : Al (k + 3) d := by
  have s1 : Al (k + 2) (.tup [.int 2, .str "a"]) := al_tup (k := k) (fun d h => by
    simp only [List.mem_cons, List.not_mem_nil, or_false] at h
    rcases h with rfl | rfl
    · exact al_int
    · exact al_str) (by decide)
  simp only [VL, List.mem_cons, List.not_mem_nil, or_false] at h
  rcases h with rfl | rfl | rfl | rfl | rfl | rfl | rfl | rfl | rfl | rfl | rfl | rfl
  · exact al_non
  · exact al_int
  · exact al_int
  · exact al_bl
  · exact al_str
  · exact al_str
  · exact al_tup (k := k + 1) (fun d h => by cases h) (by decide)
  · exact al_tup (k := k + 1) (fun d h => by
      simp only [List.mem_cons, List.not_mem_nil, or_false] at h
      rcases h with rfl | rfl
      · exact al_int
      · exact s1) (by decide)
  · exact al_lst (k := k + 1) (fun d h => by
      simp only [List.mem_cons, List.not_mem_nil, or_false] at h
      subst h
      exact al_int) (by decide)
  · exact al_dct
  · exact al_int
  · exact al_int
end K00
end
section
/-! the errors -/
namespace K00
open PySem PySem.Spec PyProof.Rows L2 Y
theorem one_lst {n : Nat} {S : Store} (hp : Pl n S) {l : List D} (h1 : l ≠ []) (h2 : l.length ≤ 50000000) :
    ∃ d ∈ l, ∃ S', F__law_one [.loc n, .d (.lst l)] S = .ok (.d d) S' ∧ Mv n S S' := by
  have hl : 0 < l.length := List.length_pos_iff.mpr h1
  obtain ⟨r, S', e, mv, r1, r2⟩ := take_ok hp (many := l.length) (by omega) (by omega)
  have hr : r.toNat < l.length := by omega
  refine ⟨l[r.toNat], List.getElem_mem hr, S', ?_, mv⟩
  have : atI l r = some l[r.toNat] := by
    have := atIn (l := l) (k := r.toNat)
    rw [show ((r.toNat : Nat) : Int) = r by omega] at this
    rw [this, List.getElem?_eq_getElem hr]
  unfold F__law_one b__law_one
  simp [mkFn_eq, e, this, ← mv.length]
@[simp] theorem eMk1_ap {C f : Str} {g : AM} {σ : Ev} {S : Store} : eMk1 C f g σ S = (g σ S).bind fun ws S1 => mk1D C f ws S1 := rfl
@[simp] theorem mk1_d {C f : Str} {x : D} {S : Store} : mk1D C f [.d x] S = .ok (.d (.exo C [f] [x])) S := rfl
@[simp] theorem eMk2_ap {C f g : Str} {h : AM} {σ : Ev} {S : Store} : eMk2 C f g h σ S = (h σ S).bind fun ws S1 => mk2D C f g ws S1 := rfl
@[simp] theorem mk2_d {C f g : Str} {x y : D} {S : Store} : mk2D C f g [.d x, .d y] S = .ok (.d (.exo C [g, f] [y, x])) S := rfl
@[simp] theorem eMk2R_ap {C f g : Str} {h : AM} {σ : Ev} {S : Store} : eMk2R C f g h σ S = (h σ S).bind fun ws S1 => mk2R C f g ws S1 := rfl
@[simp] theorem mk2R_d {C f g : Str} {x y : D} {S : Store} : mk2R C f g [.d y, .d x] S = .ok (.d (.exo C [g, f] [y, x])) S := rfl
@[simp] theorem eMk0_ap {C : Str} {σ : Ev} {S : Store} : eMk0 C σ S = .ok (.d (.exo C [] [])) S := rfl
@[simp] theorem eXf_ap {Cs : List Str} {n : Str} {f : EM} {σ : Ev} {S : Store} : eXf Cs n f σ S = (f σ S).bind fun w S1 => xfD Cs n w S1 := rfl
theorem xf_exo {Cs : List Str} {n C : Str} {ns : List Str} {l : List D} {y : D} {S : Store} (h : C ∈ Cs) (e : zipL n ns l = some y) : xfD Cs n (.d (.exo C ns l)) S = .ok (.d y) S := by
  show (if C ∈ Cs then optD S (zipL n ns l) else .bad) = _
  rw [if_pos h, e]; rfl
@[simp] theorem bIsX_ap {t : Str → D → Option Bool} {C : Str} {ns : List Str} {l : List D} {c : D} {S : Store} : bIsX t [.d (.exo C ns l), .d c] S = ansB S (t C c) := rfl
@[simp] theorem ansB_some {b : Bool} {S : Store} : ansB S (some b) = .ok (.d (.bl b)) S := rfl
def Q17 : List Str := ["NotATree", "NotSound", "NotLawful", "NotAKink", "NotAProgram", "NotAPaper", "NotRows", "NotACode", "NotAFraction", "NotNow", "NotADesk", "InvalidAsk", "InvalidNumber", "InvalidText", "InvalidLine", "Misread", "NothingToUndo"]
def CL (k : Nat) : Str := Q17.getD k ""
theorem held_ok {k : Nat} (hk : k < 7) {v : D} {b : Bool} {S : Store} : F__law_held [.d (.int k), .d v, .d (.bl b)] S = .ok (.d (.exo (CL k) ["given"] [v])) S := by
  unfold F__law_held b__law_held
  match k, hk with
  | 0, _ => cases b <;> simp [mkFn_eq, CL, Q17]
  | 1, _ => cases b <;> simp [mkFn_eq, CL, Q17]
  | 2, _ => cases b <;> simp [mkFn_eq, CL, Q17]
  | 3, _ => cases b <;> simp [mkFn_eq, CL, Q17]
  | 4, _ => cases b <;> simp [mkFn_eq, CL, Q17]
  | 5, _ => cases b <;> simp [mkFn_eq, CL, Q17]
  | 6, _ => cases b <;> simp [mkFn_eq, CL, Q17]
theorem kept_ok {k : Nat} (hk : k < 8) {v : D} {b : Bool} {S : Store} : F__law_kept [.d (.int k), .d v, .d (.bl b)] S = .ok (.d (.exo (CL (k + 7)) ["given"] [v])) S := by
  unfold F__law_kept b__law_kept
  match k, hk with
  | 0, _ => cases b <;> simp [mkFn_eq, CL, Q17]
  | 1, _ => cases b <;> simp [mkFn_eq, CL, Q17]
  | 2, _ => cases b <;> simp [mkFn_eq, CL, Q17]
  | 3, _ => cases b <;> simp [mkFn_eq, CL, Q17]
  | 4, _ => cases b <;> simp [mkFn_eq, CL, Q17]
  | 5, _ => cases b <;> simp [mkFn_eq, CL, Q17]
  | 6, _ => cases b <;> simp [mkFn_eq, CL, Q17]
  | 7, _ => cases b <;> simp [mkFn_eq, CL, Q17]
end K00
end
section
/-! which errors an error is, the law -/
namespace K00
open PySem PySem.Spec PyProof.Rows L2 Y
def snd2 : D → Bool
  | .tup [_, .bl b] => b
  | _ => false
def fst2 : D → D
  | .tup [a, _] => a
  | _ => .non
def KD (bs : List Bool) : List D := ((Y.numbered 0 (bs.map D.bl)).filter snd2).map fst2
theorem num_mem {l : List D} : ∀ {i : Nat} {d : D}, d ∈ Y.numbered i l → ∃ j x, x ∈ l ∧ d = .tup [.int j, x] := by
  induction l with
  | nil => intro i d h; cases h
  | cons a l ih =>
    intro i d h
    rcases List.mem_cons.mp (show d ∈ .tup [.int i, a] :: Y.numbered (i + 1) l from h) with rfl | h
    · exact ⟨_, _, List.mem_cons_self .., rfl⟩
    · obtain ⟨j, x, hx, e⟩ := ih h
      exact ⟨j, x, List.mem_cons_of_mem _ hx, e⟩
theorem num_len {l : List D} : ∀ {i : Nat}, (Y.numbered i l).length = l.length := by
  induction l with
  | nil => intro i; rfl
  | cons a l ih =>
    intro i
    show (Y.numbered (i + 1) l).length + 1 = _
    rw [ih]; rfl
theorem kinds_lc {bs : List Bool} (hl : bs.length ≤ 1000) {a c d : Option Wt} {S : Store} : eLc (iEnu (aCons (eVar 1) (aNil))) (gT 2 (gN1 (gN 2) (gN1 (gN 3) (gN0)))) (tTru (eVar 3)) (eVar 2) [2, 3] [a, some (.d (.lst (bs.map D.bl))), c, d] S = .ok (.d (.lst (KD bs))) S := by
  refine eLc_filter fst2 snd2 (ds := Y.numbered 0 (bs.map D.bl)) (by simp [iEnu, optE]) (by rw [num_len, List.length_map, lim_eq]; omega) ?_
  intro d hd acc
  obtain ⟨j, x, hx, rfl⟩ := num_mem hd
  obtain ⟨b, _, rfl⟩ := List.mem_map.mp hx
  exact ⟨_, by simp [wipeD]; rfl, by simp [wipeD, snd2], fun _ => by simp [wipeD, fst2]⟩
theorem kinds_ok {C : Str} {ns : List Str} {l : List D} (f : Str → Bool) (hf : ∀ x ∈ Q17, tb C (.gl x) = some (f x)) {S : Store} : F__law_kinds_of [.d (.exo C ns l)] S = .ok (.d (.lst (KD (Q17.map f)))) S := by
  have h := fun a c d S => kinds_lc (bs := Q17.map f) (by simp [Q17]) (a := a) (c := c) (d := d) (S := S)
  simp only [Q17, List.map] at h
  simp only [Q17, List.mem_cons, List.not_mem_nil, or_false, forall_eq_or_imp, forall_eq] at hf
  obtain ⟨h0, h1, h2, h3, h4, h5, h6, h7, h8, h9, h10, h11, h12, h13, h14, h15, h16⟩ := hf
  unfold F__law_kinds_of b__law_kinds_of
  simp [mkFn_eq, h, h0, h1, h2, h3, h4, h5, h6, h7, h8, h9, h10, h11, h12, h13, h14, h15, h16]
  rfl
/-- the classes that are asked stand in the table -/
theorem tb_CL : ∀ k < 17, ∀ x ∈ Q17, tb (CL k) (.gl x) = some (decide (x = CL k)) := by decide +kernel
theorem tb_DE : ∀ x ∈ Q17, tb "DuelError" (.gl x) = some false := by decide +kernel
theorem tb_up : ∀ k < 17, tb (CL k) (.gl "DuelError") = some true := by decide +kernel
theorem tb_ve : ∀ k < 17, tb (CL k) (.ty "ValueError") = some true := by decide +kernel
theorem tb_ve0 : tb "DuelError" (.ty "ValueError") = some true := by decide +kernel
theorem cs_CL : ∀ k < 15, CL k ∈ Cs_given := by decide +kernel
theorem kinds_CL {k : Nat} (hk : k < 17) {ns : List Str} {l : List D} {S : Store} : F__law_kinds_of [.d (.exo (CL k) ns l)] S = .ok (.d (.lst [.int k])) S := by
  rw [kinds_ok (fun x => decide (x = CL k)) (tb_CL k hk)]
  have : ∀ k < 17, KD (Q17.map fun x => decide (x = CL k)) = [.int k] := by
    intro k hk
    match k, hk with
    | 0, _ => rfl
    | 1, _ => rfl
    | 2, _ => rfl
    | 3, _ => rfl
    | 4, _ => rfl
    | 5, _ => rfl
    | 6, _ => rfl
    | 7, _ => rfl
    | 8, _ => rfl
    | 9, _ => rfl
    | 10, _ => rfl
    | 11, _ => rfl
    | 12, _ => rfl
    | 13, _ => rfl
    | 14, _ => rfl
    | 15, _ => rfl
    | 16, _ => rfl
    | n + 17, h => exact absurd h (by omega)
  rw [this k hk]
theorem kinds_DE {S : Store} : F__law_kinds_of [.d (.exo "DuelError" [] [])] S = .ok (.d (.lst [])) S := by
  rw [kinds_ok (fun x => false) tb_DE]
  rfl
theorem pow29 {S : Store} : opPow (.d (.int 10)) (.d (.int 29)) S = .ok (.d (.int 100000000000000000000000000000)) S := by simp [opPow]
end K00
end
section
/-! the law -/
namespace K00
open PySem PySem.Spec PyProof.Rows L2 Y
theorem eqk : ∀ k < 17, eqOk (.lst [.int (k : Nat)]) (.lst [.int (k : Nat)]) = true ∧ deq (.lst [.int (k : Nat)]) (.lst [.int (k : Nat)]) = true := by decide +kernel
theorem eq_k {k : Nat} (h : k < 17) {neg : Bool} {S : Store} : opEq neg (.d (.lst [.int k])) (.d (.lst [.int k])) S = .ok (.d (.bl (if neg then !true else true))) S := eq_of (eqk k h).1 (eqk k h).2
theorem eq_0 {neg : Bool} {S : Store} : opEq neg (.d (.lst [])) (.d (.lst [])) S = .ok (.d (.bl (if neg then !true else true))) S := eq_of (by decide +kernel) (by decide +kernel)
theorem mem_VL {x : Int} : VL x = [.non, .int 0, .int (-1), .bl true, .str "", .str "pay 1\n", .tup [], .tup [.int 1, .tup [.int 2, .str "a"]], .lst [.int 3], .dct [] [], .int 100000000000000000000000000000, .int x] := rfl
theorem right_ok {n : Nat} {S : Store} (hp : Pl n S) : ∃ S', F__law_right [.loc n] S = .ok (.d (.bl true)) S' ∧ Mv n S S' := by
  obtain ⟨x, S1, e1, mv1, r1, r2⟩ := take_ok hp (many := 99) (by decide) (by decide)
  have hne : VL x ≠ [] := by simp [VL]
  have hlen : (VL x).length ≤ 50000000 := by simp [VL]
  obtain ⟨σ2, S2, h2, mv2, d2, d3, d4, rfl, _⟩ := for_run (g := gN 2) (b := S.length) (f := (sSeq (sSet 3 (eB F__law_one (aCons (eVar 0) (aCons (eVar 1) (aNil)))))
  (sSeq (sSet 4 (eIf (tBl (eOp opLt (eVar 2) (eC (.int 7)))) (eB F__law_held (aCons (eVar 2) (aCons (eVar 3) (aCons (eOp (opEq false) (eB F__law_take (aCons (eVar 0) (aCons (eC (.int 2)) (aNil)))) (eC (.int 0))) (aNil))))) (eB F__law_kept (aCons (eOp opSub (eVar 2) (eC (.int 7))) (aCons (eVar 3) (aCons (eOp (opEq false) (eB F__law_take (aCons (eVar 0) (aCons (eC (.int 2)) (aNil)))) (eC (.int 0))) (aNil)))))))
  (sIf (tOr (tNot (tTru (eB (F__law_alike 8) (aCons (eXf Cs_given "given" (eVar 4)) (aCons (eVar 3) (aNil)))))) (tOr (tBl (eOp (opEq true) (eB F__law_kinds_of (aCons (eVar 4) (aNil))) (eLst (aCons (eVar 2) (aNil))))) (tOr (tNot (tTru (eB (bIsX tb) (aCons (eVar 4) (aCons (eC (.gl "DuelError")) (aNil)))))) (tNot (tTru (eB (bIsX tb) (aCons (eVar 4) (aCons (eC (.ty "ValueError")) (aNil)))))))))
  (sRet (eC (.bl false)))
  (sNext))))) (fun ds σ S' => Mv n S S' ∧ ∃ d2 d3 d4 : Option Wt, σ = [some (.loc n), some (.d (.lst (VL x))), d2, d3, d4, none, none] ∧ ∀ y ∈ ds, ∃ i : Nat, i < 15 ∧ y = .int (i : Int))
    (rng 0 15) [some (.loc n), some (.d (.lst (VL x))), none, none, none, none, none] S1 ⟨mv1, none, none, none, rfl, fun y hy => by
      obtain ⟨i, hi, rfl⟩ := rng_mem hy
      exact ⟨i, hi, by simp⟩⟩ (by
      rintro y ds σ S' ⟨mv, d2, d3, d4, rfl, hy⟩
      obtain ⟨i, hi, rfl⟩ := hy y (List.mem_cons_self ..)
      obtain ⟨v, hvm, S3, e3, mv3⟩ := one_lst mv.pl hne hlen
      obtain ⟨r, S4, e4, mv4, _, _⟩ := take_ok mv3.pl (many := 2) (by decide) (by decide)
      have k1 := kinds_CL (k := i) (by omega) (ns := ["given"]) (l := [v]) (S := S4)
      have k2 := eq_k (k := i) (by omega) (neg := true) (S := S4)
      have k3 := xf_exo (S := S4) (n := "given") (ns := ["given"]) (l := [v]) (y := v) (cs_CL i hi) (by simp [zipL])
      have k4 := tb_up i (by omega)
      have k5 := tb_ve i (by omega)
      have k6 := al_VL (k := 5) hvm S4
      refine ⟨_, S', [some (.loc n), some (.d (.lst (VL x))), some (.d (.int i)), some (.d v), some (.d (.exo (CL i) ["given"] [v])), none, none], S4, rfl, ?_, mv.trans (mv3.trans mv4), some (.d (.int i)), some (.d v), some (.d (.exo (CL i) ["given"] [v])), rfl, fun y hm => hy y (List.mem_cons_of_mem _ hm)⟩
      by_cases h7 : i < 7
      · have h7' : (i : Int) < 7 := by omega
        have k7 := held_ok h7 (v := v) (b := decide (r = 0)) (S := S4)
        simp [e3, e4, h7', k7, k3, k6, k1, k2, k4, k5]
      · have h7' : ¬ (i : Int) < 7 := by omega
        have k7 := kept_ok (k := i - 7) (by omega) (v := v) (b := decide (r = 0)) (S := S4)
        rw [show i - 7 + 7 = i by omega, show ((i - 7 : Nat) : Int) = (i : Int) - 7 by omega] at k7
        simp [e3, e4, h7', k7, k3, k6, k1, k2, k4, k5])
  obtain ⟨one, h1m, S3, e3, mv3⟩ := one_lst mv2.pl hne hlen
  obtain ⟨two, h2m, S4, e4, mv4⟩ := one_lst (mv2.trans mv3).pl hne hlen
  have mv := mv2.trans (mv3.trans mv4)
  have c15 : CL 15 = "Misread" := rfl
  have c16 : CL 16 = "NothingToUndo" := rfl
  have j1 : F__law_kinds_of [.d (.exo "Misread" ["word", "line"] [two, one])] S4 = .ok (.d (.lst [.int 15])) S4 := kinds_CL (k := 15) (by omega)
  have j2 : opEq true (.d (.lst [.int 15])) (.d (.lst [.int 15])) S4 = .ok (.d (.bl false)) S4 := eq_k (k := 15) (by omega) (neg := true) (S := S4)
  have nwl : ("word" : Str) ≠ "line" := by decide
  have j3 := xf_exo (S := S4) (n := "line") (C := "Misread") (Cs := Cs_line) (ns := ["word", "line"]) (l := [two, one]) (y := one) (by decide) (by simp [zipL, nwl])
  have j3' := xf_exo (S := S4) (n := "word") (C := "Misread") (Cs := Cs_word) (ns := ["word", "line"]) (l := [two, one]) (y := two) (by decide) (by simp [zipL])
  have j4 := tb_up 15 (by omega)
  rw [c15] at j4
  have j6 := al_tup (k := 6) (l := [one, two]) (fun d h => by
    simp only [List.mem_cons, List.not_mem_nil, or_false] at h
    rcases h with rfl | rfl
    · exact al_VL (k := 4) h1m
    · exact al_VL (k := 4) h2m) (by simp) S4
  obtain ⟨σ5, S5, h5, rfl, d4', rfl, _⟩ := for_run (g := gN 4) (b := S.length) (f := (sIf (tOr (tNot (tTru (eB (F__law_alike 8) (aCons (eTup (aCons (eXf Cs_line "line" (eVar 4)) (aCons (eXf Cs_word "word" (eVar 4)) (aNil)))) (aCons (eTup (aCons (eVar 5) (aCons (eVar 6) (aNil)))) (aNil)))))) (tOr (tBl (eOp (opEq true) (eB F__law_kinds_of (aCons (eVar 4) (aNil))) (eLst (aCons (eC (.int 15)) (aNil))))) (tNot (tTru (eB (bIsX tb) (aCons (eVar 4) (aCons (eC (.gl "DuelError")) (aNil))))))))
  (sRet (eC (.bl false)))
  (sNext))) (fun ds σ S' => S' = S4 ∧ ∃ d4 : Option Wt, σ = [some (.loc n), some (.d (.lst (VL x))), d2, d3, d4, some (.d one), some (.d two)] ∧ ∀ y ∈ ds, y = .exo "Misread" ["word", "line"] [two, one])
    [.exo "Misread" ["word", "line"] [two, one], .exo "Misread" ["word", "line"] [two, one]] [some (.loc n), some (.d (.lst (VL x))), d2, d3, d4, some (.d one), some (.d two)] S4 ⟨rfl, d4, rfl, fun y hy => by
      simp only [List.mem_cons, List.not_mem_nil, or_false] at hy
      rcases hy with rfl | rfl <;> rfl⟩ (by
      rintro y ds σ S' ⟨rfl, d4, rfl, hy⟩
      obtain rfl := hy y (List.mem_cons_self ..)
      refine ⟨_, S', [some (.loc n), some (.d (.lst (VL x))), d2, d3, some (.d (.exo "Misread" ["word", "line"] [two, one])), some (.d one), some (.d two)], S', rfl, ?_, rfl, _, rfl, fun y hm => hy y (List.mem_cons_of_mem _ hm)⟩
      simp [j1, j2, j3, j3', j4, j6])
  have i1 : F__law_kinds_of [.d (.exo "NothingToUndo" [] [])] S5 = .ok (.d (.lst [.int 16])) S5 := kinds_CL (k := 16) (by omega)
  have i2 : opEq false (.d (.lst [.int 16])) (.d (.lst [.int 16])) S5 = .ok (.d (.bl true)) S5 := eq_k (k := 16) (by omega) (neg := false) (S := S5)
  have i4 := tb_up 16 (by omega)
  rw [c16] at i4
  have i5 := tb_ve0
  have i6 := kinds_DE (S := S5)
  have i7 := eq_0 (neg := false) (S := S5)
  refine ⟨S5, ?_, mv⟩
  have tk := take_mv mv
  have r15 : rg1 [.d (.int 15)] S1 = .ok (rng 0 15) S1 := rg1_nat (j := 15) (by decide)
  simp only [VL] at h2 h5 e3 e4
  unfold F__law_right b__law_right
  simp [mkFn_eq, itemsOf, e1, pow29, r15, h2, e3, e4, h5, i1, i2, i4, i5, i6, i7, tk]
theorem law_ok (ns : List Int) (hn : ns.length ≤ 63) (hb : ∀ z ∈ ns, Builtin.Int.intBits z ≤ 1048576) : ∃ S, F_law [scr ns] [] = .ok (.d (.bl true)) S := by
  obtain ⟨σ', S', h1, d, rfl, _⟩ := for_run (g := gN 1) (b := 0) (f := sIf (tNot (tTru (eB F__law_right (aCons (eB F__law_pool (aCons (eVar 0) (aCons (eVar 1) (aNil)))) (aNil)))))
  (sRet (eC (.bl false)))
  (sNext)) (fun ds σ S => ∃ d : Option Wt, σ = [some (scr ns), d] ∧ ∀ x ∈ ds, ∃ i : Nat, i < 100 ∧ x = .int (i : Int))
    (rng 0 (if (if ((ns.length : Nat) : Int) > 3 then ((ns.length : Nat) : Int) else 3) < 8 then (if ((ns.length : Nat) : Int) > 3 then ((ns.length : Nat) : Int) else 3) else 8).toNat) [some (scr ns), none] [] ⟨none, rfl, fun x hx => by
      obtain ⟨i, hi, rfl⟩ := rng_mem hx
      exact ⟨i, by split at hi <;> split at hi <;> omega, by simp⟩⟩ (by
      rintro x ds σ S ⟨d, rfl, hx⟩
      obtain ⟨i, hi, rfl⟩ := hx x (List.mem_cons_self ..)
      obtain ⟨a, b, p, e1⟩ := pool_ok hb hn i (by omega) S
      obtain ⟨S2, e2, mv⟩ := right_ok (n := S.length) (S := S ++ [.lst [.int a, .int b]]) ⟨a, b, by simp, p⟩
      exact ⟨_, _, [some (scr ns), some (.d (.int i))], S2, rfl, by simp [e1, e2], some (.d (.int i)), rfl, fun y hy => hx y (List.mem_cons_of_mem _ hy)⟩)
  have g1 := rg1_int (S := []) (j := (if (if ((ns.length : Nat) : Int) > 3 then ((ns.length : Nat) : Int) else 3) < 8 then (if ((ns.length : Nat) : Int) > 3 then ((ns.length : Nat) : Int) else 3) else 8)) (by split <;> split <;> omega) (by split <;> split <;> omega)
  refine ⟨S'.take 0, ?_⟩
  have e0 : bLen [scr ns] [] = .ok (.d (.int ns.length)) [] := by simp [scr]
  unfold F_law b_law
  simp only [mkFn_eq]
  simp [e0, g1, h1]
end K00
end
section
set_option maxHeartbeats 0
namespace K00
open PySem PySem.Spec PyProof.Rows L2 Y
def top (i : Nat) : Stmt := PySem.Challenge.pw_openduels_k00_errors_each_of_its_own.main.body.getD i (.Pass ⟨0, 0, 0, 0⟩)
def mth (i j : Nat) : Stmt := (clsBody (top i)).getD j (.Pass ⟨0, 0, 0, 0⟩)
/-- the facts of the heap behind the top -/
structure Tb (P : Program) (w : World) (K : PySem.W.Frag) (mg : Str → Option Value) : Prop where
  f__law_pool : ∃ f fd, FunD K "_law_pool" "_law_pool" (defArgs (top 20)) (defBody (top 20)) (defScope (top 20)) [] [] f fd ∧ mg "_law_pool" = some (.ref f)
  f__law_take : ∃ f fd, FunD K "_law_take" "_law_take" (defArgs (top 21)) (defBody (top 21)) (defScope (top 21)) [] [] f fd ∧ mg "_law_take" = some (.ref f)
  f__law_alike : ∃ f fd, FunD K "_law_alike" "_law_alike" (defArgs (top 22)) (defBody (top 22)) (defScope (top 22)) [] [] f fd ∧ mg "_law_alike" = some (.ref f)
  f__law_one : ∃ f fd, FunD K "_law_one" "_law_one" (defArgs (top 23)) (defBody (top 23)) (defScope (top 23)) [] [] f fd ∧ mg "_law_one" = some (.ref f)
  f__law_held : ∃ f fd, FunD K "_law_held" "_law_held" (defArgs (top 24)) (defBody (top 24)) (defScope (top 24)) [] [] f fd ∧ mg "_law_held" = some (.ref f)
  f__law_kept : ∃ f fd, FunD K "_law_kept" "_law_kept" (defArgs (top 25)) (defBody (top 25)) (defScope (top 25)) [] [] f fd ∧ mg "_law_kept" = some (.ref f)
  f__law_kinds_of : ∃ f fd, FunD K "_law_kinds_of" "_law_kinds_of" (defArgs (top 26)) (defBody (top 26)) (defScope (top 26)) [] [] f fd ∧ mg "_law_kinds_of" = some (.ref f)
  f__law_right : ∃ f fd, FunD K "_law_right" "_law_right" (defArgs (top 27)) (defBody (top 27)) (defScope (top 27)) [] [] f fd ∧ mg "_law_right" = some (.ref f)
  f_law : ∃ f fd, FunD K "law" "law" (defArgs (top 28)) (defBody (top 28)) (defScope (top 28)) [] [] f fd ∧ mg "law" = some (.ref f)
  m_ValueError : mg "ValueError" = none
  m_abs : mg "abs" = none
  m_all : mg "all" = none
  m_bool : mg "bool" = none
  m_dict : mg "dict" = none
  m_enumerate : mg "enumerate" = none
  m_int : mg "int" = none
  m_isinstance : mg "isinstance" = none
  m_len : mg "len" = none
  m_list : mg "list" = none
  m_max : mg "max" = none
  m_min : mg "min" = none
  m_range : mg "range" = none
  m_str : mg "str" = none
  m_tuple : mg "tuple" = none
  c_DuelError : ∃ u v, mg "DuelError" = some u ∧ RelV v u ∧ ∀ lv H, RP K lv H (.gl "DuelError") v
  c_InvalidAsk : ∃ u v, mg "InvalidAsk" = some u ∧ RelV v u ∧ ∀ lv H, RP K lv H (.gl "InvalidAsk") v
  c_InvalidLine : ∃ u v, mg "InvalidLine" = some u ∧ RelV v u ∧ ∀ lv H, RP K lv H (.gl "InvalidLine") v
  c_InvalidNumber : ∃ u v, mg "InvalidNumber" = some u ∧ RelV v u ∧ ∀ lv H, RP K lv H (.gl "InvalidNumber") v
  c_InvalidText : ∃ u v, mg "InvalidText" = some u ∧ RelV v u ∧ ∀ lv H, RP K lv H (.gl "InvalidText") v
  c_Misread : ∃ u v, mg "Misread" = some u ∧ RelV v u ∧ ∀ lv H, RP K lv H (.gl "Misread") v
  c_NotACode : ∃ u v, mg "NotACode" = some u ∧ RelV v u ∧ ∀ lv H, RP K lv H (.gl "NotACode") v
  c_NotADesk : ∃ u v, mg "NotADesk" = some u ∧ RelV v u ∧ ∀ lv H, RP K lv H (.gl "NotADesk") v
  c_NotAFraction : ∃ u v, mg "NotAFraction" = some u ∧ RelV v u ∧ ∀ lv H, RP K lv H (.gl "NotAFraction") v
  c_NotAKink : ∃ u v, mg "NotAKink" = some u ∧ RelV v u ∧ ∀ lv H, RP K lv H (.gl "NotAKink") v
  c_NotAPaper : ∃ u v, mg "NotAPaper" = some u ∧ RelV v u ∧ ∀ lv H, RP K lv H (.gl "NotAPaper") v
  c_NotAProgram : ∃ u v, mg "NotAProgram" = some u ∧ RelV v u ∧ ∀ lv H, RP K lv H (.gl "NotAProgram") v
  c_NotATree : ∃ u v, mg "NotATree" = some u ∧ RelV v u ∧ ∀ lv H, RP K lv H (.gl "NotATree") v
  c_NotLawful : ∃ u v, mg "NotLawful" = some u ∧ RelV v u ∧ ∀ lv H, RP K lv H (.gl "NotLawful") v
  c_NotNow : ∃ u v, mg "NotNow" = some u ∧ RelV v u ∧ ∀ lv H, RP K lv H (.gl "NotNow") v
  c_NotRows : ∃ u v, mg "NotRows" = some u ∧ RelV v u ∧ ∀ lv H, RP K lv H (.gl "NotRows") v
  c_NotSound : ∃ u v, mg "NotSound" = some u ∧ RelV v u ∧ ∀ lv H, RP K lv H (.gl "NotSound") v
  c_NothingToUndo : ∃ u v, mg "NothingToUndo" = some u ∧ RelV v u ∧ ∀ lv H, RP K lv H (.gl "NothingToUndo") v
  tb : IsTb K tb
  x_given : ∀ C ∈ Cs_given, XfC K (He.ga K C) ∧ PySem.W.findIn K (.ref (He.ga K C)) "given" = some none
  x_line : ∀ C ∈ Cs_line, XfC K (He.ga K C) ∧ PySem.W.findIn K (.ref (He.ga K C)) "line" = some none
  x_word : ∀ C ∈ Cs_word, XfC K (He.ga K C) ∧ PySem.W.findIn K (.ref (He.ga K C)) "word" = some none
  z_DuelError : Ini0 P w K mg "DuelError"
  n_Misread : ∃ fd, FunD K "__init__" "Misread.__init__" (defArgs (mth 2 0)) (defBody (mth 2 0)) (defScope (mth 2 0)) [] [] (He.ma K (He.ga K "Misread") "__init__") fd
  n_Misread_line : IniF K mg "Misread" "line"
  n_Misread_word : IniF K mg "Misread" "word"
  n_NotATree : ∃ fd, FunD K "__init__" "NotATree.__init__" (defArgs (mth 3 0)) (defBody (mth 3 0)) (defScope (mth 3 0)) [] [] (He.ma K (He.ga K "NotATree") "__init__") fd
  n_NotATree_given : IniF K mg "NotATree" "given"
  n_NotSound : ∃ fd, FunD K "__init__" "NotSound.__init__" (defArgs (mth 4 0)) (defBody (mth 4 0)) (defScope (mth 4 0)) [] [] (He.ma K (He.ga K "NotSound") "__init__") fd
  n_NotSound_given : IniF K mg "NotSound" "given"
  n_NotLawful : ∃ fd, FunD K "__init__" "NotLawful.__init__" (defArgs (mth 5 0)) (defBody (mth 5 0)) (defScope (mth 5 0)) [] [] (He.ma K (He.ga K "NotLawful") "__init__") fd
  n_NotLawful_given : IniF K mg "NotLawful" "given"
  n_NotAKink : ∃ fd, FunD K "__init__" "NotAKink.__init__" (defArgs (mth 6 0)) (defBody (mth 6 0)) (defScope (mth 6 0)) [] [] (He.ma K (He.ga K "NotAKink") "__init__") fd
  n_NotAKink_given : IniF K mg "NotAKink" "given"
  n_NotAProgram : ∃ fd, FunD K "__init__" "NotAProgram.__init__" (defArgs (mth 7 0)) (defBody (mth 7 0)) (defScope (mth 7 0)) [] [] (He.ma K (He.ga K "NotAProgram") "__init__") fd
  n_NotAProgram_given : IniF K mg "NotAProgram" "given"
  n_NotAPaper : ∃ fd, FunD K "__init__" "NotAPaper.__init__" (defArgs (mth 8 0)) (defBody (mth 8 0)) (defScope (mth 8 0)) [] [] (He.ma K (He.ga K "NotAPaper") "__init__") fd
  n_NotAPaper_given : IniF K mg "NotAPaper" "given"
  n_NotRows : ∃ fd, FunD K "__init__" "NotRows.__init__" (defArgs (mth 9 0)) (defBody (mth 9 0)) (defScope (mth 9 0)) [] [] (He.ma K (He.ga K "NotRows") "__init__") fd
  n_NotRows_given : IniF K mg "NotRows" "given"
  n_NotACode : ∃ fd, FunD K "__init__" "NotACode.__init__" (defArgs (mth 10 0)) (defBody (mth 10 0)) (defScope (mth 10 0)) [] [] (He.ma K (He.ga K "NotACode") "__init__") fd
  n_NotACode_given : IniF K mg "NotACode" "given"
  n_NotAFraction : ∃ fd, FunD K "__init__" "NotAFraction.__init__" (defArgs (mth 11 0)) (defBody (mth 11 0)) (defScope (mth 11 0)) [] [] (He.ma K (He.ga K "NotAFraction") "__init__") fd
  n_NotAFraction_given : IniF K mg "NotAFraction" "given"
  n_NotNow : ∃ fd, FunD K "__init__" "NotNow.__init__" (defArgs (mth 12 0)) (defBody (mth 12 0)) (defScope (mth 12 0)) [] [] (He.ma K (He.ga K "NotNow") "__init__") fd
  n_NotNow_given : IniF K mg "NotNow" "given"
  n_NotADesk : ∃ fd, FunD K "__init__" "NotADesk.__init__" (defArgs (mth 13 0)) (defBody (mth 13 0)) (defScope (mth 13 0)) [] [] (He.ma K (He.ga K "NotADesk") "__init__") fd
  n_NotADesk_given : IniF K mg "NotADesk" "given"
  n_InvalidAsk : ∃ fd, FunD K "__init__" "InvalidAsk.__init__" (defArgs (mth 14 0)) (defBody (mth 14 0)) (defScope (mth 14 0)) [] [] (He.ma K (He.ga K "InvalidAsk") "__init__") fd
  n_InvalidAsk_given : IniF K mg "InvalidAsk" "given"
  n_InvalidNumber : ∃ fd, FunD K "__init__" "InvalidNumber.__init__" (defArgs (mth 15 0)) (defBody (mth 15 0)) (defScope (mth 15 0)) [] [] (He.ma K (He.ga K "InvalidNumber") "__init__") fd
  n_InvalidNumber_given : IniF K mg "InvalidNumber" "given"
  n_InvalidText : ∃ fd, FunD K "__init__" "InvalidText.__init__" (defArgs (mth 16 0)) (defBody (mth 16 0)) (defScope (mth 16 0)) [] [] (He.ma K (He.ga K "InvalidText") "__init__") fd
  n_InvalidText_given : IniF K mg "InvalidText" "given"
  n_InvalidLine : ∃ fd, FunD K "__init__" "InvalidLine.__init__" (defArgs (mth 17 0)) (defBody (mth 17 0)) (defScope (mth 17 0)) [] [] (He.ma K (He.ga K "InvalidLine") "__init__") fd
  n_InvalidLine_given : IniF K mg "InvalidLine" "given"
  z_NothingToUndo : Ini0 P w K mg "NothingToUndo"
theorem Tb.kon {K : PySem.W.Frag} {mg : Str → Option Value} {x : Str} {d : D} (h : ∃ u v, mg x = some u ∧ RelV v u ∧ ∀ lv H, RP K lv H d v) {X : Cx} (e1 : X.mg = mg := by rfl) (e2 : X.K = K := by rfl) : Kon X x d := by
  subst e1 e2
  exact ⟨h⟩
section
variable {P : Program} {w : World} {K : PySem.W.Frag} {mg : Str → Option Value} {base : Heap}
theorem sci_Misread : FnScope ["self", "line", "word"] ["self", "line", "word"] (defScope (mth 2 0)) := ⟨rfl, rfl, rfl, by decide +kernel, rfl, by decide +kernel, by decide +kernel⟩
theorem fi_Misread {fd : FuncData} {fI : Addr} (F : FunD K "__init__" "Misread.__init__" (defArgs (mth 2 0)) (defBody (mth 2 0)) (defScope (mth 2 0)) [] [] fI fd) : FnOk P w K mg base (L2.CX P w) 1 fI fd ["self", "line", "word"] (spI2 K "line" "word") := ini2_ok (k := 0) F sci_Misread (by first | exact Or.inl rfl | exact Or.inr (Or.inl rfl) | exact Or.inr (Or.inr rfl)) (by first | exact Or.inl rfl | exact Or.inr (Or.inl rfl) | exact Or.inr (Or.inr rfl)) (by first | exact Or.inl rfl | exact Or.inr (Or.inl rfl) | exact Or.inr (Or.inr rfl))
theorem i_Misread (T : Tb P w K mg) : Ini2 P w K mg base "Misread" "line" "word" 1 := by
  obtain ⟨fd, F⟩ := T.n_Misread
  exact ini2_of T.n_Misread_line T.n_Misread_word (fi_Misread F) (F.bindsN fun _ _ _ _ _ _ us hl => match us, hl with | [_, _, _], _ => rfl)
theorem ik_Misread (T : Tb P w K mg) : IniK2 P w K mg base "Misread" "line" "word" "line" "word" 1 := by
  obtain ⟨fd, F⟩ := T.n_Misread
  exact iniK2_of T.n_Misread_line T.n_Misread_word (fi_Misread F) (kbn_of F fun _ _ _ _ _ _ us ws hu hw => match us, ws, hu, hw with | [_], [_, _], _, _ => rfl)
theorem sci_NotATree : FnScope ["self", "given"] ["self", "given"] (defScope (mth 3 0)) := ⟨rfl, rfl, rfl, by decide +kernel, rfl, by decide +kernel, by decide +kernel⟩
theorem fi_NotATree {fd : FuncData} {fI : Addr} (F : FunD K "__init__" "NotATree.__init__" (defArgs (mth 3 0)) (defBody (mth 3 0)) (defScope (mth 3 0)) [] [] fI fd) : FnOk P w K mg base (L2.CX P w) 1 fI fd ["self", "given"] (spI1 K "given") := ini1_ok (k := 0) F sci_NotATree (by first | exact Or.inl rfl | exact Or.inr (Or.inl rfl) | exact Or.inr (Or.inr rfl)) (by first | exact Or.inl rfl | exact Or.inr (Or.inl rfl) | exact Or.inr (Or.inr rfl))
theorem i_NotATree (T : Tb P w K mg) : Ini1 P w K mg base "NotATree" "given" 1 := by
  obtain ⟨fd, F⟩ := T.n_NotATree
  exact ini1_of T.n_NotATree_given (fi_NotATree F) (F.bindsN fun _ _ _ _ _ _ us hl => match us, hl with | [_, _], _ => rfl)
theorem ik_NotATree (T : Tb P w K mg) : IniK1 P w K mg base "NotATree" "given" "given" 1 := by
  obtain ⟨fd, F⟩ := T.n_NotATree
  exact iniK1_of T.n_NotATree_given (fi_NotATree F) (kbn_of F fun _ _ _ _ _ _ us ws hu hw => match us, ws, hu, hw with | [_], [_], _, _ => rfl)
theorem sci_NotSound : FnScope ["self", "given"] ["self", "given"] (defScope (mth 4 0)) := ⟨rfl, rfl, rfl, by decide +kernel, rfl, by decide +kernel, by decide +kernel⟩
theorem fi_NotSound {fd : FuncData} {fI : Addr} (F : FunD K "__init__" "NotSound.__init__" (defArgs (mth 4 0)) (defBody (mth 4 0)) (defScope (mth 4 0)) [] [] fI fd) : FnOk P w K mg base (L2.CX P w) 1 fI fd ["self", "given"] (spI1 K "given") := ini1_ok (k := 0) F sci_NotSound (by first | exact Or.inl rfl | exact Or.inr (Or.inl rfl) | exact Or.inr (Or.inr rfl)) (by first | exact Or.inl rfl | exact Or.inr (Or.inl rfl) | exact Or.inr (Or.inr rfl))
theorem i_NotSound (T : Tb P w K mg) : Ini1 P w K mg base "NotSound" "given" 1 := by
  obtain ⟨fd, F⟩ := T.n_NotSound
  exact ini1_of T.n_NotSound_given (fi_NotSound F) (F.bindsN fun _ _ _ _ _ _ us hl => match us, hl with | [_, _], _ => rfl)
theorem ik_NotSound (T : Tb P w K mg) : IniK1 P w K mg base "NotSound" "given" "given" 1 := by
  obtain ⟨fd, F⟩ := T.n_NotSound
  exact iniK1_of T.n_NotSound_given (fi_NotSound F) (kbn_of F fun _ _ _ _ _ _ us ws hu hw => match us, ws, hu, hw with | [_], [_], _, _ => rfl)
theorem sci_NotLawful : FnScope ["self", "given"] ["self", "given"] (defScope (mth 5 0)) := ⟨rfl, rfl, rfl, by decide +kernel, rfl, by decide +kernel, by decide +kernel⟩
theorem fi_NotLawful {fd : FuncData} {fI : Addr} (F : FunD K "__init__" "NotLawful.__init__" (defArgs (mth 5 0)) (defBody (mth 5 0)) (defScope (mth 5 0)) [] [] fI fd) : FnOk P w K mg base (L2.CX P w) 1 fI fd ["self", "given"] (spI1 K "given") := ini1_ok (k := 0) F sci_NotLawful (by first | exact Or.inl rfl | exact Or.inr (Or.inl rfl) | exact Or.inr (Or.inr rfl)) (by first | exact Or.inl rfl | exact Or.inr (Or.inl rfl) | exact Or.inr (Or.inr rfl))
theorem i_NotLawful (T : Tb P w K mg) : Ini1 P w K mg base "NotLawful" "given" 1 := by
  obtain ⟨fd, F⟩ := T.n_NotLawful
  exact ini1_of T.n_NotLawful_given (fi_NotLawful F) (F.bindsN fun _ _ _ _ _ _ us hl => match us, hl with | [_, _], _ => rfl)
theorem ik_NotLawful (T : Tb P w K mg) : IniK1 P w K mg base "NotLawful" "given" "given" 1 := by
  obtain ⟨fd, F⟩ := T.n_NotLawful
  exact iniK1_of T.n_NotLawful_given (fi_NotLawful F) (kbn_of F fun _ _ _ _ _ _ us ws hu hw => match us, ws, hu, hw with | [_], [_], _, _ => rfl)
theorem sci_NotAKink : FnScope ["self", "given"] ["self", "given"] (defScope (mth 6 0)) := ⟨rfl, rfl, rfl, by decide +kernel, rfl, by decide +kernel, by decide +kernel⟩
theorem fi_NotAKink {fd : FuncData} {fI : Addr} (F : FunD K "__init__" "NotAKink.__init__" (defArgs (mth 6 0)) (defBody (mth 6 0)) (defScope (mth 6 0)) [] [] fI fd) : FnOk P w K mg base (L2.CX P w) 1 fI fd ["self", "given"] (spI1 K "given") := ini1_ok (k := 0) F sci_NotAKink (by first | exact Or.inl rfl | exact Or.inr (Or.inl rfl) | exact Or.inr (Or.inr rfl)) (by first | exact Or.inl rfl | exact Or.inr (Or.inl rfl) | exact Or.inr (Or.inr rfl))
theorem i_NotAKink (T : Tb P w K mg) : Ini1 P w K mg base "NotAKink" "given" 1 := by
  obtain ⟨fd, F⟩ := T.n_NotAKink
  exact ini1_of T.n_NotAKink_given (fi_NotAKink F) (F.bindsN fun _ _ _ _ _ _ us hl => match us, hl with | [_, _], _ => rfl)
theorem ik_NotAKink (T : Tb P w K mg) : IniK1 P w K mg base "NotAKink" "given" "given" 1 := by
  obtain ⟨fd, F⟩ := T.n_NotAKink
  exact iniK1_of T.n_NotAKink_given (fi_NotAKink F) (kbn_of F fun _ _ _ _ _ _ us ws hu hw => match us, ws, hu, hw with | [_], [_], _, _ => rfl)
theorem sci_NotAProgram : FnScope ["self", "given"] ["self", "given"] (defScope (mth 7 0)) := ⟨rfl, rfl, rfl, by decide +kernel, rfl, by decide +kernel, by decide +kernel⟩
theorem fi_NotAProgram {fd : FuncData} {fI : Addr} (F : FunD K "__init__" "NotAProgram.__init__" (defArgs (mth 7 0)) (defBody (mth 7 0)) (defScope (mth 7 0)) [] [] fI fd) : FnOk P w K mg base (L2.CX P w) 1 fI fd ["self", "given"] (spI1 K "given") := ini1_ok (k := 0) F sci_NotAProgram (by first | exact Or.inl rfl | exact Or.inr (Or.inl rfl) | exact Or.inr (Or.inr rfl)) (by first | exact Or.inl rfl | exact Or.inr (Or.inl rfl) | exact Or.inr (Or.inr rfl))
theorem i_NotAProgram (T : Tb P w K mg) : Ini1 P w K mg base "NotAProgram" "given" 1 := by
  obtain ⟨fd, F⟩ := T.n_NotAProgram
  exact ini1_of T.n_NotAProgram_given (fi_NotAProgram F) (F.bindsN fun _ _ _ _ _ _ us hl => match us, hl with | [_, _], _ => rfl)
theorem ik_NotAProgram (T : Tb P w K mg) : IniK1 P w K mg base "NotAProgram" "given" "given" 1 := by
  obtain ⟨fd, F⟩ := T.n_NotAProgram
  exact iniK1_of T.n_NotAProgram_given (fi_NotAProgram F) (kbn_of F fun _ _ _ _ _ _ us ws hu hw => match us, ws, hu, hw with | [_], [_], _, _ => rfl)
theorem sci_NotAPaper : FnScope ["self", "given"] ["self", "given"] (defScope (mth 8 0)) := ⟨rfl, rfl, rfl, by decide +kernel, rfl, by decide +kernel, by decide +kernel⟩
theorem fi_NotAPaper {fd : FuncData} {fI : Addr} (F : FunD K "__init__" "NotAPaper.__init__" (defArgs (mth 8 0)) (defBody (mth 8 0)) (defScope (mth 8 0)) [] [] fI fd) : FnOk P w K mg base (L2.CX P w) 1 fI fd ["self", "given"] (spI1 K "given") := ini1_ok (k := 0) F sci_NotAPaper (by first | exact Or.inl rfl | exact Or.inr (Or.inl rfl) | exact Or.inr (Or.inr rfl)) (by first | exact Or.inl rfl | exact Or.inr (Or.inl rfl) | exact Or.inr (Or.inr rfl))
theorem i_NotAPaper (T : Tb P w K mg) : Ini1 P w K mg base "NotAPaper" "given" 1 := by
  obtain ⟨fd, F⟩ := T.n_NotAPaper
  exact ini1_of T.n_NotAPaper_given (fi_NotAPaper F) (F.bindsN fun _ _ _ _ _ _ us hl => match us, hl with | [_, _], _ => rfl)
theorem ik_NotAPaper (T : Tb P w K mg) : IniK1 P w K mg base "NotAPaper" "given" "given" 1 := by
  obtain ⟨fd, F⟩ := T.n_NotAPaper
  exact iniK1_of T.n_NotAPaper_given (fi_NotAPaper F) (kbn_of F fun _ _ _ _ _ _ us ws hu hw => match us, ws, hu, hw with | [_], [_], _, _ => rfl)
theorem sci_NotRows : FnScope ["self", "given"] ["self", "given"] (defScope (mth 9 0)) := ⟨rfl, rfl, rfl, by decide +kernel, rfl, by decide +kernel, by decide +kernel⟩
theorem fi_NotRows {fd : FuncData} {fI : Addr} (F : FunD K "__init__" "NotRows.__init__" (defArgs (mth 9 0)) (defBody (mth 9 0)) (defScope (mth 9 0)) [] [] fI fd) : FnOk P w K mg base (L2.CX P w) 1 fI fd ["self", "given"] (spI1 K "given") := ini1_ok (k := 0) F sci_NotRows (by first | exact Or.inl rfl | exact Or.inr (Or.inl rfl) | exact Or.inr (Or.inr rfl)) (by first | exact Or.inl rfl | exact Or.inr (Or.inl rfl) | exact Or.inr (Or.inr rfl))
theorem i_NotRows (T : Tb P w K mg) : Ini1 P w K mg base "NotRows" "given" 1 := by
  obtain ⟨fd, F⟩ := T.n_NotRows
  exact ini1_of T.n_NotRows_given (fi_NotRows F) (F.bindsN fun _ _ _ _ _ _ us hl => match us, hl with | [_, _], _ => rfl)
theorem ik_NotRows (T : Tb P w K mg) : IniK1 P w K mg base "NotRows" "given" "given" 1 := by
  obtain ⟨fd, F⟩ := T.n_NotRows
  exact iniK1_of T.n_NotRows_given (fi_NotRows F) (kbn_of F fun _ _ _ _ _ _ us ws hu hw => match us, ws, hu, hw with | [_], [_], _, _ => rfl)
theorem sci_NotACode : FnScope ["self", "given"] ["self", "given"] (defScope (mth 10 0)) := ⟨rfl, rfl, rfl, by decide +kernel, rfl, by decide +kernel, by decide +kernel⟩
theorem fi_NotACode {fd : FuncData} {fI : Addr} (F : FunD K "__init__" "NotACode.__init__" (defArgs (mth 10 0)) (defBody (mth 10 0)) (defScope (mth 10 0)) [] [] fI fd) : FnOk P w K mg base (L2.CX P w) 1 fI fd ["self", "given"] (spI1 K "given") := ini1_ok (k := 0) F sci_NotACode (by first | exact Or.inl rfl | exact Or.inr (Or.inl rfl) | exact Or.inr (Or.inr rfl)) (by first | exact Or.inl rfl | exact Or.inr (Or.inl rfl) | exact Or.inr (Or.inr rfl))
theorem i_NotACode (T : Tb P w K mg) : Ini1 P w K mg base "NotACode" "given" 1 := by
  obtain ⟨fd, F⟩ := T.n_NotACode
  exact ini1_of T.n_NotACode_given (fi_NotACode F) (F.bindsN fun _ _ _ _ _ _ us hl => match us, hl with | [_, _], _ => rfl)
theorem ik_NotACode (T : Tb P w K mg) : IniK1 P w K mg base "NotACode" "given" "given" 1 := by
  obtain ⟨fd, F⟩ := T.n_NotACode
  exact iniK1_of T.n_NotACode_given (fi_NotACode F) (kbn_of F fun _ _ _ _ _ _ us ws hu hw => match us, ws, hu, hw with | [_], [_], _, _ => rfl)
theorem sci_NotAFraction : FnScope ["self", "given"] ["self", "given"] (defScope (mth 11 0)) := ⟨rfl, rfl, rfl, by decide +kernel, rfl, by decide +kernel, by decide +kernel⟩
theorem fi_NotAFraction {fd : FuncData} {fI : Addr} (F : FunD K "__init__" "NotAFraction.__init__" (defArgs (mth 11 0)) (defBody (mth 11 0)) (defScope (mth 11 0)) [] [] fI fd) : FnOk P w K mg base (L2.CX P w) 1 fI fd ["self", "given"] (spI1 K "given") := ini1_ok (k := 0) F sci_NotAFraction (by first | exact Or.inl rfl | exact Or.inr (Or.inl rfl) | exact Or.inr (Or.inr rfl)) (by first | exact Or.inl rfl | exact Or.inr (Or.inl rfl) | exact Or.inr (Or.inr rfl))
theorem i_NotAFraction (T : Tb P w K mg) : Ini1 P w K mg base "NotAFraction" "given" 1 := by
  obtain ⟨fd, F⟩ := T.n_NotAFraction
  exact ini1_of T.n_NotAFraction_given (fi_NotAFraction F) (F.bindsN fun _ _ _ _ _ _ us hl => match us, hl with | [_, _], _ => rfl)
theorem ik_NotAFraction (T : Tb P w K mg) : IniK1 P w K mg base "NotAFraction" "given" "given" 1 := by
  obtain ⟨fd, F⟩ := T.n_NotAFraction
  exact iniK1_of T.n_NotAFraction_given (fi_NotAFraction F) (kbn_of F fun _ _ _ _ _ _ us ws hu hw => match us, ws, hu, hw with | [_], [_], _, _ => rfl)
theorem sci_NotNow : FnScope ["self", "given"] ["self", "given"] (defScope (mth 12 0)) := ⟨rfl, rfl, rfl, by decide +kernel, rfl, by decide +kernel, by decide +kernel⟩
theorem fi_NotNow {fd : FuncData} {fI : Addr} (F : FunD K "__init__" "NotNow.__init__" (defArgs (mth 12 0)) (defBody (mth 12 0)) (defScope (mth 12 0)) [] [] fI fd) : FnOk P w K mg base (L2.CX P w) 1 fI fd ["self", "given"] (spI1 K "given") := ini1_ok (k := 0) F sci_NotNow (by first | exact Or.inl rfl | exact Or.inr (Or.inl rfl) | exact Or.inr (Or.inr rfl)) (by first | exact Or.inl rfl | exact Or.inr (Or.inl rfl) | exact Or.inr (Or.inr rfl))
theorem i_NotNow (T : Tb P w K mg) : Ini1 P w K mg base "NotNow" "given" 1 := by
  obtain ⟨fd, F⟩ := T.n_NotNow
  exact ini1_of T.n_NotNow_given (fi_NotNow F) (F.bindsN fun _ _ _ _ _ _ us hl => match us, hl with | [_, _], _ => rfl)
theorem ik_NotNow (T : Tb P w K mg) : IniK1 P w K mg base "NotNow" "given" "given" 1 := by
  obtain ⟨fd, F⟩ := T.n_NotNow
  exact iniK1_of T.n_NotNow_given (fi_NotNow F) (kbn_of F fun _ _ _ _ _ _ us ws hu hw => match us, ws, hu, hw with | [_], [_], _, _ => rfl)
theorem sci_NotADesk : FnScope ["self", "given"] ["self", "given"] (defScope (mth 13 0)) := ⟨rfl, rfl, rfl, by decide +kernel, rfl, by decide +kernel, by decide +kernel⟩
theorem fi_NotADesk {fd : FuncData} {fI : Addr} (F : FunD K "__init__" "NotADesk.__init__" (defArgs (mth 13 0)) (defBody (mth 13 0)) (defScope (mth 13 0)) [] [] fI fd) : FnOk P w K mg base (L2.CX P w) 1 fI fd ["self", "given"] (spI1 K "given") := ini1_ok (k := 0) F sci_NotADesk (by first | exact Or.inl rfl | exact Or.inr (Or.inl rfl) | exact Or.inr (Or.inr rfl)) (by first | exact Or.inl rfl | exact Or.inr (Or.inl rfl) | exact Or.inr (Or.inr rfl))
theorem i_NotADesk (T : Tb P w K mg) : Ini1 P w K mg base "NotADesk" "given" 1 := by
  obtain ⟨fd, F⟩ := T.n_NotADesk
  exact ini1_of T.n_NotADesk_given (fi_NotADesk F) (F.bindsN fun _ _ _ _ _ _ us hl => match us, hl with | [_, _], _ => rfl)
theorem ik_NotADesk (T : Tb P w K mg) : IniK1 P w K mg base "NotADesk" "given" "given" 1 := by
  obtain ⟨fd, F⟩ := T.n_NotADesk
  exact iniK1_of T.n_NotADesk_given (fi_NotADesk F) (kbn_of F fun _ _ _ _ _ _ us ws hu hw => match us, ws, hu, hw with | [_], [_], _, _ => rfl)
theorem sci_InvalidAsk : FnScope ["self", "given"] ["self", "given"] (defScope (mth 14 0)) := ⟨rfl, rfl, rfl, by decide +kernel, rfl, by decide +kernel, by decide +kernel⟩
theorem fi_InvalidAsk {fd : FuncData} {fI : Addr} (F : FunD K "__init__" "InvalidAsk.__init__" (defArgs (mth 14 0)) (defBody (mth 14 0)) (defScope (mth 14 0)) [] [] fI fd) : FnOk P w K mg base (L2.CX P w) 1 fI fd ["self", "given"] (spI1 K "given") := ini1_ok (k := 0) F sci_InvalidAsk (by first | exact Or.inl rfl | exact Or.inr (Or.inl rfl) | exact Or.inr (Or.inr rfl)) (by first | exact Or.inl rfl | exact Or.inr (Or.inl rfl) | exact Or.inr (Or.inr rfl))
theorem i_InvalidAsk (T : Tb P w K mg) : Ini1 P w K mg base "InvalidAsk" "given" 1 := by
  obtain ⟨fd, F⟩ := T.n_InvalidAsk
  exact ini1_of T.n_InvalidAsk_given (fi_InvalidAsk F) (F.bindsN fun _ _ _ _ _ _ us hl => match us, hl with | [_, _], _ => rfl)
theorem ik_InvalidAsk (T : Tb P w K mg) : IniK1 P w K mg base "InvalidAsk" "given" "given" 1 := by
  obtain ⟨fd, F⟩ := T.n_InvalidAsk
  exact iniK1_of T.n_InvalidAsk_given (fi_InvalidAsk F) (kbn_of F fun _ _ _ _ _ _ us ws hu hw => match us, ws, hu, hw with | [_], [_], _, _ => rfl)
theorem sci_InvalidNumber : FnScope ["self", "given"] ["self", "given"] (defScope (mth 15 0)) := ⟨rfl, rfl, rfl, by decide +kernel, rfl, by decide +kernel, by decide +kernel⟩
theorem fi_InvalidNumber {fd : FuncData} {fI : Addr} (F : FunD K "__init__" "InvalidNumber.__init__" (defArgs (mth 15 0)) (defBody (mth 15 0)) (defScope (mth 15 0)) [] [] fI fd) : FnOk P w K mg base (L2.CX P w) 1 fI fd ["self", "given"] (spI1 K "given") := ini1_ok (k := 0) F sci_InvalidNumber (by first | exact Or.inl rfl | exact Or.inr (Or.inl rfl) | exact Or.inr (Or.inr rfl)) (by first | exact Or.inl rfl | exact Or.inr (Or.inl rfl) | exact Or.inr (Or.inr rfl))
theorem i_InvalidNumber (T : Tb P w K mg) : Ini1 P w K mg base "InvalidNumber" "given" 1 := by
  obtain ⟨fd, F⟩ := T.n_InvalidNumber
  exact ini1_of T.n_InvalidNumber_given (fi_InvalidNumber F) (F.bindsN fun _ _ _ _ _ _ us hl => match us, hl with | [_, _], _ => rfl)
theorem ik_InvalidNumber (T : Tb P w K mg) : IniK1 P w K mg base "InvalidNumber" "given" "given" 1 := by
  obtain ⟨fd, F⟩ := T.n_InvalidNumber
  exact iniK1_of T.n_InvalidNumber_given (fi_InvalidNumber F) (kbn_of F fun _ _ _ _ _ _ us ws hu hw => match us, ws, hu, hw with | [_], [_], _, _ => rfl)
theorem sci_InvalidText : FnScope ["self", "given"] ["self", "given"] (defScope (mth 16 0)) := ⟨rfl, rfl, rfl, by decide +kernel, rfl, by decide +kernel, by decide +kernel⟩
theorem fi_InvalidText {fd : FuncData} {fI : Addr} (F : FunD K "__init__" "InvalidText.__init__" (defArgs (mth 16 0)) (defBody (mth 16 0)) (defScope (mth 16 0)) [] [] fI fd) : FnOk P w K mg base (L2.CX P w) 1 fI fd ["self", "given"] (spI1 K "given") := ini1_ok (k := 0) F sci_InvalidText (by first | exact Or.inl rfl | exact Or.inr (Or.inl rfl) | exact Or.inr (Or.inr rfl)) (by first | exact Or.inl rfl | exact Or.inr (Or.inl rfl) | exact Or.inr (Or.inr rfl))
theorem i_InvalidText (T : Tb P w K mg) : Ini1 P w K mg base "InvalidText" "given" 1 := by
  obtain ⟨fd, F⟩ := T.n_InvalidText
  exact ini1_of T.n_InvalidText_given (fi_InvalidText F) (F.bindsN fun _ _ _ _ _ _ us hl => match us, hl with | [_, _], _ => rfl)
theorem ik_InvalidText (T : Tb P w K mg) : IniK1 P w K mg base "InvalidText" "given" "given" 1 := by
  obtain ⟨fd, F⟩ := T.n_InvalidText
  exact iniK1_of T.n_InvalidText_given (fi_InvalidText F) (kbn_of F fun _ _ _ _ _ _ us ws hu hw => match us, ws, hu, hw with | [_], [_], _, _ => rfl)
theorem sci_InvalidLine : FnScope ["self", "given"] ["self", "given"] (defScope (mth 17 0)) := ⟨rfl, rfl, rfl, by decide +kernel, rfl, by decide +kernel, by decide +kernel⟩
theorem fi_InvalidLine {fd : FuncData} {fI : Addr} (F : FunD K "__init__" "InvalidLine.__init__" (defArgs (mth 17 0)) (defBody (mth 17 0)) (defScope (mth 17 0)) [] [] fI fd) : FnOk P w K mg base (L2.CX P w) 1 fI fd ["self", "given"] (spI1 K "given") := ini1_ok (k := 0) F sci_InvalidLine (by first | exact Or.inl rfl | exact Or.inr (Or.inl rfl) | exact Or.inr (Or.inr rfl)) (by first | exact Or.inl rfl | exact Or.inr (Or.inl rfl) | exact Or.inr (Or.inr rfl))
theorem i_InvalidLine (T : Tb P w K mg) : Ini1 P w K mg base "InvalidLine" "given" 1 := by
  obtain ⟨fd, F⟩ := T.n_InvalidLine
  exact ini1_of T.n_InvalidLine_given (fi_InvalidLine F) (F.bindsN fun _ _ _ _ _ _ us hl => match us, hl with | [_, _], _ => rfl)
theorem ik_InvalidLine (T : Tb P w K mg) : IniK1 P w K mg base "InvalidLine" "given" "given" 1 := by
  obtain ⟨fd, F⟩ := T.n_InvalidLine
  exact iniK1_of T.n_InvalidLine_given (fi_InvalidLine F) (kbn_of F fun _ _ _ _ _ _ us ws hu hw => match us, ws, hu, hw with | [_], [_], _, _ => rfl)
abbrev N__law_pool : List Str := ["script", "k", "cell", "size", "stir"]
theorem nd__law_pool : (N__law_pool).Nodup := by decide +kernel
theorem sc__law_pool : FnScope N__law_pool ["script", "k"] (defScope (top 20)) := ⟨rfl, rfl, rfl, by decide +kernel, rfl, by decide +kernel, by decide +kernel⟩
theorem db__law_pool (T : Tb P w K mg) (hx : Hx) (cdv : Value) (A : Around) (outer : List Env) (s : Shared) (H : Hp) (E : XK) (f : Addr) (hr : Room 0 (A.deeper (envOfC "_law_pool" (defScope (top 20)) s.heap.objs.size f cdv))) : DB (cxF P w K mg base N__law_pool "_law_pool" (defScope (top 20)) f cdv A outer s H E) hx (defBody (top 20)) b__law_pool := by
  have hu : (A.deeper (envOfC "_law_pool" (defScope (top 20)) s.heap.objs.size f cdv)).units + 65 < cLine := by have := hr.un; omega
  have hu64 : (A.deeper (envOfC "_law_pool" (defScope (top 20)) s.heap.objs.size f cdv)).units + 64 < cLine := by have := hr.un; omega
  exact db_cons (ds_set nd__law_pool (d_bin od_add (d_bin od_mul (d_int) (d_var 1)) (d_bin od_mul (d_int) (d_callB cal_len T.m_len (da_cons (d_var 0) (da_nil))))))
      (db_cons (ds_if (dt_cmp od_lt (d_var 1) (d_callB cal_len T.m_len (da_cons (d_var 0) (da_nil))))
      (db_one (ds_set nd__law_pool (d_ix hu (d_var 0) (d_var 1))))
      (db_nil))
      (db_cons (ds_set nd__law_pool (d_callB cal_abs T.m_abs (da_cons (d_var 2) (da_nil))))
      (db_cons (ds_set nd__law_pool (d_bin od_mod (d_callTy cal_int T.m_int (da_cons (d_bin od_add (d_bin od_add (d_bin od_add (d_bin od_mul (d_var 3) (d_int)) (d_bin od_mul (d_int) (d_var 1))) (d_bin od_mul (d_int) (d_callTy cal_int T.m_int (da_cons (d_cmp od_lt (d_var 2) (d_int)) (da_nil))))) (d_int)) (da_nil))) (d_int)))
      (db_cons (ds_if (dt_cmp od_ge (d_var 3) (d_int))
      (db_one (ds_ret (d_lstL (da_cons (d_bin od_add (d_bin od_mul (d_int) (d_bin od_sub (d_var 3) (d_int))) (d_callTy cal_int T.m_int (da_cons (d_cmp od_lt (d_var 2) (d_int)) (da_nil)))) (da_cons (d_var 4) (da_nil))))))
      (db_nil))
      (db_one (ds_ret (d_lstL (da_cons (d_int) (da_cons (d_var 4) (da_nil))))))))))
theorem fo__law_pool (T : Tb P w K mg) {f : Addr} {fd : FuncData} (F : FunD K "_law_pool" "_law_pool" (defArgs (top 20)) (defBody (top 20)) (defScope (top 20)) [] [] f fd) : FnOk P w K mg base (L2.CX P w) 1 f fd ["script", "k"] (spOf K F__law_pool) :=
  fn_ok F sc__law_pool fun hx cdv A outer s H E hr => db__law_pool T hx cdv A outer s H E f hr
theorem ok__law_pool (T : Tb P w K mg) : Fn P w K mg base "_law_pool" 1 ["script", "k"] F__law_pool := by
  obtain ⟨f, fd, F, hm⟩ := T.f__law_pool
  exact ⟨f, fd, hm, F.kp, F.bindsN fun _ _ _ _ _ _ us hl => match us, hl with | [_, _], _ => rfl, fo__law_pool T F⟩
abbrev N__law_take : List Str := ["pool", "many", "told", "reach"]
theorem nd__law_take : (N__law_take).Nodup := by decide +kernel
theorem sc__law_take : FnScope N__law_take ["pool", "many"] (defScope (top 21)) := ⟨rfl, rfl, rfl, by decide +kernel, rfl, by decide +kernel, by decide +kernel⟩
theorem db__law_take (T : Tb P w K mg) (hx : Hx) (cdv : Value) (A : Around) (outer : List Env) (s : Shared) (H : Hp) (E : XK) (f : Addr) (hr : Room 0 (A.deeper (envOfC "_law_take" (defScope (top 21)) s.heap.objs.size f cdv))) : DB (cxF P w K mg base N__law_take "_law_take" (defScope (top 21)) f cdv A outer s H E) hx (defBody (top 21)) b__law_take := by
  have hu : (A.deeper (envOfC "_law_take" (defScope (top 21)) s.heap.objs.size f cdv)).units + 65 < cLine := by have := hr.un; omega
  have hu64 : (A.deeper (envOfC "_law_take" (defScope (top 21)) s.heap.objs.size f cdv)).units + 64 < cLine := by have := hr.un; omega
  exact db_cons (ds_if (dt_cmp od_gt (d_ix hu (d_var 0) (d_int)) (d_int))
      (db_cons (ds_set nd__law_take (d_bin od_mod (d_callTy cal_int T.m_int (da_cons (d_ix hu (d_var 0) (d_int)) (da_nil))) (d_var 1)))
      (db_cons (ds_asg (d_bin od_fdiv (d_ix hu (d_var 0) (d_int)) (d_var 1)) (dg_sub hu (d_var 0) (d_int)))
      (db_one (ds_ret (d_var 2)))))
      (db_nil))
      (db_cons (ds_set nd__law_take (d_int))
      (db_cons (ds_set nd__law_take (d_int))
      (db_cons (ds_while fuelW (passes_of rfl) (dt_cmp od_lt (d_var 3) (d_bin od_mul (d_int) (d_var 1)))
      (db_cons (ds_asg (d_bin od_mod (d_callTy cal_int T.m_int (da_cons (d_bin od_add (d_bin od_mul (d_ix hu (d_var 0) (d_int)) (d_int)) (d_int)) (da_nil))) (d_int)) (dg_sub hu (d_var 0) (d_int)))
      (db_cons (ds_set nd__law_take (d_bin od_add (d_bin od_mul (d_var 2) (d_int)) (d_bin od_fdiv (d_ix hu (d_var 0) (d_int)) (d_int))))
      (db_one (ds_set nd__law_take (d_bin od_mul (d_var 3) (d_int)))))))
      (db_one (ds_ret (d_bin od_mod (d_callTy cal_int T.m_int (da_cons (d_var 2) (da_nil))) (d_var 1)))))))
theorem fo__law_take (T : Tb P w K mg) {f : Addr} {fd : FuncData} (F : FunD K "_law_take" "_law_take" (defArgs (top 21)) (defBody (top 21)) (defScope (top 21)) [] [] f fd) : FnOk P w K mg base (L2.CX P w) 1 f fd ["pool", "many"] (spOf K F__law_take) :=
  fn_ok F sc__law_take fun hx cdv A outer s H E hr => db__law_take T hx cdv A outer s H E f hr
theorem ok__law_take (T : Tb P w K mg) : Fn P w K mg base "_law_take" 1 ["pool", "many"] F__law_take := by
  obtain ⟨f, fd, F, hm⟩ := T.f__law_take
  exact ⟨f, fd, hm, F.kp, F.bindsN fun _ _ _ _ _ _ us hl => match us, hl with | [_, _], _ => rfl, fo__law_take T F⟩
abbrev N__law_alike : List Str := ["one", "two", "k"]
theorem nd__law_alike : (N__law_alike).Nodup := by decide +kernel
theorem sc__law_alike : FnScope N__law_alike ["one", "two"] (defScope (top 22)) := ⟨rfl, rfl, rfl, by decide +kernel, rfl, by decide +kernel, by decide +kernel⟩
theorem db__law_alike (T : Tb P w K mg) (k : Nat) {f__law_alike : List Wt → Store → Res Wt} (g__law_alike : Fn P w K mg base "_law_alike" (0 + k) ["one", "two"] f__law_alike) (hx : Hx) (cdv : Value) (A : Around) (outer : List Env) (s : Shared) (H : Hp) (E : XK) (f : Addr) (hr : Room (0 + k) (A.deeper (envOfC "_law_alike" (defScope (top 22)) s.heap.objs.size f cdv))) : DB (cxF P w K mg base N__law_alike "_law_alike" (defScope (top 22)) f cdv A outer s H E) hx (defBody (top 22)) (b__law_alike f__law_alike) := by
  have hu : (A.deeper (envOfC "_law_alike" (defScope (top 22)) s.heap.objs.size f cdv)).units + 65 < cLine := by have := hr.un; omega
  have hu64 : (A.deeper (envOfC "_law_alike" (defScope (top 22)) s.heap.objs.size f cdv)).units + 64 < cLine := by have := hr.un; omega
  exact db_cons (ds_if (DW.dt (dw_or (dt_tru (d_callB cal_isi T.m_isinstance (da_cons (d_var 0) (da_cons (d_ty T.m_bool) (da_nil))))) (dw_or1 (dt_tru (d_callB cal_isi T.m_isinstance (da_cons (d_var 1) (da_cons (d_ty T.m_bool) (da_nil))))))))
      (db_one (ds_ret (d_and (d_callB cal_isi T.m_isinstance (da_cons (d_var 0) (da_cons (d_ty T.m_bool) (da_nil)))) (d_and (d_callB cal_isi T.m_isinstance (da_cons (d_var 1) (da_cons (d_ty T.m_bool) (da_nil)))) (d_one (d_cmp (od_eq hu64) (d_var 0) (d_var 1)))))))
      (db_nil))
      (db_cons (ds_if (DW.dt (dw_or (dt_tru (d_callB cal_isi T.m_isinstance (da_cons (d_var 0) (da_cons (d_ty T.m_int) (da_nil))))) (dw_or1 (dt_tru (d_callB cal_isi T.m_isinstance (da_cons (d_var 1) (da_cons (d_ty T.m_int) (da_nil))))))))
      (db_one (ds_ret (d_and (d_callB cal_isi T.m_isinstance (da_cons (d_var 0) (da_cons (d_ty T.m_int) (da_nil)))) (d_and (d_callB cal_isi T.m_isinstance (da_cons (d_var 1) (da_cons (d_ty T.m_int) (da_nil)))) (d_one (d_cmp (od_eq hu64) (d_var 0) (d_var 1)))))))
      (db_nil))
      (db_cons (ds_if (DW.dt (dw_or (dt_tru (d_callB cal_isi T.m_isinstance (da_cons (d_var 0) (da_cons (d_ty T.m_str) (da_nil))))) (dw_or1 (dt_tru (d_callB cal_isi T.m_isinstance (da_cons (d_var 1) (da_cons (d_ty T.m_str) (da_nil))))))))
      (db_one (ds_ret (d_and (d_callB cal_isi T.m_isinstance (da_cons (d_var 0) (da_cons (d_ty T.m_str) (da_nil)))) (d_and (d_callB cal_isi T.m_isinstance (da_cons (d_var 1) (da_cons (d_ty T.m_str) (da_nil)))) (d_one (d_cmp (od_eq hu64) (d_var 0) (d_var 1)))))))
      (db_nil))
      (db_cons (ds_if (DW.dt (dw_or (dt_cmp od_is (d_var 0) (d_non)) (dw_or1 (dt_cmp od_is (d_var 1) (d_non)))))
      (db_one (ds_ret (d_and (d_cmp od_is (d_var 0) (d_non)) (d_one (d_cmp od_is (d_var 1) (d_non))))))
      (db_nil))
      (db_cons (ds_if (DW.dt (dw_or (dt_tru (d_callB cal_isi T.m_isinstance (da_cons (d_var 0) (da_cons (d_ty T.m_dict) (da_nil))))) (dw_or1 (dt_tru (d_callB cal_isi T.m_isinstance (da_cons (d_var 1) (da_cons (d_ty T.m_dict) (da_nil))))))))
      (db_one (ds_ret (d_and (d_callB cal_isi T.m_isinstance (da_cons (d_var 0) (da_cons (d_ty T.m_dict) (da_nil)))) (d_and (d_callB cal_isi T.m_isinstance (da_cons (d_var 1) (da_cons (d_ty T.m_dict) (da_nil)))) (d_one (d_chain (od_eq hu64) (od_eq hu64) (d_callB cal_len T.m_len (da_cons (d_var 0) (da_nil))) (d_callB cal_len T.m_len (da_cons (d_var 1) (da_nil))) (d_int)))))))
      (db_nil))
      (db_cons (ds_if (DW.dt (dw_or (dt_cmp (od_ne hu64) (d_callB cal_isi T.m_isinstance (da_cons (d_var 0) (da_cons (d_ty T.m_tuple) (da_nil)))) (d_callB cal_isi T.m_isinstance (da_cons (d_var 1) (da_cons (d_ty T.m_tuple) (da_nil))))) (dw_or1 (dt_cmp (od_ne hu64) (d_callB cal_isi T.m_isinstance (da_cons (d_var 0) (da_cons (d_ty T.m_list) (da_nil)))) (d_callB cal_isi T.m_isinstance (da_cons (d_var 1) (da_cons (d_ty T.m_list) (da_nil))))))))
      (db_one (ds_ret (d_bl)))
      (db_nil))
      (db_cons (ds_if (DW.dt (dw_or (dt_not (dt_tru (d_callB cal_isi T.m_isinstance (da_cons (d_var 0) (da_cons (d_tup (da_cons (d_ty T.m_tuple) (da_cons (d_ty T.m_list) (da_nil)))) (da_nil)))))) (dw_or1 (dt_cmp (od_ne hu64) (d_callB cal_len T.m_len (da_cons (d_var 0) (da_nil))) (d_callB cal_len T.m_len (da_cons (d_var 1) (da_nil)))))))
      (db_one (ds_ret (d_bl)))
      (db_nil))
      (db_one (ds_ret (d_callB (cal_all rfl) T.m_all (da_cons (d_lcG finV_ok rfl nd__law_alike [("k", 2)] (di_rng1 T.m_range (da_cons (d_callB cal_len T.m_len (da_cons (d_var 0) (da_nil))) (da_nil))) (blkOk_by (by kernel_rfl)) (by decide) (fun _ _ _ _ _ => dg_name nd__law_alike) (fun _ _ _ _ _ => dts_nil) (fun _ _ _ _ _ => d_call g__law_alike hr (da_cons (d_ix hu (d_var 0) (d_var 2)) (da_cons (d_ix hu (d_var 1) (d_var 2)) (da_nil))))) (da_nil)))))))))))
theorem all__law_alike (T : Tb P w K mg) : ∀ k : Nat, (Fn P w K mg base "_law_alike" (0 + k) ["one", "two"] (F__law_alike k))
  | 0 => by
    obtain ⟨f0, fd0, F0, hm0⟩ := T.f__law_alike
    exact ⟨f0, fd0, hm0, F0.kp, F0.bindsN fun _ _ _ _ _ _ us hl => match us, hl with | [_, _], _ => rfl, fn_bad F0 sc__law_alike⟩
  | k + 1 => by
    have ih := all__law_alike T k
    have g__law_alike := ih
    obtain ⟨f0, fd0, F0, hm0⟩ := T.f__law_alike
    have h0 : FnOk P w K mg base (L2.CX P w) (0 + k + 1) f0 fd0 ["one", "two"] (spOf K (F__law_alike (k + 1))) := fn_ok F0 sc__law_alike fun hx cdv A outer s H E hr => db__law_alike T k g__law_alike hx cdv A outer s H E f0 hr
    exact ⟨f0, fd0, hm0, F0.kp, F0.bindsN fun _ _ _ _ _ _ us hl => match us, hl with | [_, _], _ => rfl, h0⟩
theorem ok__law_alike (T : Tb P w K mg) : Fn P w K mg base "_law_alike" 8 ["one", "two"] (F__law_alike 8) := (all__law_alike T 8)
abbrev N__law_one : List Str := ["pool", "some"]
theorem nd__law_one : (N__law_one).Nodup := by decide +kernel
theorem sc__law_one : FnScope N__law_one ["pool", "some"] (defScope (top 23)) := ⟨rfl, rfl, rfl, by decide +kernel, rfl, by decide +kernel, by decide +kernel⟩
theorem db__law_one (T : Tb P w K mg) (hx : Hx) (cdv : Value) (A : Around) (outer : List Env) (s : Shared) (H : Hp) (E : XK) (f : Addr) (hr : Room 1 (A.deeper (envOfC "_law_one" (defScope (top 23)) s.heap.objs.size f cdv))) : DB (cxF P w K mg base N__law_one "_law_one" (defScope (top 23)) f cdv A outer s H E) hx (defBody (top 23)) b__law_one := by
  have hu : (A.deeper (envOfC "_law_one" (defScope (top 23)) s.heap.objs.size f cdv)).units + 65 < cLine := by have := hr.un; omega
  have hu64 : (A.deeper (envOfC "_law_one" (defScope (top 23)) s.heap.objs.size f cdv)).units + 64 < cLine := by have := hr.un; omega
  exact db_one (ds_ret (d_ix hu (d_var 1) (d_call ((ok__law_take T).mono (by omega)) hr (da_cons (d_var 0) (da_cons (d_callB cal_len T.m_len (da_cons (d_var 1) (da_nil))) (da_nil))))))
theorem fo__law_one (T : Tb P w K mg) {f : Addr} {fd : FuncData} (F : FunD K "_law_one" "_law_one" (defArgs (top 23)) (defBody (top 23)) (defScope (top 23)) [] [] f fd) : FnOk P w K mg base (L2.CX P w) 2 f fd ["pool", "some"] (spOf K F__law_one) :=
  fn_ok F sc__law_one fun hx cdv A outer s H E hr => db__law_one T hx cdv A outer s H E f hr
theorem ok__law_one (T : Tb P w K mg) : Fn P w K mg base "_law_one" 2 ["pool", "some"] F__law_one := by
  obtain ⟨f, fd, F, hm⟩ := T.f__law_one
  exact ⟨f, fd, hm, F.kp, F.bindsN fun _ _ _ _ _ _ us hl => match us, hl with | [_, _], _ => rfl, fo__law_one T F⟩
abbrev N__law_held : List Str := ["k", "value", "is_named"]
theorem nd__law_held : (N__law_held).Nodup := by decide +kernel
theorem sc__law_held : FnScope N__law_held ["k", "value", "is_named"] (defScope (top 24)) := ⟨rfl, rfl, rfl, by decide +kernel, rfl, by decide +kernel, by decide +kernel⟩
theorem db__law_held (T : Tb P w K mg) (hx : Hx) (cdv : Value) (A : Around) (outer : List Env) (s : Shared) (H : Hp) (E : XK) (f : Addr) (hr : Room 2 (A.deeper (envOfC "_law_held" (defScope (top 24)) s.heap.objs.size f cdv))) : DB (cxF P w K mg base N__law_held "_law_held" (defScope (top 24)) f cdv A outer s H E) hx (defBody (top 24)) b__law_held := by
  have hu : (A.deeper (envOfC "_law_held" (defScope (top 24)) s.heap.objs.size f cdv)).units + 65 < cLine := by have := hr.un; omega
  have hu64 : (A.deeper (envOfC "_law_held" (defScope (top 24)) s.heap.objs.size f cdv)).units + 64 < cLine := by have := hr.un; omega
  exact db_cons (ds_if (dt_cmp (od_eq hu64) (d_var 0) (d_int))
      (db_one (ds_ret (d_if (dt_tru (d_var 2)) (d_mk1K (ik_NotATree T) (hr.mono (by omega)) (dk_cons (d_var 1) (dk_nil))) (d_mk1 (i_NotATree T) (hr.mono (by omega)) (da_cons (d_var 1) (da_nil))))))
      (db_nil))
      (db_cons (ds_if (dt_cmp (od_eq hu64) (d_var 0) (d_int))
      (db_one (ds_ret (d_if (dt_tru (d_var 2)) (d_mk1K (ik_NotSound T) (hr.mono (by omega)) (dk_cons (d_var 1) (dk_nil))) (d_mk1 (i_NotSound T) (hr.mono (by omega)) (da_cons (d_var 1) (da_nil))))))
      (db_nil))
      (db_cons (ds_if (dt_cmp (od_eq hu64) (d_var 0) (d_int))
      (db_one (ds_ret (d_if (dt_tru (d_var 2)) (d_mk1K (ik_NotLawful T) (hr.mono (by omega)) (dk_cons (d_var 1) (dk_nil))) (d_mk1 (i_NotLawful T) (hr.mono (by omega)) (da_cons (d_var 1) (da_nil))))))
      (db_nil))
      (db_cons (ds_if (dt_cmp (od_eq hu64) (d_var 0) (d_int))
      (db_one (ds_ret (d_if (dt_tru (d_var 2)) (d_mk1K (ik_NotAKink T) (hr.mono (by omega)) (dk_cons (d_var 1) (dk_nil))) (d_mk1 (i_NotAKink T) (hr.mono (by omega)) (da_cons (d_var 1) (da_nil))))))
      (db_nil))
      (db_cons (ds_if (dt_cmp (od_eq hu64) (d_var 0) (d_int))
      (db_one (ds_ret (d_if (dt_tru (d_var 2)) (d_mk1K (ik_NotAProgram T) (hr.mono (by omega)) (dk_cons (d_var 1) (dk_nil))) (d_mk1 (i_NotAProgram T) (hr.mono (by omega)) (da_cons (d_var 1) (da_nil))))))
      (db_nil))
      (db_cons (ds_if (dt_cmp (od_eq hu64) (d_var 0) (d_int))
      (db_one (ds_ret (d_if (dt_tru (d_var 2)) (d_mk1K (ik_NotAPaper T) (hr.mono (by omega)) (dk_cons (d_var 1) (dk_nil))) (d_mk1 (i_NotAPaper T) (hr.mono (by omega)) (da_cons (d_var 1) (da_nil))))))
      (db_nil))
      (db_one (ds_ret (d_if (dt_tru (d_var 2)) (d_mk1K (ik_NotRows T) (hr.mono (by omega)) (dk_cons (d_var 1) (dk_nil))) (d_mk1 (i_NotRows T) (hr.mono (by omega)) (da_cons (d_var 1) (da_nil)))))))))))
theorem fo__law_held (T : Tb P w K mg) {f : Addr} {fd : FuncData} (F : FunD K "_law_held" "_law_held" (defArgs (top 24)) (defBody (top 24)) (defScope (top 24)) [] [] f fd) : FnOk P w K mg base (L2.CX P w) 3 f fd ["k", "value", "is_named"] (spOf K F__law_held) :=
  fn_ok F sc__law_held fun hx cdv A outer s H E hr => db__law_held T hx cdv A outer s H E f hr
theorem ok__law_held (T : Tb P w K mg) : Fn P w K mg base "_law_held" 3 ["k", "value", "is_named"] F__law_held := by
  obtain ⟨f, fd, F, hm⟩ := T.f__law_held
  exact ⟨f, fd, hm, F.kp, F.bindsN fun _ _ _ _ _ _ us hl => match us, hl with | [_, _, _], _ => rfl, fo__law_held T F⟩
abbrev N__law_kept : List Str := ["k", "value", "is_named"]
theorem nd__law_kept : (N__law_kept).Nodup := by decide +kernel
theorem sc__law_kept : FnScope N__law_kept ["k", "value", "is_named"] (defScope (top 25)) := ⟨rfl, rfl, rfl, by decide +kernel, rfl, by decide +kernel, by decide +kernel⟩
theorem db__law_kept (T : Tb P w K mg) (hx : Hx) (cdv : Value) (A : Around) (outer : List Env) (s : Shared) (H : Hp) (E : XK) (f : Addr) (hr : Room 2 (A.deeper (envOfC "_law_kept" (defScope (top 25)) s.heap.objs.size f cdv))) : DB (cxF P w K mg base N__law_kept "_law_kept" (defScope (top 25)) f cdv A outer s H E) hx (defBody (top 25)) b__law_kept := by
  have hu : (A.deeper (envOfC "_law_kept" (defScope (top 25)) s.heap.objs.size f cdv)).units + 65 < cLine := by have := hr.un; omega
  have hu64 : (A.deeper (envOfC "_law_kept" (defScope (top 25)) s.heap.objs.size f cdv)).units + 64 < cLine := by have := hr.un; omega
  exact db_cons (ds_if (dt_cmp (od_eq hu64) (d_var 0) (d_int))
      (db_one (ds_ret (d_if (dt_tru (d_var 2)) (d_mk1K (ik_NotACode T) (hr.mono (by omega)) (dk_cons (d_var 1) (dk_nil))) (d_mk1 (i_NotACode T) (hr.mono (by omega)) (da_cons (d_var 1) (da_nil))))))
      (db_nil))
      (db_cons (ds_if (dt_cmp (od_eq hu64) (d_var 0) (d_int))
      (db_one (ds_ret (d_if (dt_tru (d_var 2)) (d_mk1K (ik_NotAFraction T) (hr.mono (by omega)) (dk_cons (d_var 1) (dk_nil))) (d_mk1 (i_NotAFraction T) (hr.mono (by omega)) (da_cons (d_var 1) (da_nil))))))
      (db_nil))
      (db_cons (ds_if (dt_cmp (od_eq hu64) (d_var 0) (d_int))
      (db_one (ds_ret (d_if (dt_tru (d_var 2)) (d_mk1K (ik_NotNow T) (hr.mono (by omega)) (dk_cons (d_var 1) (dk_nil))) (d_mk1 (i_NotNow T) (hr.mono (by omega)) (da_cons (d_var 1) (da_nil))))))
      (db_nil))
      (db_cons (ds_if (dt_cmp (od_eq hu64) (d_var 0) (d_int))
      (db_one (ds_ret (d_if (dt_tru (d_var 2)) (d_mk1K (ik_NotADesk T) (hr.mono (by omega)) (dk_cons (d_var 1) (dk_nil))) (d_mk1 (i_NotADesk T) (hr.mono (by omega)) (da_cons (d_var 1) (da_nil))))))
      (db_nil))
      (db_cons (ds_if (dt_cmp (od_eq hu64) (d_var 0) (d_int))
      (db_one (ds_ret (d_if (dt_tru (d_var 2)) (d_mk1K (ik_InvalidAsk T) (hr.mono (by omega)) (dk_cons (d_var 1) (dk_nil))) (d_mk1 (i_InvalidAsk T) (hr.mono (by omega)) (da_cons (d_var 1) (da_nil))))))
      (db_nil))
      (db_cons (ds_if (dt_cmp (od_eq hu64) (d_var 0) (d_int))
      (db_one (ds_ret (d_if (dt_tru (d_var 2)) (d_mk1K (ik_InvalidNumber T) (hr.mono (by omega)) (dk_cons (d_var 1) (dk_nil))) (d_mk1 (i_InvalidNumber T) (hr.mono (by omega)) (da_cons (d_var 1) (da_nil))))))
      (db_nil))
      (db_cons (ds_if (dt_cmp (od_eq hu64) (d_var 0) (d_int))
      (db_one (ds_ret (d_if (dt_tru (d_var 2)) (d_mk1K (ik_InvalidText T) (hr.mono (by omega)) (dk_cons (d_var 1) (dk_nil))) (d_mk1 (i_InvalidText T) (hr.mono (by omega)) (da_cons (d_var 1) (da_nil))))))
      (db_nil))
      (db_one (ds_ret (d_if (dt_tru (d_var 2)) (d_mk1K (ik_InvalidLine T) (hr.mono (by omega)) (dk_cons (d_var 1) (dk_nil))) (d_mk1 (i_InvalidLine T) (hr.mono (by omega)) (da_cons (d_var 1) (da_nil))))))))))))
theorem fo__law_kept (T : Tb P w K mg) {f : Addr} {fd : FuncData} (F : FunD K "_law_kept" "_law_kept" (defArgs (top 25)) (defBody (top 25)) (defScope (top 25)) [] [] f fd) : FnOk P w K mg base (L2.CX P w) 3 f fd ["k", "value", "is_named"] (spOf K F__law_kept) :=
  fn_ok F sc__law_kept fun hx cdv A outer s H E hr => db__law_kept T hx cdv A outer s H E f hr
theorem ok__law_kept (T : Tb P w K mg) : Fn P w K mg base "_law_kept" 3 ["k", "value", "is_named"] F__law_kept := by
  obtain ⟨f, fd, F, hm⟩ := T.f__law_kept
  exact ⟨f, fd, hm, F.kp, F.bindsN fun _ _ _ _ _ _ us hl => match us, hl with | [_, _, _], _ => rfl, fo__law_kept T F⟩
abbrev N__law_kinds_of : List Str := ["e", "told", "k", "is_one"]
theorem nd__law_kinds_of : (N__law_kinds_of).Nodup := by decide +kernel
theorem sc__law_kinds_of : FnScope N__law_kinds_of ["e"] (defScope (top 26)) := ⟨rfl, rfl, rfl, by decide +kernel, rfl, by decide +kernel, by decide +kernel⟩
theorem db__law_kinds_of (T : Tb P w K mg) (hx : Hx) (cdv : Value) (A : Around) (outer : List Env) (s : Shared) (H : Hp) (E : XK) (f : Addr) (hr : Room 0 (A.deeper (envOfC "_law_kinds_of" (defScope (top 26)) s.heap.objs.size f cdv))) : DB (cxF P w K mg base N__law_kinds_of "_law_kinds_of" (defScope (top 26)) f cdv A outer s H E) hx (defBody (top 26)) b__law_kinds_of := by
  have hu : (A.deeper (envOfC "_law_kinds_of" (defScope (top 26)) s.heap.objs.size f cdv)).units + 65 < cLine := by have := hr.un; omega
  have hu64 : (A.deeper (envOfC "_law_kinds_of" (defScope (top 26)) s.heap.objs.size f cdv)).units + 64 < cLine := by have := hr.un; omega
  exact db_cons (ds_set nd__law_kinds_of (d_lst (da_cons (d_callB (cal_isX T.tb) T.m_isinstance (da_cons (d_var 0) (da_cons (d_glob (Tb.kon T.c_NotATree)) (da_nil)))) (da_cons (d_callB (cal_isX T.tb) T.m_isinstance (da_cons (d_var 0) (da_cons (d_glob (Tb.kon T.c_NotSound)) (da_nil)))) (da_cons (d_callB (cal_isX T.tb) T.m_isinstance (da_cons (d_var 0) (da_cons (d_glob (Tb.kon T.c_NotLawful)) (da_nil)))) (da_cons (d_callB (cal_isX T.tb) T.m_isinstance (da_cons (d_var 0) (da_cons (d_glob (Tb.kon T.c_NotAKink)) (da_nil)))) (da_cons (d_callB (cal_isX T.tb) T.m_isinstance (da_cons (d_var 0) (da_cons (d_glob (Tb.kon T.c_NotAProgram)) (da_nil)))) (da_cons (d_callB (cal_isX T.tb) T.m_isinstance (da_cons (d_var 0) (da_cons (d_glob (Tb.kon T.c_NotAPaper)) (da_nil)))) (da_nil)))))))))
      (db_cons (ds_set nd__law_kinds_of (d_bin od_add (d_var 1) (d_lst (da_cons (d_callB (cal_isX T.tb) T.m_isinstance (da_cons (d_var 0) (da_cons (d_glob (Tb.kon T.c_NotRows)) (da_nil)))) (da_cons (d_callB (cal_isX T.tb) T.m_isinstance (da_cons (d_var 0) (da_cons (d_glob (Tb.kon T.c_NotACode)) (da_nil)))) (da_cons (d_callB (cal_isX T.tb) T.m_isinstance (da_cons (d_var 0) (da_cons (d_glob (Tb.kon T.c_NotAFraction)) (da_nil)))) (da_cons (d_callB (cal_isX T.tb) T.m_isinstance (da_cons (d_var 0) (da_cons (d_glob (Tb.kon T.c_NotNow)) (da_nil)))) (da_cons (d_callB (cal_isX T.tb) T.m_isinstance (da_cons (d_var 0) (da_cons (d_glob (Tb.kon T.c_NotADesk)) (da_nil)))) (da_nil)))))))))
      (db_cons (ds_set nd__law_kinds_of (d_bin od_add (d_var 1) (d_lst (da_cons (d_callB (cal_isX T.tb) T.m_isinstance (da_cons (d_var 0) (da_cons (d_glob (Tb.kon T.c_InvalidAsk)) (da_nil)))) (da_cons (d_callB (cal_isX T.tb) T.m_isinstance (da_cons (d_var 0) (da_cons (d_glob (Tb.kon T.c_InvalidNumber)) (da_nil)))) (da_cons (d_callB (cal_isX T.tb) T.m_isinstance (da_cons (d_var 0) (da_cons (d_glob (Tb.kon T.c_InvalidText)) (da_nil)))) (da_cons (d_callB (cal_isX T.tb) T.m_isinstance (da_cons (d_var 0) (da_cons (d_glob (Tb.kon T.c_InvalidLine)) (da_nil)))) (da_nil))))))))
      (db_cons (ds_set nd__law_kinds_of (d_bin od_add (d_var 1) (d_lst (da_cons (d_callB (cal_isX T.tb) T.m_isinstance (da_cons (d_var 0) (da_cons (d_glob (Tb.kon T.c_Misread)) (da_nil)))) (da_cons (d_callB (cal_isX T.tb) T.m_isinstance (da_cons (d_var 0) (da_cons (d_glob (Tb.kon T.c_NothingToUndo)) (da_nil)))) (da_nil))))))
      (db_one (ds_ret (d_lcG finV_ok rfl nd__law_kinds_of [("k", 2), ("is_one", 3)] (di_enu T.m_enumerate (da_cons (d_var 1) (da_nil))) (blkOk_by (by kernel_rfl)) (by decide) (fun _ _ _ _ _ => dg_tup rfl (dgs_cons (dg_name nd__law_kinds_of) (dgs_cons (dg_name nd__law_kinds_of) (dgs_nil)))) (fun _ _ _ _ _ => dts_one (dt_tru (d_var 3))) (fun _ _ _ _ _ => d_var 2)))))))
theorem fo__law_kinds_of (T : Tb P w K mg) {f : Addr} {fd : FuncData} (F : FunD K "_law_kinds_of" "_law_kinds_of" (defArgs (top 26)) (defBody (top 26)) (defScope (top 26)) [] [] f fd) : FnOk P w K mg base (L2.CX P w) 1 f fd ["e"] (spOf K F__law_kinds_of) :=
  fn_ok F sc__law_kinds_of fun hx cdv A outer s H E hr => db__law_kinds_of T hx cdv A outer s H E f hr
theorem ok__law_kinds_of (T : Tb P w K mg) : Fn P w K mg base "_law_kinds_of" 1 ["e"] F__law_kinds_of := by
  obtain ⟨f, fd, F, hm⟩ := T.f__law_kinds_of
  exact ⟨f, fd, hm, F.kp, F.bindsN fun _ _ _ _ _ _ us hl => match us, hl with | [_], _ => rfl, fo__law_kinds_of T F⟩
abbrev N__law_right : List Str := ["pool", "values", "k", "value", "e", "one", "two"]
theorem nd__law_right : (N__law_right).Nodup := by decide +kernel
theorem sc__law_right : FnScope N__law_right ["pool"] (defScope (top 27)) := ⟨rfl, rfl, rfl, by decide +kernel, rfl, by decide +kernel, by decide +kernel⟩
theorem db__law_right (T : Tb P w K mg) (hx : Hx) (cdv : Value) (A : Around) (outer : List Env) (s : Shared) (H : Hp) (E : XK) (f : Addr) (hr : Room 9 (A.deeper (envOfC "_law_right" (defScope (top 27)) s.heap.objs.size f cdv))) : DB (cxF P w K mg base N__law_right "_law_right" (defScope (top 27)) f cdv A outer s H E) hx (defBody (top 27)) b__law_right := by
  have hu : (A.deeper (envOfC "_law_right" (defScope (top 27)) s.heap.objs.size f cdv)).units + 65 < cLine := by have := hr.un; omega
  have hu64 : (A.deeper (envOfC "_law_right" (defScope (top 27)) s.heap.objs.size f cdv)).units + 64 < cLine := by have := hr.un; omega
  exact db_cons (ds_set nd__law_right (d_lst (da_cons (d_non) (da_cons (d_int) (da_cons (d_neg (d_int)) (da_cons (d_bl) (da_cons (d_str) (da_cons (d_str) (da_cons (d_tup (da_nil)) (da_cons (d_tup (da_cons (d_int) (da_cons (d_tup (da_cons (d_int) (da_cons (d_str) (da_nil)))) (da_nil)))) (da_cons (d_lst (da_cons (d_int) (da_nil))) (da_cons (d_dict0) (da_cons (d_bin od_pow (d_int) (d_int)) (da_cons (d_call ((ok__law_take T).mono (by omega)) hr (da_cons (d_var 0) (da_cons (d_int) (da_nil)))) (da_nil)))))))))))))))
      (db_cons (ds_for (passes_of rfl) rfl (di_rng1 T.m_range (da_cons (d_int) (da_nil))) (dg_name nd__law_right)
      (db_cons (ds_set nd__law_right (d_call ((ok__law_one T).mono (by omega)) hr (da_cons (d_var 0) (da_cons (d_var 1) (da_nil)))))
      (db_cons (ds_set nd__law_right (d_if (dt_cmp od_lt (d_var 2) (d_int)) (d_call ((ok__law_held T).mono (by omega)) hr (da_cons (d_var 2) (da_cons (d_var 3) (da_cons (d_cmp (od_eq hu64) (d_call ((ok__law_take T).mono (by omega)) hr (da_cons (d_var 0) (da_cons (d_int) (da_nil)))) (d_int)) (da_nil))))) (d_call ((ok__law_kept T).mono (by omega)) hr (da_cons (d_bin od_sub (d_var 2) (d_int)) (da_cons (d_var 3) (da_cons (d_cmp (od_eq hu64) (d_call ((ok__law_take T).mono (by omega)) hr (da_cons (d_var 0) (da_cons (d_int) (da_nil)))) (d_int)) (da_nil)))))))
      (db_one (ds_if (DW.dt (dw_or (dt_not (dt_tru (d_call ((ok__law_alike T).mono (by omega)) hr (da_cons (d_xv Cs_given T.x_given (d_var 4)) (da_cons (d_var 3) (da_nil)))))) (dw_or (dt_cmp (od_ne hu64) (d_call ((ok__law_kinds_of T).mono (by omega)) hr (da_cons (d_var 4) (da_nil))) (d_lst (da_cons (d_var 2) (da_nil)))) (dw_or (dt_not (dt_tru (d_callB (cal_isX T.tb) T.m_isinstance (da_cons (d_var 4) (da_cons (d_glob (Tb.kon T.c_DuelError)) (da_nil)))))) (dw_or1 (dt_not (dt_tru (d_callB (cal_isX T.tb) T.m_isinstance (da_cons (d_var 4) (da_cons (d_ty T.m_ValueError) (da_nil)))))))))))
      (db_one (ds_ret (d_bl)))
      (db_nil))))))
      (db_cons (ds_par rfl nd__law_right (da_cons (d_call ((ok__law_one T).mono (by omega)) hr (da_cons (d_var 0) (da_cons (d_var 1) (da_nil)))) (da_cons (d_call ((ok__law_one T).mono (by omega)) hr (da_cons (d_var 0) (da_cons (d_var 1) (da_nil)))) (da_nil))))
      (db_cons (ds_for (passes_of rfl) rfl (di_val (d_tup (da_cons (d_mk2 (i_Misread T) (hr.mono (by omega)) (da_cons (d_var 5) (da_cons (d_var 6) (da_nil)))) (da_cons (d_mk2K (ik_Misread T) (hr.mono (by omega)) (dk_cons (d_var 6) (dk_cons (d_var 5) (dk_nil)))) (da_nil))))) (dg_name nd__law_right)
      (db_one (ds_if (DW.dt (dw_or (dt_not (dt_tru (d_call ((ok__law_alike T).mono (by omega)) hr (da_cons (d_tup (da_cons (d_xv Cs_line T.x_line (d_var 4)) (da_cons (d_xv Cs_word T.x_word (d_var 4)) (da_nil)))) (da_cons (d_tup (da_cons (d_var 5) (da_cons (d_var 6) (da_nil)))) (da_nil)))))) (dw_or (dt_cmp (od_ne hu64) (d_call ((ok__law_kinds_of T).mono (by omega)) hr (da_cons (d_var 4) (da_nil))) (d_lst (da_cons (d_int) (da_nil)))) (dw_or1 (dt_not (dt_tru (d_callB (cal_isX T.tb) T.m_isinstance (da_cons (d_var 4) (da_cons (d_glob (Tb.kon T.c_DuelError)) (da_nil))))))))))
      (db_one (ds_ret (d_bl)))
      (db_nil))))
      (db_cons (ds_set nd__law_right (d_mk0 T.z_NothingToUndo))
      (db_one (ds_ret (d_and (d_cmp (od_eq hu64) (d_call ((ok__law_kinds_of T).mono (by omega)) hr (da_cons (d_var 4) (da_nil))) (d_lst (da_cons (d_int) (da_nil)))) (d_and (d_callB (cal_isX T.tb) T.m_isinstance (da_cons (d_var 4) (da_cons (d_glob (Tb.kon T.c_DuelError)) (da_nil)))) (d_and (d_callB (cal_isX T.tb) T.m_isinstance (da_cons (d_mk0 T.z_DuelError) (da_cons (d_ty T.m_ValueError) (da_nil)))) (d_one (d_cmp (od_eq hu64) (d_call ((ok__law_kinds_of T).mono (by omega)) hr (da_cons (d_mk0 T.z_DuelError) (da_nil))) (d_lst (da_nil)))))))))))))
theorem fo__law_right (T : Tb P w K mg) {f : Addr} {fd : FuncData} (F : FunD K "_law_right" "_law_right" (defArgs (top 27)) (defBody (top 27)) (defScope (top 27)) [] [] f fd) : FnOk P w K mg base (L2.CX P w) 10 f fd ["pool"] (spOf K F__law_right) :=
  fn_ok F sc__law_right fun hx cdv A outer s H E hr => db__law_right T hx cdv A outer s H E f hr
theorem ok__law_right (T : Tb P w K mg) : Fn P w K mg base "_law_right" 10 ["pool"] F__law_right := by
  obtain ⟨f, fd, F, hm⟩ := T.f__law_right
  exact ⟨f, fd, hm, F.kp, F.bindsN fun _ _ _ _ _ _ us hl => match us, hl with | [_], _ => rfl, fo__law_right T F⟩
abbrev N_law : List Str := ["script", "turn"]
theorem nd_law : (N_law).Nodup := by decide +kernel
theorem sc_law : FnScope N_law ["script"] (defScope (top 28)) := ⟨rfl, rfl, rfl, by decide +kernel, rfl, by decide +kernel, by decide +kernel⟩
theorem db_law (T : Tb P w K mg) (hx : Hx) (cdv : Value) (A : Around) (outer : List Env) (s : Shared) (H : Hp) (E : XK) (f : Addr) (hr : Room 10 (A.deeper (envOfC "law" (defScope (top 28)) s.heap.objs.size f cdv))) : DB (cxF P w K mg base N_law "law" (defScope (top 28)) f cdv A outer s H E) hx (defBody (top 28)) b_law := by
  have hu : (A.deeper (envOfC "law" (defScope (top 28)) s.heap.objs.size f cdv)).units + 65 < cLine := by have := hr.un; omega
  have hu64 : (A.deeper (envOfC "law" (defScope (top 28)) s.heap.objs.size f cdv)).units + 64 < cLine := by have := hr.un; omega
  exact db_cons (ds_for (passes_of rfl) rfl (di_rng1 T.m_range (da_cons (d_callB (cal_min rfl) T.m_min (da_cons (d_int) (da_cons (d_callB (cal_max rfl) T.m_max (da_cons (d_int) (da_cons (d_callB cal_len T.m_len (da_cons (d_var 0) (da_nil))) (da_nil)))) (da_nil)))) (da_nil))) (dg_name nd_law)
      (db_one (ds_if (dt_not (dt_tru (d_call ((ok__law_right T).mono (by omega)) hr (da_cons (d_call ((ok__law_pool T).mono (by omega)) hr (da_cons (d_var 0) (da_cons (d_var 1) (da_nil)))) (da_nil)))))
      (db_one (ds_ret (d_bl)))
      (db_nil))))
      (db_one (ds_ret (d_bl)))
theorem fo_law (T : Tb P w K mg) {f : Addr} {fd : FuncData} (F : FunD K "law" "law" (defArgs (top 28)) (defBody (top 28)) (defScope (top 28)) [] [] f fd) : FnOk P w K mg base (L2.CX P w) 11 f fd ["script"] (spOf K F_law) :=
  fn_ok F sc_law fun hx cdv A outer s H E hr => db_law T hx cdv A outer s H E f hr
theorem ok_law (T : Tb P w K mg) : Fn P w K mg base "law" 11 ["script"] F_law := by
  obtain ⟨f, fd, F, hm⟩ := T.f_law
  exact ⟨f, fd, hm, F.kp, F.bindsN fun _ _ _ _ _ _ us hl => match us, hl with | [_], _ => rfl, fo_law T F⟩
end
def names0 : List PySem.Str := ["DuelError", "Misread", "NotATree", "NotSound", "NotLawful", "NotAKink", "NotAProgram", "NotAPaper", "NotRows", "NotACode", "NotAFraction", "NotNow", "NotADesk", "InvalidAsk", "InvalidNumber", "InvalidText", "InvalidLine", "NothingToUndo", "_law_pool", "_law_take"]
def names1 : List PySem.Str := ["_law_alike", "_law_one", "_law_held", "_law_kept", "_law_kinds_of", "_law_right"]
def names : List PySem.Str := names0 ++ names1
def dd0 : He.DefD := ⟨("_law_pool", none), "_law_pool", "_law_pool", defArgs (top 20), defBody (top 20), defScope (top 20), [], []⟩
def dd1 : He.DefD := ⟨("_law_take", none), "_law_take", "_law_take", defArgs (top 21), defBody (top 21), defScope (top 21), [], []⟩
def dd2 : He.DefD := ⟨("_law_alike", none), "_law_alike", "_law_alike", defArgs (top 22), defBody (top 22), defScope (top 22), [], []⟩
def dd3 : He.DefD := ⟨("_law_one", none), "_law_one", "_law_one", defArgs (top 23), defBody (top 23), defScope (top 23), [], []⟩
def dd4 : He.DefD := ⟨("_law_held", none), "_law_held", "_law_held", defArgs (top 24), defBody (top 24), defScope (top 24), [], []⟩
def dd5 : He.DefD := ⟨("_law_kept", none), "_law_kept", "_law_kept", defArgs (top 25), defBody (top 25), defScope (top 25), [], []⟩
def dd6 : He.DefD := ⟨("_law_kinds_of", none), "_law_kinds_of", "_law_kinds_of", defArgs (top 26), defBody (top 26), defScope (top 26), [], []⟩
def dd7 : He.DefD := ⟨("_law_right", none), "_law_right", "_law_right", defArgs (top 27), defBody (top 27), defScope (top 27), [], []⟩
def dd8 : He.DefD := ⟨("law", none), "law", "law", defArgs (top 28), defBody (top 28), defScope (top 28), [], []⟩
def dd9 : He.DefD := ⟨("Misread", some "__init__"), "__init__", "Misread.__init__", defArgs (mth 2 0), defBody (mth 2 0), defScope (mth 2 0), [], []⟩
def dd10 : He.DefD := ⟨("NotATree", some "__init__"), "__init__", "NotATree.__init__", defArgs (mth 3 0), defBody (mth 3 0), defScope (mth 3 0), [], []⟩
def dd11 : He.DefD := ⟨("NotSound", some "__init__"), "__init__", "NotSound.__init__", defArgs (mth 4 0), defBody (mth 4 0), defScope (mth 4 0), [], []⟩
def dd12 : He.DefD := ⟨("NotLawful", some "__init__"), "__init__", "NotLawful.__init__", defArgs (mth 5 0), defBody (mth 5 0), defScope (mth 5 0), [], []⟩
def dd13 : He.DefD := ⟨("NotAKink", some "__init__"), "__init__", "NotAKink.__init__", defArgs (mth 6 0), defBody (mth 6 0), defScope (mth 6 0), [], []⟩
def dd14 : He.DefD := ⟨("NotAProgram", some "__init__"), "__init__", "NotAProgram.__init__", defArgs (mth 7 0), defBody (mth 7 0), defScope (mth 7 0), [], []⟩
def dd15 : He.DefD := ⟨("NotAPaper", some "__init__"), "__init__", "NotAPaper.__init__", defArgs (mth 8 0), defBody (mth 8 0), defScope (mth 8 0), [], []⟩
def dd16 : He.DefD := ⟨("NotRows", some "__init__"), "__init__", "NotRows.__init__", defArgs (mth 9 0), defBody (mth 9 0), defScope (mth 9 0), [], []⟩
def dd17 : He.DefD := ⟨("NotACode", some "__init__"), "__init__", "NotACode.__init__", defArgs (mth 10 0), defBody (mth 10 0), defScope (mth 10 0), [], []⟩
def dd18 : He.DefD := ⟨("NotAFraction", some "__init__"), "__init__", "NotAFraction.__init__", defArgs (mth 11 0), defBody (mth 11 0), defScope (mth 11 0), [], []⟩
def dd19 : He.DefD := ⟨("NotNow", some "__init__"), "__init__", "NotNow.__init__", defArgs (mth 12 0), defBody (mth 12 0), defScope (mth 12 0), [], []⟩
def dd20 : He.DefD := ⟨("NotADesk", some "__init__"), "__init__", "NotADesk.__init__", defArgs (mth 13 0), defBody (mth 13 0), defScope (mth 13 0), [], []⟩
def dd21 : He.DefD := ⟨("InvalidAsk", some "__init__"), "__init__", "InvalidAsk.__init__", defArgs (mth 14 0), defBody (mth 14 0), defScope (mth 14 0), [], []⟩
def dd22 : He.DefD := ⟨("InvalidNumber", some "__init__"), "__init__", "InvalidNumber.__init__", defArgs (mth 15 0), defBody (mth 15 0), defScope (mth 15 0), [], []⟩
def dd23 : He.DefD := ⟨("InvalidText", some "__init__"), "__init__", "InvalidText.__init__", defArgs (mth 16 0), defBody (mth 16 0), defScope (mth 16 0), [], []⟩
def dd24 : He.DefD := ⟨("InvalidLine", some "__init__"), "__init__", "InvalidLine.__init__", defArgs (mth 17 0), defBody (mth 17 0), defScope (mth 17 0), [], []⟩
def fn : List He.DefD := [dd0, dd1, dd2, dd3, dd4, dd5, dd6, dd7, dd8, dd9, dd10, dd11, dd12, dd13, dd14, dd15, dd16, dd17, dd18, dd19, dd20, dd21, dd22, dd23, dd24]
def i1s : List (Str × Str) := [("Misread", "line"), ("Misread", "word"), ("NotATree", "given"), ("NotSound", "given"), ("NotLawful", "given"), ("NotAKink", "given"), ("NotAProgram", "given"), ("NotAPaper", "given"), ("NotRows", "given"), ("NotACode", "given"), ("NotAFraction", "given"), ("NotNow", "given"), ("NotADesk", "given"), ("InvalidAsk", "given"), ("InvalidNumber", "given"), ("InvalidText", "given"), ("InvalidLine", "given")]
def i0s : List Str := ["DuelError", "NothingToUndo"]
def exC (K : PySem.W.Frag) : Bool := i1s.all (ini1B K) && (i0s.all (ini0B K) && (tbB K xt xn xy && (xfsB K Cs_given "given" && xfsB K Cs_line "line" && xfsB K Cs_word "word")))
def fa : List He.Fa := [.glo "_law_pool", .glo "_law_take", .glo "_law_alike", .glo "_law_one", .glo "_law_held", .glo "_law_kept", .glo "_law_kinds_of", .glo "_law_right", .glo "law", .free "ValueError", .free "abs", .free "all", .free "bool", .free "dict", .free "enumerate", .free "int", .free "isinstance", .free "len", .free "list", .free "max", .free "min", .free "range", .free "str", .free "tuple", .glo "DuelError", .glo "InvalidAsk", .glo "InvalidLine", .glo "InvalidNumber", .glo "InvalidText", .glo "Misread", .glo "NotACode", .glo "NotADesk", .glo "NotAFraction", .glo "NotAKink", .glo "NotAPaper", .glo "NotAProgram", .glo "NotATree", .glo "NotLawful", .glo "NotNow", .glo "NotRows", .glo "NotSound", .glo "NothingToUndo"]
def kons : List (PySem.Str × D) := []
def gcds : List PySem.Str := []
def exB (K : PySem.W.Frag) : Bool := (kons.all (konB K) && gcds.all (gcdB K)) && exC K
abbrev R : PySem.W.OpenRow := PySem.W.OpenLaw.row PySem.Challenge.rw_openduels_k00_errors_each_of_its_own
abbrev hk : PySem.W.Hook := He.hookX 6 fa fn [] [] exB
def ob (s : PySem.W.SharedT) : He.AlX := He.obsX 6 fa fn [] [] exB (HandSHeadRun.getT s)
theorem ob_eq (s : PySem.W.SharedT) : ob s = hk.obs s.abs := He.obsX_eq (HandSHeadRun.getT_eq s)
theorem run (w : World) : HandSHeadRun.RunEq R (PySem.W.view R.prog [28]) hk ob 60000 names w := by
  intro os
  kernel_rfl
theorem facts {P : Program} {w : World} {K : PySem.W.Frag} {h : Heap} {mg : Str → Option Value} (X : K.In h) (G : h.Ns mainGlobals mg) (c : He.SaysX fa fn [] [] exB w h K) : Tb P w K mg := by
  have ex : exB K = true := c.more
  unfold exB at ex
  obtain ⟨ex, exc⟩ := He.ba ex
  obtain ⟨exc1, exc⟩ := He.ba exc
  obtain ⟨exc0, exc⟩ := He.ba exc
  obtain ⟨exc2, exc3⟩ := He.ba exc
  rw [Bool.and_eq_true] at ex
  have in1 : ∀ (i : Nat) (p : Str × Str), i1s[i]? = some p → IniF K mg p.1 p.2 := fun i p e => ini1B_ok X G (List.all_eq_true.mp exc1 p (List.mem_of_getElem? e))
  have in0 : ∀ (i : Nat) (C : Str), i0s[i]? = some C → Ini0 P w K mg C := fun i p e => ini0B_ok X G (List.all_eq_true.mp exc0 p (List.mem_of_getElem? e))
  have kon : ∀ (i : Nat) (p : Str × D), kons[i]? = some p → ∃ u v, mg p.1 = some u ∧ RelV v u ∧ ∀ lv H, RP K lv H p.2 v := fun i p e => konB_ok X G (List.all_eq_true.mp ex.1 p (List.mem_of_getElem? e))
  have gcd : ∀ (i : Nat) (x : Str), gcds[i]? = some x → mg x = some (.builtin "math.gcd") := fun i x e => gcdB_ok X G (List.all_eq_true.mp ex.2 x (List.mem_of_getElem? e))
  exact {
    f__law_pool := by
      obtain ⟨fd, F⟩ := c.t.d.def_ 0 (d := dd0) rfl
      exact ⟨_, fd, F, He.glo_ok X G (c.t.d.fact 0 (f := .glo "_law_pool") rfl)⟩
    f__law_take := by
      obtain ⟨fd, F⟩ := c.t.d.def_ 1 (d := dd1) rfl
      exact ⟨_, fd, F, He.glo_ok X G (c.t.d.fact 1 (f := .glo "_law_take") rfl)⟩
    f__law_alike := by
      obtain ⟨fd, F⟩ := c.t.d.def_ 2 (d := dd2) rfl
      exact ⟨_, fd, F, He.glo_ok X G (c.t.d.fact 2 (f := .glo "_law_alike") rfl)⟩
    f__law_one := by
      obtain ⟨fd, F⟩ := c.t.d.def_ 3 (d := dd3) rfl
      exact ⟨_, fd, F, He.glo_ok X G (c.t.d.fact 3 (f := .glo "_law_one") rfl)⟩
    f__law_held := by
      obtain ⟨fd, F⟩ := c.t.d.def_ 4 (d := dd4) rfl
      exact ⟨_, fd, F, He.glo_ok X G (c.t.d.fact 4 (f := .glo "_law_held") rfl)⟩
    f__law_kept := by
      obtain ⟨fd, F⟩ := c.t.d.def_ 5 (d := dd5) rfl
      exact ⟨_, fd, F, He.glo_ok X G (c.t.d.fact 5 (f := .glo "_law_kept") rfl)⟩
    f__law_kinds_of := by
      obtain ⟨fd, F⟩ := c.t.d.def_ 6 (d := dd6) rfl
      exact ⟨_, fd, F, He.glo_ok X G (c.t.d.fact 6 (f := .glo "_law_kinds_of") rfl)⟩
    f__law_right := by
      obtain ⟨fd, F⟩ := c.t.d.def_ 7 (d := dd7) rfl
      exact ⟨_, fd, F, He.glo_ok X G (c.t.d.fact 7 (f := .glo "_law_right") rfl)⟩
    f_law := by
      obtain ⟨fd, F⟩ := c.t.d.def_ 8 (d := dd8) rfl
      exact ⟨_, fd, F, He.glo_ok X G (c.t.d.fact 8 (f := .glo "law") rfl)⟩
    m_ValueError := He.free_ok X G (c.t.d.fact 9 (f := .free "ValueError") rfl)
    m_abs := He.free_ok X G (c.t.d.fact 10 (f := .free "abs") rfl)
    m_all := He.free_ok X G (c.t.d.fact 11 (f := .free "all") rfl)
    m_bool := He.free_ok X G (c.t.d.fact 12 (f := .free "bool") rfl)
    m_dict := He.free_ok X G (c.t.d.fact 13 (f := .free "dict") rfl)
    m_enumerate := He.free_ok X G (c.t.d.fact 14 (f := .free "enumerate") rfl)
    m_int := He.free_ok X G (c.t.d.fact 15 (f := .free "int") rfl)
    m_isinstance := He.free_ok X G (c.t.d.fact 16 (f := .free "isinstance") rfl)
    m_len := He.free_ok X G (c.t.d.fact 17 (f := .free "len") rfl)
    m_list := He.free_ok X G (c.t.d.fact 18 (f := .free "list") rfl)
    m_max := He.free_ok X G (c.t.d.fact 19 (f := .free "max") rfl)
    m_min := He.free_ok X G (c.t.d.fact 20 (f := .free "min") rfl)
    m_range := He.free_ok X G (c.t.d.fact 21 (f := .free "range") rfl)
    m_str := He.free_ok X G (c.t.d.fact 22 (f := .free "str") rfl)
    m_tuple := He.free_ok X G (c.t.d.fact 23 (f := .free "tuple") rfl)
    c_DuelError := kon_gl X G (c.t.d.fact 24 (f := .glo "DuelError") rfl)
    c_InvalidAsk := kon_gl X G (c.t.d.fact 25 (f := .glo "InvalidAsk") rfl)
    c_InvalidLine := kon_gl X G (c.t.d.fact 26 (f := .glo "InvalidLine") rfl)
    c_InvalidNumber := kon_gl X G (c.t.d.fact 27 (f := .glo "InvalidNumber") rfl)
    c_InvalidText := kon_gl X G (c.t.d.fact 28 (f := .glo "InvalidText") rfl)
    c_Misread := kon_gl X G (c.t.d.fact 29 (f := .glo "Misread") rfl)
    c_NotACode := kon_gl X G (c.t.d.fact 30 (f := .glo "NotACode") rfl)
    c_NotADesk := kon_gl X G (c.t.d.fact 31 (f := .glo "NotADesk") rfl)
    c_NotAFraction := kon_gl X G (c.t.d.fact 32 (f := .glo "NotAFraction") rfl)
    c_NotAKink := kon_gl X G (c.t.d.fact 33 (f := .glo "NotAKink") rfl)
    c_NotAPaper := kon_gl X G (c.t.d.fact 34 (f := .glo "NotAPaper") rfl)
    c_NotAProgram := kon_gl X G (c.t.d.fact 35 (f := .glo "NotAProgram") rfl)
    c_NotATree := kon_gl X G (c.t.d.fact 36 (f := .glo "NotATree") rfl)
    c_NotLawful := kon_gl X G (c.t.d.fact 37 (f := .glo "NotLawful") rfl)
    c_NotNow := kon_gl X G (c.t.d.fact 38 (f := .glo "NotNow") rfl)
    c_NotRows := kon_gl X G (c.t.d.fact 39 (f := .glo "NotRows") rfl)
    c_NotSound := kon_gl X G (c.t.d.fact 40 (f := .glo "NotSound") rfl)
    c_NothingToUndo := kon_gl X G (c.t.d.fact 41 (f := .glo "NothingToUndo") rfl)
    tb := tbB_ok exc2
    x_given := xfsB_ok (He.ba (He.ba exc3).1).1
    x_line := xfsB_ok (He.ba (He.ba exc3).1).2
    x_word := xfsB_ok (He.ba exc3).2
    z_DuelError := in0 0 "DuelError" rfl
    z_NothingToUndo := in0 1 "NothingToUndo" rfl
    n_Misread := by
      obtain ⟨fd, F⟩ := c.t.d.def_ 9 (d := dd9) rfl
      exact ⟨fd, F⟩
    n_NotATree := by
      obtain ⟨fd, F⟩ := c.t.d.def_ 10 (d := dd10) rfl
      exact ⟨fd, F⟩
    n_NotSound := by
      obtain ⟨fd, F⟩ := c.t.d.def_ 11 (d := dd11) rfl
      exact ⟨fd, F⟩
    n_NotLawful := by
      obtain ⟨fd, F⟩ := c.t.d.def_ 12 (d := dd12) rfl
      exact ⟨fd, F⟩
    n_NotAKink := by
      obtain ⟨fd, F⟩ := c.t.d.def_ 13 (d := dd13) rfl
      exact ⟨fd, F⟩
    n_NotAProgram := by
      obtain ⟨fd, F⟩ := c.t.d.def_ 14 (d := dd14) rfl
      exact ⟨fd, F⟩
    n_NotAPaper := by
      obtain ⟨fd, F⟩ := c.t.d.def_ 15 (d := dd15) rfl
      exact ⟨fd, F⟩
    n_NotRows := by
      obtain ⟨fd, F⟩ := c.t.d.def_ 16 (d := dd16) rfl
      exact ⟨fd, F⟩
    n_NotACode := by
      obtain ⟨fd, F⟩ := c.t.d.def_ 17 (d := dd17) rfl
      exact ⟨fd, F⟩
    n_NotAFraction := by
      obtain ⟨fd, F⟩ := c.t.d.def_ 18 (d := dd18) rfl
      exact ⟨fd, F⟩
    n_NotNow := by
      obtain ⟨fd, F⟩ := c.t.d.def_ 19 (d := dd19) rfl
      exact ⟨fd, F⟩
    n_NotADesk := by
      obtain ⟨fd, F⟩ := c.t.d.def_ 20 (d := dd20) rfl
      exact ⟨fd, F⟩
    n_InvalidAsk := by
      obtain ⟨fd, F⟩ := c.t.d.def_ 21 (d := dd21) rfl
      exact ⟨fd, F⟩
    n_InvalidNumber := by
      obtain ⟨fd, F⟩ := c.t.d.def_ 22 (d := dd22) rfl
      exact ⟨fd, F⟩
    n_InvalidText := by
      obtain ⟨fd, F⟩ := c.t.d.def_ 23 (d := dd23) rfl
      exact ⟨fd, F⟩
    n_InvalidLine := by
      obtain ⟨fd, F⟩ := c.t.d.def_ 24 (d := dd24) rfl
      exact ⟨fd, F⟩
    n_Misread_line := in1 0 ("Misread", "line") rfl
    n_Misread_word := in1 1 ("Misread", "word") rfl
    n_NotATree_given := in1 2 ("NotATree", "given") rfl
    n_NotSound_given := in1 3 ("NotSound", "given") rfl
    n_NotLawful_given := in1 4 ("NotLawful", "given") rfl
    n_NotAKink_given := in1 5 ("NotAKink", "given") rfl
    n_NotAProgram_given := in1 6 ("NotAProgram", "given") rfl
    n_NotAPaper_given := in1 7 ("NotAPaper", "given") rfl
    n_NotRows_given := in1 8 ("NotRows", "given") rfl
    n_NotACode_given := in1 9 ("NotACode", "given") rfl
    n_NotAFraction_given := in1 10 ("NotAFraction", "given") rfl
    n_NotNow_given := in1 11 ("NotNow", "given") rfl
    n_NotADesk_given := in1 12 ("NotADesk", "given") rfl
    n_InvalidAsk_given := in1 13 ("InvalidAsk", "given") rfl
    n_InvalidNumber_given := in1 14 ("InvalidNumber", "given") rfl
    n_InvalidText_given := in1 15 ("InvalidText", "given") rfl
    n_InvalidLine_given := in1 16 ("InvalidLine", "given") rfl
  }
end K00
open PySem PySem.W PySem.Calls PyProof.Rows
theorem PySem.Challenge.close_k00 (hF : ∀ ns : List Int, ns.length ≤ 63 → (∀ z ∈ ns, Builtin.Int.intBits z ≤ 1048576) → ∃ S, K00.F_law [Y.scr ns] [] = .ok (.d (.bl true)) S) : PySem.Challenge.rw_openduels_k00_errors_each_of_its_own.Holds := by
  w_on; o_law
  refine HandSHeadRun.head_any (r := OpenLaw.row PySem.Challenge.rw_openduels_k00_errors_each_of_its_own) (q := view (OpenLaw.row PySem.Challenge.rw_openduels_k00_errors_each_of_its_own).prog [28]) (H := K00.hk) (ob := K00.ob) (M := 60000) (loose := K00.names) (d := HandSHeadRun.topDef (OpenLaw.row PySem.Challenge.rw_openduels_k00_errors_each_of_its_own).prog 28) (kwd := []) K00.ob_eq
    (by kernel_rfl) (fun s => by kernel_rfl) K00.run (by kernel_rfl) (by kernel_rfl) (by kernel_rfl) (by rfl) (by first | assumption | decide +kernel) (by decide +kernel) ⟨rfl, rfl, rfl, rfl, rfl, by decide +kernel⟩ ?hw ?hc
  case hw => w_witness2
  case hc =>
    refine Y.walk_Y (l := PySem.Challenge.rw_openduels_k00_errors_each_of_its_own) (n := 63) (k := 11) (x := "script") (F := K00.F_law) rfl (by decide) (by kernel_rfl) ⟨rfl, by decide, by decide⟩ ?F hF
    intro w mg fa h YY G hmg0
    obtain ⟨K, KX, c⟩ := YY
    have hmg : mg ("law" : PySem.Str) = some (.ref fa) := by
      have e : (HandSHeadRun.topDef (OpenLaw.row PySem.Challenge.rw_openduels_k00_errors_each_of_its_own).prog 28).name = ("law" : PySem.Str) := by kernel_rfl
      rw [← e]
      exact hmg0
    have T : K00.Tb (PySem.Challenge.rw_openduels_k00_errors_each_of_its_own).prog w K mg := K00.facts KX G c
    obtain ⟨f, fd, F, hm⟩ := T.f_law
    obtain rfl : f = fa := by
      rw [hm] at hmg
      cases hmg
      rfl
    have b := L2.FunD.bindsA (ps := ["script"]) F fun _ _ _ _ _ _ us hl => match us, hl with | [_], _ => rfl
    exact ⟨K, fd, KX, fun s v => b s [v] rfl, fun base _ _ => K00.fo_law T F⟩
end
theorem PySem.Challenge.cw_openduels_k00_errors_each_of_its_own_holds : PySem.Challenge.rw_openduels_k00_errors_each_of_its_own.Holds := by
  exact PySem.Challenge.close_k00 fun ns h1 h2 => K00.law_ok ns h1 h2
