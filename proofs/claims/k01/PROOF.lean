import PyProof.Rows.All
import Wide.All
import OpenK.AllK
import Wide.FinOn
import HandS.ForMost
import HandS.Exc
import HandS.TryOnly
import HandS.ExcOwn
import HandS.WordsExc
import HandS.Defaults
import HandS.HeadHook1
import HandS.HeadHook2
import HandS.HeadHook4
import HandS.Head2
import HandS.HeadEnd
import HandS.Evl
import HandS.Wide
import HandS.WideBits
import HandS.TupAny
import HandS.IsInst
import HandS.Style
import HandS.StrMore
import PySem.Challenge.RW_framepost_k01_signs_and_figures
set_option Elab.async false
set_option linter.all false
set_option maxRecDepth 100000
set_option maxHeartbeats 4000000
/-! # values as trees, worlds, and how a tree stands in the abstract heap -/
namespace Fw
open PySem PySem.Spec PyProof.Rows L2
open Evl (Ex)

/-- a value as a tree: lst a list that nobody changes any more, ml one that one place owns, obj an instance that one place owns, ref an instance that is shared, un nothing -/
inductive D where
  | non | bl (b : Bool) | int (i : Int) | str (s : List Nat) | tup (ds : List D) | lst (ds : List D) | ml (ds : List D)
  | obj (c : Str) (ns : List Str) (ds : List D) | ref (k : Nat) | un
abbrev tr (s : List Nat) : Str := ⟨s.toArray⟩
/-- a written text's signs -/
def ofS (s : String) : List Nat := s.toList.map Char.toNat
theorem tr_ofS (s : String) : (Str.ofString s) = tr (ofS s) := Str.ofString_eq_toList s

structure Wd where
  H : Hp
  Fr : Addr → Prop
  m : List Addr
/-- a list that stands still -/
def FzR (W : Wd) (a : Addr) (xs : List V) : Prop := Rd W.H a (.lst xs) ∧ W.Fr a
def FzL (K : PySem.W.Frag) (W : Wd) (a : Addr) (xs : List V) : Prop := FzR W a xs ∨ SqL K (fun _ => none) a xs
theorem FzL.sq {K : PySem.W.Frag} {W : Wd} {a : Addr} {xs : List V} (h : FzL K W a xs) : SqL K W.H a xs := by
  rcases h with h | h
  · exact .inl h.1
  · rcases h with h | h
    · rcases h with h | ⟨_, h⟩ <;> cases h
    · exact .inr h

mutual
def R (K : PySem.W.Frag) (W : Wd) : D → V → List Addr → Prop
  | .non, v, F => v = .non ∧ F = []
  | .bl b, v, F => v = .bl b ∧ F = []
  | .int i, v, F => v = .int i ∧ F = []
  | .str s, v, F => v = .str (tr s) ∧ F = []
  | .tup ds, v, F => ∃ a vs, v = .ref a ∧ SqT K W.H a vs ∧ RL K W ds vs F
  | .lst ds, v, F => ∃ a vs, v = .ref a ∧ FzL K W a vs ∧ RL K W ds vs [] ∧ F = []
  | .ml ds, v, F => ∃ a vs F', v = .ref a ∧ W.H a = some (.lst vs) ∧ RL K W ds vs F' ∧ F = a :: F'
  | .obj c ns ds, v, F => ∃ a dx vs F', v = .ref a ∧ W.H a = some (.ins (He.ga K c) dx (ns.zip vs)) ∧ ns.length = ds.length ∧ RL K W ds vs F' ∧ F = a :: F'
  | .ref k, v, F => ∃ a, v = .ref a ∧ W.m[k]? = some a ∧ F = []
  | .un, v, F => False
def RL (K : PySem.W.Frag) (W : Wd) : List D → List V → List Addr → Prop
  | [], vs, F => vs = [] ∧ F = []
  | d :: ds, vs, F => ∃ v vs' F1 F2, vs = v :: vs' ∧ R K W d v F1 ∧ RL K W ds vs' F2 ∧ F = F1 ++ F2
end
/-- a slot -/
def R1 (K : PySem.W.Frag) (W : Wd) : D → Option V → List Addr → Prop
  | .un, _, F => F = []
  | d, o, F => ∃ v, o = some v ∧ R K W d v F
def RS (K : PySem.W.Frag) (W : Wd) : List D → List (Option V) → List Addr → Prop
  | [], σ, F => σ = [] ∧ F = []
  | d :: ds, σ, F => ∃ o σ' F1 F2, σ = o :: σ' ∧ R1 K W d o F1 ∧ RS K W ds σ' F2 ∧ F = F1 ++ F2

def WOk (W : Wd) : Prop := ∀ a, W.Fr a → W.H a ≠ none
/-- a place of its own: a list or an instance that may change -/
def Own (W : Wd) (a : Addr) : Prop := ¬ W.Fr a ∧ ((∃ xs, W.H a = some (.lst xs)) ∨ ∃ C dx fs, W.H a = some (.ins C dx fs))

/-- the world has grown: nothing that was there is other -/
structure Ext (W W' : Wd) : Prop where
  ex : Ex W.H W'.H
  fr : ∀ a, W.Fr a → W'.Fr a
  nf : ∀ a, W'.Fr a → W.Fr a ∨ W.H a = none
  m : W'.m = W.m
  ok : WOk W'
theorem Ext.refl {W : Wd} (h : WOk W) : Ext W W := ⟨Ex.refl _, fun _ h => h, fun _ h => .inl h, rfl, h⟩
theorem Ext.trans {A B C : Wd} (h : Ext A B) (g : Ext B C) : Ext A C :=
  ⟨h.ex.trans g.ex, fun a q => g.fr a (h.fr a q), fun a q => by
    rcases g.nf a q with q | q
    · exact h.nf a q
    · exact .inr (Evl.fresh_back h.ex q), g.m.trans h.m, g.ok⟩

theorem FzR.ext {W W' : Wd} {a : Addr} {xs : List V} (e : Ext W W') (h : FzR W a xs) : FzR W' a xs := ⟨Evl.ex_rd e.ex h.1, e.fr _ h.2⟩
theorem FzL.ext {K : PySem.W.Frag} {W W' : Wd} {a : Addr} {xs : List V} (e : Ext W W') (h : FzL K W a xs) : FzL K W' a xs := h.imp (fun z => z.ext e) id
section
variable {K : PySem.W.Frag} {W W' : Wd}
mutual
theorem R_ext (e : Ext W W') : ∀ (d : D) {v : V} {F : List Addr}, R K W d v F → R K W' d v F
  | .non, _, _, h => h
  | .bl _, _, _, h => h
  | .int _, _, _, h => h
  | .str _, _, _, h => h
  | .tup ds, _, _, h => by
    obtain ⟨a, vs, h1, h2, h3⟩ := h
    exact ⟨a, vs, h1, Evl.ex_t e.ex h2, RL_ext e ds h3⟩
  | .lst ds, _, _, h => by
    obtain ⟨a, vs, h1, h2, h3, h4⟩ := h
    exact ⟨a, vs, h1, h2.ext e, RL_ext e ds h3, h4⟩
  | .ml ds, _, _, h => by
    obtain ⟨a, vs, F', h1, h2, h3, h4⟩ := h
    exact ⟨a, vs, F', h1, e.ex _ _ h2, RL_ext e ds h3, h4⟩
  | .obj c ns ds, _, _, h => by
    obtain ⟨a, dx, vs, F', h1, h2, h3, h4, h5⟩ := h
    exact ⟨a, dx, vs, F', h1, e.ex _ _ h2, h3, RL_ext e ds h4, h5⟩
  | .ref k, _, _, h => by
    obtain ⟨a, h1, h2, h3⟩ := h
    exact ⟨a, h1, by rw [e.m]; exact h2, h3⟩
  | .un, _, _, h => h.elim
theorem RL_ext (e : Ext W W') : ∀ (ds : List D) {vs : List V} {F : List Addr}, RL K W ds vs F → RL K W' ds vs F
  | [], _, _, h => h
  | d :: ds, _, _, h => by
    obtain ⟨v, vs', F1, F2, h1, h2, h3, h4⟩ := h
    exact ⟨v, vs', F1, F2, h1, R_ext e d h2, RL_ext e ds h3, h4⟩
end
theorem R1_iff : ∀ {d : D} {o : Option V} {F : List Addr}, R1 K W d o F ↔ (d = .un ∧ F = []) ∨ (∃ v, o = some v ∧ R K W d v F) := by
  intro d o F
  cases d <;> simp [R1, R]
theorem R1_ext (e : Ext W W') {d : D} {o : Option V} {F : List Addr} (h : R1 K W d o F) : R1 K W' d o F := by
  rw [R1_iff] at h ⊢
  rcases h with h | ⟨v, h1, h2⟩
  · exact .inl h
  · exact .inr ⟨v, h1, R_ext e d h2⟩
theorem RS_ext (e : Ext W W') : ∀ {ds : List D} {σ : List (Option V)} {F : List Addr}, RS K W ds σ F → RS K W' ds σ F
  | [], _, _, h => h
  | d :: ds, _, _, h => by
    obtain ⟨o, σ', F1, F2, h1, h2, h3, h4⟩ := h
    exact ⟨o, σ', F1, F2, h1, R1_ext e h2, RS_ext e h3, h4⟩
theorem Own.ext {a : Addr} (e : Ext W W') (h : Own W a) : Own W' a := by
  obtain ⟨h1, h2⟩ := h
  refine ⟨fun q => ?_, ?_⟩
  · rcases e.nf a q with q | q
    · exact h1 q
    · rcases h2 with ⟨xs, h2⟩ | ⟨C, dx, fs, h2⟩ <;> rw [q] at h2 <;> cases h2
  · rcases h2 with ⟨xs, h2⟩ | ⟨C, dx, fs, h2⟩
    · exact .inl ⟨xs, e.ex _ _ h2⟩
    · exact .inr ⟨C, dx, fs, e.ex _ _ h2⟩
end
/-- the slots and the store stand in the world -/
structure Sta (K : PySem.W.Frag) (W : Wd) (σ : L2.St) (ρ μ : List D) (F : List Addr) : Prop where
  ex : ∃ F1 F2, RS K W ρ σ F1 ∧ RL K W μ (W.m.map V.ref) F2 ∧ F = F1 ++ F2
  nd : F.Nodup
  own : ∀ a ∈ F, Own W a
  ok : WOk W
theorem Sta.ext {K : PySem.W.Frag} {W W' : Wd} {σ : L2.St} {ρ μ : List D} {F : List Addr} (e : Ext W W') (h : Sta K W σ ρ μ F) : Sta K W' σ ρ μ F := by
  obtain ⟨⟨F1, F2, h1, h2, h3⟩, h4, h5, h6⟩ := h
  exact ⟨⟨F1, F2, RS_ext e h1, by rw [e.m]; exact RL_ext e μ h2, h3⟩, h4, fun a ha => (h5 a ha).ext e, e.ok⟩
section
variable {K : PySem.W.Frag} {W W' : Wd}
theorem RS_get : ∀ {ρ : List D} {σ : List (Option V)} {F : List Addr} {i : Nat} {d : D}, RS K W ρ σ F → ρ[i]? = some d → d ≠ .un → ∃ v F1, σ[i]? = some (some v) ∧ R K W d v F1
  | [], _, _, i, d, _, h, _ => by simp at h
  | d0 :: ρ, _, _, 0, d, h, h1, h2 => by
    obtain ⟨o, σ', F1, F2, e1, e2, e3, e4⟩ := h
    have e : d0 = d := Option.some.inj h1
    subst e
    rw [R1_iff] at e2
    rcases e2 with ⟨q, _⟩ | ⟨v, q1, q2⟩
    · exact absurd q h2
    · exact ⟨v, F1, by rw [e1, q1]; rfl, q2⟩
  | d0 :: ρ, _, _, i + 1, d, h, h1, h2 => by
    obtain ⟨o, σ', F1, F2, e1, e2, e3, e4⟩ := h
    obtain ⟨v, F3, q1, q2⟩ := RS_get (i := i) e3 (by simpa using h1) h2
    exact ⟨v, F3, by rw [e1]; simpa using q1, q2⟩
/-! ### data -/
mutual
def data : D → Bool
  | .tup ds => dataL ds
  | .lst ds => dataL ds
  | .ml _ => false
  | .obj _ _ _ => false
  | .ref _ => false
  | .un => false
  | _ => true
def dataL : List D → Bool
  | [] => true
  | d :: ds => data d && dataL ds
end
mutual
theorem R_data : ∀ (d : D) {v : V} {F : List Addr}, data d = true → R K W d v F → F = []
  | .non, _, _, _, h => h.2
  | .bl _, _, _, _, h => h.2
  | .int _, _, _, _, h => h.2
  | .str _, _, _, _, h => h.2
  | .tup ds, _, _, q, h => by
    obtain ⟨a, vs, h1, h2, h3⟩ := h
    exact RL_data ds q h3
  | .lst ds, _, _, _, h => by
    obtain ⟨a, vs, h1, h2, h3, h4⟩ := h
    exact h4
  | .ml ds, _, _, q, h => by cases q
  | .obj c ns ds, _, _, q, h => by cases q
  | .ref k, _, _, q, h => by cases q
  | .un, _, _, _, h => h.elim
theorem RL_data : ∀ (ds : List D) {vs : List V} {F : List Addr}, dataL ds = true → RL K W ds vs F → F = []
  | [], _, _, _, h => h.2
  | d :: ds, _, _, q, h => by
    obtain ⟨v, vs', F1, F2, h1, h2, h3, h4⟩ := h
    have q1 : (data d && dataL ds) = true := q
    obtain ⟨qa, qb⟩ := Bool.and_eq_true_iff.mp q1
    rw [h4, R_data d qa h2, RL_data ds qb h3]
    rfl
end
theorem dataL_all : ∀ (ds : List D), dataL ds = ds.all data
  | [] => rfl
  | d :: ds => by
    show (data d && dataL ds) = _
    rw [dataL_all ds, List.all_cons]
/-! ### lists of values -/
theorem RL_len : ∀ {ds : List D} {vs : List V} {F : List Addr}, RL K W ds vs F → vs.length = ds.length
  | [], _, _, h => by rw [h.1] <;> rfl
  | d :: ds, _, _, h => by
    obtain ⟨v, vs', F1, F2, h1, h2, h3, h4⟩ := h
    rw [h1, List.length_cons, List.length_cons, RL_len h3]
theorem RL_get : ∀ {ds : List D} {vs : List V} {F : List Addr} {i : Nat} {d : D}, RL K W ds vs F → ds[i]? = some d → ∃ v F1, vs[i]? = some v ∧ R K W d v F1 ∧ ∀ a ∈ F1, a ∈ F
  | [], _, _, i, d, _, h => by simp at h
  | d0 :: ds, _, _, 0, d, h, h1 => by
    obtain ⟨v, vs', F1, F2, e1, e2, e3, e4⟩ := h
    have e : d0 = d := Option.some.inj h1
    subst e
    exact ⟨v, F1, by rw [e1]; rfl, e2, fun a ha => by rw [e4]; exact List.mem_append_left _ ha⟩
  | d0 :: ds, _, _, i + 1, d, h, h1 => by
    obtain ⟨v, vs', F1, F2, e1, e2, e3, e4⟩ := h
    obtain ⟨u, F3, q1, q2, q3⟩ := RL_get (i := i) e3 (by simpa using h1)
    exact ⟨u, F3, by rw [e1]; simpa using q1, q2, fun a ha => by rw [e4]; exact List.mem_append_right _ (q3 a ha)⟩
theorem RL_app : ∀ {ds es : List D} {vs us : List V} {F G : List Addr}, RL K W ds vs F → RL K W es us G → RL K W (ds ++ es) (vs ++ us) (F ++ G)
  | [], es, _, us, _, G, h, g => by
    rw [h.1, h.2]
    exact g
  | d :: ds, es, _, us, _, G, h, g => by
    obtain ⟨v, vs', F1, F2, e1, e2, e3, e4⟩ := h
    refine ⟨v, vs' ++ us, F1, F2 ++ G, by rw [e1]; rfl, e2, RL_app e3 g, by rw [e4, List.append_assoc]⟩
theorem RL_take : ∀ {ds : List D} {vs : List V} {n : Nat}, RL K W ds vs [] → RL K W (ds.take n) (vs.take n) []
  | [], _, n, h => by
    rw [h.1, List.take_nil, List.take_nil]
    exact ⟨rfl, rfl⟩
  | d :: ds, _, 0, h => by
    rw [List.take_zero, List.take_zero]
    exact ⟨rfl, rfl⟩
  | d :: ds, _, n + 1, h => by
    obtain ⟨v, vs', F1, F2, e1, e2, e3, e4⟩ := h
    obtain ⟨rfl, rfl⟩ := List.append_eq_nil_iff.mp e4.symm
    rw [e1]
    exact ⟨v, vs'.take n, [], [], rfl, e2, RL_take e3, rfl⟩
theorem RL_drop : ∀ {ds : List D} {vs : List V} {n : Nat}, RL K W ds vs [] → RL K W (ds.drop n) (vs.drop n) []
  | [], _, n, h => by
    rw [h.1, List.drop_nil, List.drop_nil]
    exact ⟨rfl, rfl⟩
  | d :: ds, _, 0, h => by
    rw [List.drop_zero, List.drop_zero]
    exact h
  | d :: ds, _, n + 1, h => by
    obtain ⟨v, vs', F1, F2, e1, e2, e3, e4⟩ := h
    obtain ⟨rfl, rfl⟩ := List.append_eq_nil_iff.mp e4.symm
    rw [e1]
    show RL K W (ds.drop n) (vs'.drop n) []
    exact RL_drop (n := n) e3
end
/-! ### the world grows by one -/
section
variable {W : Wd} {p : Addr} {o : HO}
abbrev Wd.put (W : Wd) (p : Addr) (o : HO) : Wd := ⟨upd W.H p o, W.Fr, W.m⟩
abbrev Wd.frz (W : Wd) (p : Addr) (xs : List V) : Wd := ⟨upd W.H p (.lst xs), fun a => W.Fr a ∨ a = p, W.m⟩
theorem Ext.put (ok : WOk W) (hp : W.H p = none) : Ext W (W.put p o) :=
  ⟨Ex.new hp, fun _ h => h, fun _ h => .inl h, rfl, fun a h => by
    show upd W.H p o a ≠ none
    by_cases e : a = p
    · rw [e, upd_same]
      exact fun z => nomatch z
    · rw [upd_ne e]
      exact ok a h⟩
theorem Ext.frz {xs : List V} (ok : WOk W) (hp : W.H p = none) : Ext W (W.frz p xs) :=
  ⟨Ex.new hp, fun _ h => .inl h, fun a h => by
    rcases h with h | h
    · exact .inl h
    · exact .inr (by rw [h]; exact hp), rfl, fun a h => by
    show upd W.H p (.lst xs) a ≠ none
    rcases h with h | h
    · by_cases e : a = p
      · rw [e, upd_same]
        exact fun z => nomatch z
      · rw [upd_ne e]
        exact ok a h
    · rw [h, upd_same]
      exact fun z => nomatch z⟩
theorem R_newT {K : PySem.W.Frag} {ds : List D} {vs : List V} {F : List Addr} (ok : WOk W) (hp : W.H p = none) (h : RL K W ds vs F) : R K (W.put p (.tup vs)) (.tup ds) (.ref p) F :=
  ⟨p, vs, rfl, Evl.st_of upd_same, RL_ext (Ext.put ok hp) ds h⟩
theorem R_newL {K : PySem.W.Frag} {ds : List D} {vs : List V} (ok : WOk W) (hp : W.H p = none) (h : RL K W ds vs []) : R K (W.frz p vs) (.lst ds) (.ref p) [] :=
  ⟨p, vs, rfl, .inl ⟨.inl upd_same, .inr rfl⟩, RL_ext (Ext.frz ok hp) ds h, rfl⟩
end
/-! ### what stands still stays, whatever else is changed -/
structure Lt (W W' : Wd) : Prop where
  tup : ∀ a xs, Rd W.H a (.tup xs) → Rd W'.H a (.tup xs)
  fz : ∀ a xs, FzR W a xs → FzR W' a xs
  m : ∀ (k : Nat) (a : Addr), W.m[k]? = some a → W'.m[k]? = some a
theorem Lt.refl {W : Wd} : Lt W W := ⟨fun _ _ h => h, fun _ _ h => h, fun _ _ h => h⟩
theorem Lt.trans {A B C : Wd} (h : Lt A B) (g : Lt B C) : Lt A C := ⟨fun a xs q => g.tup a xs (h.tup a xs q), fun a xs q => g.fz a xs (h.fz a xs q), fun k a q => g.m k a (h.m k a q)⟩
theorem Ext.lt {W W' : Wd} (e : Ext W W') : Lt W W' := ⟨fun _ _ h => Evl.ex_rd e.ex h, fun _ _ h => h.ext e, fun _ _ h => by rw [e.m]; exact h⟩
theorem FzL.lt {K : PySem.W.Frag} {W W' : Wd} {a : Addr} {xs : List V} (e : Lt W W') (h : FzL K W a xs) : FzL K W' a xs := h.imp (fun z => e.fz _ _ z) id
theorem Lt.sqT {K : PySem.W.Frag} {W W' : Wd} {a : Addr} {xs : List V} (e : Lt W W') (h : SqT K W.H a xs) : SqT K W'.H a xs := by
  rcases h with h | h
  · exact .inl (e.tup a xs h)
  · exact .inr h
section
variable {K : PySem.W.Frag} {W W' : Wd}
mutual
theorem R_lt (e : Lt W W') : ∀ (d : D) {v : V}, R K W d v [] → R K W' d v []
  | .non, _, h => h
  | .bl _, _, h => h
  | .int _, _, h => h
  | .str _, _, h => h
  | .tup ds, _, h => by
    obtain ⟨a, vs, h1, h2, h3⟩ := h
    exact ⟨a, vs, h1, e.sqT h2, RL_lt e ds h3⟩
  | .lst ds, _, h => by
    obtain ⟨a, vs, h1, h2, h3, h4⟩ := h
    exact ⟨a, vs, h1, h2.lt e, RL_lt e ds h3, h4⟩
  | .ml ds, _, h => by
    obtain ⟨a, vs, F', h1, h2, h3, h4⟩ := h
    cases h4
  | .obj c ns ds, _, h => by
    obtain ⟨a, dx, vs, F', h1, h2, h3, h4, h5⟩ := h
    cases h5
  | .ref k, _, h => by
    obtain ⟨a, h1, h2, h3⟩ := h
    exact ⟨a, h1, e.m _ _ h2, h3⟩
  | .un, _, h => h.elim
theorem RL_lt (e : Lt W W') : ∀ (ds : List D) {vs : List V}, RL K W ds vs [] → RL K W' ds vs []
  | [], _, h => h
  | d :: ds, _, h => by
    obtain ⟨v, vs', F1, F2, h1, h2, h3, h4⟩ := h
    obtain ⟨rfl, rfl⟩ := List.append_eq_nil_iff.mp h4.symm
    exact ⟨v, vs', [], [], h1, R_lt e d h2, RL_lt e ds h3, rfl⟩
end
/-! ### a slot is set -/
theorem RS_len : ∀ {ρ : List D} {σ : List (Option V)} {F : List Addr}, RS K W ρ σ F → σ.length = ρ.length
  | [], _, _, h => by rw [h.1] <;> rfl
  | d :: ρ, _, _, h => by
    obtain ⟨o, σ', F1, F2, e1, e2, e3, e4⟩ := h
    rw [e1, List.length_cons, List.length_cons, RS_len e3]
theorem RS_set {d' : D} {o' : Option V} {G : List Addr} (g : R1 K W d' o' G) : ∀ {ρ : List D} {σ : List (Option V)} {F : List Addr} {i : Nat}, RS K W ρ σ F → i < ρ.length → ∃ A B C, F = A ++ (B ++ C) ∧ RS K W (ρ.set i d') (σ.set i o') (A ++ (G ++ C))
  | [], _, _, i, _, h => by cases h
  | d :: ρ, _, _, 0, h, _ => by
    obtain ⟨o, σ', F1, F2, e1, e2, e3, e4⟩ := h
    exact ⟨[], F1, F2, e4, by rw [e1]; exact ⟨o', σ', G, F2, rfl, g, e3, rfl⟩⟩
  | d :: ρ, _, _, i + 1, h, hl => by
    obtain ⟨o, σ', F1, F2, e1, e2, e3, e4⟩ := h
    obtain ⟨A, B, C, q1, q2⟩ := RS_set g (i := i) e3 (Nat.lt_of_succ_lt_succ hl)
    refine ⟨F1 ++ A, B, C, by rw [e4, q1, List.append_assoc], ?_⟩
    rw [e1]
    exact ⟨o, σ'.set i o', F1, A ++ (G ++ C), rfl, e2, q2, by rw [List.append_assoc]⟩
end
/-- a slot gets what has no place of its own -/
theorem Sta.set {K : PySem.W.Frag} {W : Wd} {σ : L2.St} {ρ μ : List D} {F : List Addr} {i : Nat} {d : D} {o : Option V} (S : Sta K W σ ρ μ F) (g : R1 K W d o []) : ∃ F', Sta K W (σ.set i o) (ρ.set i d) μ F' ∧ ∀ a ∈ F', a ∈ F := by
  obtain ⟨⟨F1, F2, h1, h2, h3⟩, nd, own, ok⟩ := S
  have hl := RS_len h1
  by_cases hi : i < ρ.length
  · obtain ⟨A, B, C, q1, q2⟩ := RS_set g h1 hi
    have e1 : F = A ++ (B ++ C) ++ F2 := by rw [h3, q1]
    have sub : (A ++ ([] ++ C) ++ F2).Sublist F := by
      rw [e1]
      exact List.Sublist.append (List.Sublist.append (List.Sublist.refl A) (List.Sublist.append (List.nil_sublist B) (List.Sublist.refl C))) (List.Sublist.refl F2)
    exact ⟨A ++ ([] ++ C) ++ F2, ⟨⟨_, F2, q2, h2, rfl⟩, nd.sublist sub, fun a ha => own a (sub.subset ha), ok⟩, fun a ha => sub.subset ha⟩
  · rw [List.set_eq_of_length_le (by omega), List.set_eq_of_length_le (by omega)]
    exact ⟨F, ⟨⟨F1, F2, h1, h2, h3⟩, nd, own, ok⟩, fun a ha => ha⟩
/-! ### data do not ask who is shared -/
section
variable {K : PySem.W.Frag} {W : Wd}
mutual
theorem R_m {m : List Addr} : ∀ (d : D) {v : V} {F : List Addr}, data d = true → R K W d v F → R K ⟨W.H, W.Fr, m⟩ d v F
  | .non, _, _, _, h => h
  | .bl _, _, _, _, h => h
  | .int _, _, _, _, h => h
  | .str _, _, _, _, h => h
  | .tup ds, _, _, q, h => by
    obtain ⟨a, vs, h1, h2, h3⟩ := h
    exact ⟨a, vs, h1, h2, RL_m ds q h3⟩
  | .lst ds, _, _, q, h => by
    obtain ⟨a, vs, h1, h2, h3, h4⟩ := h
    exact ⟨a, vs, h1, h2, RL_m ds q h3, h4⟩
  | .ml ds, _, _, q, h => by cases q
  | .obj c ns ds, _, _, q, h => by cases q
  | .ref k, _, _, q, h => by cases q
  | .un, _, _, q, h => by cases q
theorem RL_m {m : List Addr} : ∀ (ds : List D) {vs : List V} {F : List Addr}, dataL ds = true → RL K W ds vs F → RL K ⟨W.H, W.Fr, m⟩ ds vs F
  | [], _, _, _, h => h
  | d :: ds, _, _, q, h => by
    obtain ⟨v, vs', F1, F2, h1, h2, h3, h4⟩ := h
    obtain ⟨qa, qb⟩ := Bool.and_eq_true_iff.mp (show (data d && dataL ds) = true from q)
    exact ⟨v, vs', F1, F2, h1, R_m d qa h2, RL_m ds qb h3, h4⟩
end
end
/-! ### the world moves at F; F' is one's own behind -/
structure Mv (W W' : Wd) (F F' : List Addr) : Prop where
  keep : ∀ a o, W.H a = some o → a ∉ F → W'.H a = some o
  fr : ∀ a, W.Fr a → W'.Fr a
  nf : ∀ a, W'.Fr a → W.Fr a ∨ W.H a = none ∨ a ∈ F
  own : ∀ a ∈ F', a ∈ F ∨ W.H a = none
  m : ∃ l, W'.m = W.m ++ l
theorem Ext.mv {W W' : Wd} {F F' : List Addr} (e : Ext W W') (h : ∀ a ∈ F', a ∈ F) : Mv W W' F F' :=
  ⟨fun a o h _ => e.ex a o h, e.fr, fun a h => (e.nf a h).elim .inl fun z => .inr (.inl z), fun a ha => .inl (h a ha), ⟨[], by rw [e.m, List.append_nil]⟩⟩
theorem Mv.trans {A B C : Wd} {F G I : List Addr} (h : Mv A B F G) (g : Mv B C G I) : Mv A C F I := by
  have back : ∀ a, B.H a = none → A.H a = none ∨ a ∈ F := fun a q => by
    cases e : A.H a with
    | none => exact .inl rfl
    | some o =>
      by_cases hf : a ∈ F
      · exact .inr hf
      · rw [h.keep a o e hf] at q
        cases q
  refine ⟨fun a o e hf => ?_, fun a q => g.fr a (h.fr a q), fun a q => ?_, fun a ha => ?_, ?_⟩
  · refine g.keep a o (h.keep a o e hf) fun z => ?_
    rcases h.own a z with z | z
    · exact hf z
    · rw [e] at z
      cases z
  · rcases g.nf a q with q | q | q
    · exact h.nf a q
    · rcases back a q with q | q
      · exact .inr (.inl q)
      · exact .inr (.inr q)
    · rcases h.own a q with q | q
      · exact .inr (.inr q)
      · exact .inr (.inl q)
  · rcases g.own a ha with q | q
    · exact h.own a q
    · rcases back a q with q | q
      · exact .inr q
      · exact .inl q
  · obtain ⟨l, h⟩ := h.m
    obtain ⟨l', g⟩ := g.m
    exact ⟨l ++ l', by rw [g, h, List.append_assoc]⟩
theorem Mv.lt {W W' : Wd} {F F' : List Addr} (h : Mv W W' F F') (own : ∀ a ∈ F, Own W a) : Lt W W' := by
  have out : ∀ a o, W.H a = some o → (∀ xs, o ≠ .lst xs) → (∀ C dx fs, o ≠ .ins C dx fs) → a ∉ F := fun a o e n1 n2 z => by
    obtain ⟨_, q⟩ := own a z
    rcases q with ⟨xs, q⟩ | ⟨C, dx, fs, q⟩
    · rw [e] at q
      exact n1 xs (Option.some.inj q)
    · rw [e] at q
      exact n2 C dx fs (Option.some.inj q)
  refine ⟨fun a xs r => ?_, fun a xs r => ⟨?_, h.fr a r.2⟩, fun k a e => ?_⟩
  · rcases r with r | ⟨o, r⟩
    · exact .inl (h.keep a _ r (out a _ r (fun _ q => nomatch q) fun _ _ _ q => nomatch q))
    · exact .inr ⟨o, h.keep a _ r (out a _ r (fun _ q => nomatch q) fun _ _ _ q => nomatch q)⟩
  · have nf : a ∉ F := fun z => (own a z).1 r.2
    rcases r.1 with r | ⟨o, r⟩
    · exact .inl (h.keep a _ r nf)
    · exact .inr ⟨o, h.keep a _ r nf⟩
  · obtain ⟨l, q⟩ := h.m
    rw [q, List.getElem?_append_left (List.getElem?_eq_some_iff.mp e).1]
    exact e
/-! ### the same heap, more that stands still -/
section
variable {K : PySem.W.Frag} {W W' : Wd}
mutual
theorem R_same (e : Lt W W') (hH : W'.H = W.H) : ∀ (d : D) {v : V} {F : List Addr}, R K W d v F → R K W' d v F
  | .non, _, _, h => h
  | .bl _, _, _, h => h
  | .int _, _, _, h => h
  | .str _, _, _, h => h
  | .tup ds, _, _, h => by
    obtain ⟨a, vs, h1, h2, h3⟩ := h
    exact ⟨a, vs, h1, e.sqT h2, RL_same e hH ds h3⟩
  | .lst ds, _, _, h => by
    obtain ⟨a, vs, h1, h2, h3, h4⟩ := h
    exact ⟨a, vs, h1, h2.lt e, RL_same e hH ds h3, h4⟩
  | .ml ds, _, _, h => by
    obtain ⟨a, vs, F', h1, h2, h3, h4⟩ := h
    exact ⟨a, vs, F', h1, by rw [hH]; exact h2, RL_same e hH ds h3, h4⟩
  | .obj c ns ds, _, _, h => by
    obtain ⟨a, dx, vs, F', h1, h2, h3, h4, h5⟩ := h
    exact ⟨a, dx, vs, F', h1, by rw [hH]; exact h2, h3, RL_same e hH ds h4, h5⟩
  | .ref k, _, _, h => by
    obtain ⟨a, h1, h2, h3⟩ := h
    exact ⟨a, h1, e.m _ _ h2, h3⟩
  | .un, _, _, h => h.elim
theorem RL_same (e : Lt W W') (hH : W'.H = W.H) : ∀ (ds : List D) {vs : List V} {F : List Addr}, RL K W ds vs F → RL K W' ds vs F
  | [], _, _, h => h
  | d :: ds, _, _, h => by
    obtain ⟨v, vs', F1, F2, h1, h2, h3, h4⟩ := h
    exact ⟨v, vs', F1, F2, h1, R_same e hH d h2, RL_same e hH ds h3, h4⟩
end
theorem RS_same (e : Lt W W') (hH : W'.H = W.H) : ∀ {ds : List D} {σ : List (Option V)} {F : List Addr}, RS K W ds σ F → RS K W' ds σ F
  | [], _, _, h => h
  | d :: ds, _, _, h => by
    obtain ⟨o, σ', F1, F2, h1, h2, h3, h4⟩ := h
    refine ⟨o, σ', F1, F2, h1, ?_, RS_same e hH h3, h4⟩
    rw [R1_iff] at h2 ⊢
    rcases h2 with h2 | ⟨v, q1, q2⟩
    · exact .inl h2
    · exact .inr ⟨v, q1, R_same e hH d q2⟩
end
end Fw
/-! # quiet expressions: what they evaluate to, nothing else changed -/
namespace Fw
open PySem PySem.Spec PyProof.Rows L2
open Evl (Ex)

abbrev FQ := List D → List D → Option D
abbrev FB := List D → List D → Option Bool
abbrev FA := List D → List D → Option (List D)

/-- e is quiet: where f tells d, it evaluates to d; the world may only grow -/
def PQ (X : Cx) (e : Expr) (f : FQ) : Prop := ∃ te : TE, PE X e te ∧ ∀ (σ : L2.St) (W : Wd) (ρ μ : List D) (F : List Addr), Sta X.K W σ ρ μ F → ∀ d, f ρ μ = some d →
  ∀ Q : VK, (∀ v W' G, Ext W W' → R X.K W' d v G → Q v W'.H) → te σ W.H Q
def PB (X : Cx) (e : Expr) (f : FB) : Prop := ∃ tt : TT, PT X e tt ∧ ∀ (σ : L2.St) (W : Wd) (ρ μ : List D) (F : List Addr), Sta X.K W σ ρ μ F → ∀ b, f ρ μ = some b →
  ∀ Q : Bool → Hp → Prop, (∀ W', Ext W W' → Q b W'.H) → tt σ W.H Q
def PWB (X : Cx) (e : Expr) (f : FB) : Prop := ∃ tt : TT, PW X e tt ∧ ∀ (σ : L2.St) (W : Wd) (ρ μ : List D) (F : List Addr), Sta X.K W σ ρ μ F → ∀ b, f ρ μ = some b →
  ∀ Q : Bool → Hp → Prop, (∀ W', Ext W W' → Q b W'.H) → tt σ W.H Q
def PAQ (X : Cx) (es : List Expr) (f : FA) : Prop := ∃ ta : TA, PA X es ta ∧ ∀ (σ : L2.St) (W : Wd) (ρ μ : List D) (F : List Addr), Sta X.K W σ ρ μ F → ∀ ds, f ρ μ = some ds →
  ∀ Q : List V → Hp → Prop, (∀ vs W' G, Ext W W' → RL X.K W' ds vs G → Q vs W'.H) → ta σ W.H Q
/-- a new list at p, its items data; nobody else knows it -/
structure NewL (K : PySem.W.Frag) (W W' : Wd) (ds : List D) (p : Addr) : Prop where
  ext : Ext W W'
  new : W.H p = none
  nofr : ¬ W'.Fr p
  at_ : ∃ vs, W'.H p = some (.lst vs) ∧ RL K W' ds vs []
def PN (X : Cx) (e : Expr) (f : FA) : Prop := ∃ te : TE, PE X e te ∧ ∀ (σ : L2.St) (W : Wd) (ρ μ : List D) (F : List Addr), Sta X.K W σ ρ μ F → ∀ ds, f ρ μ = some ds →
  ∀ Q : VK, (∀ p W', NewL X.K W W' ds p → Q (.ref p) W'.H) → te σ W.H Q

section
variable {X : Cx} {e a b c : Expr} {es : List Expr} {f g h : FQ} {pos : Pos}
/-! ### names, constants -/
def qVar (i : Nat) : FQ := fun ρ _ => match ρ[i]? with
  | some .un => none
  | o => o
theorem pq_var (i : Nat) {x : Str} (hp : PE X (.Name x pos) (tVar i)) : PQ X (.Name x pos) (qVar i) := by
  refine ⟨_, hp, fun σ W ρ μ F S d hd Q q => ?_⟩
  obtain ⟨F1, F2, h1, h2, h3⟩ := S.ex
  have hr : ρ[i]? = some d ∧ d ≠ .un := by
    unfold qVar at hd
    cases e : ρ[i]? with
    | none => rw [e] at hd; cases hd
    | some d0 =>
      rw [e] at hd
      cases d0 <;> first
        | (cases hd; done)
        | (have z := Option.some.inj hd; subst z; exact ⟨rfl, fun z => nomatch z⟩)
  obtain ⟨v, G, s1, s2⟩ := RS_get h1 hr.1 hr.2
  exact ⟨v, s1, q v W G (Ext.refl S.ok) s2⟩
def qC (d : D) : FQ := fun _ _ => some d
theorem pq_int {i : Int} {j} : PQ X (.Constant (.int i) j pos) (qC (.int i)) :=
  ⟨_, pe_int, fun σ W ρ μ F S d hd Q q => q _ W [] (Ext.refl S.ok) (by cases hd; exact ⟨rfl, rfl⟩)⟩
theorem pq_bl {i : Bool} {j} : PQ X (.Constant (.bool i) j pos) (qC (.bl i)) :=
  ⟨_, pe_bl, fun σ W ρ μ F S d hd Q q => q _ W [] (Ext.refl S.ok) (by cases hd; exact ⟨rfl, rfl⟩)⟩
theorem pq_non {j} : PQ X (.Constant .none j pos) (qC .non) :=
  ⟨_, pe_non, fun σ W ρ μ F S d hd Q q => q _ W [] (Ext.refl S.ok) (by cases hd; exact ⟨rfl, rfl⟩)⟩
theorem pq_str (x : String) {j} : PQ X (.Constant (.str (Str.ofString x)) j pos) (qC (.str (ofS x))) :=
  ⟨_, pe_str, fun σ W ρ μ F S d hd Q q => q _ W [] (Ext.refl S.ok) (by cases hd; exact ⟨congrArg V.str (tr_ofS x), rfl⟩)⟩
/-- a name of the module: d stands there at every heap -/
def GlD (K : PySem.W.Frag) (mg : Str → Option Value) (x : Str) (d : D) : Prop := ∃ v u, mg x = some u ∧ RelV v u ∧ ∀ W : Wd, R K W d v []
theorem pq_glob {x : Str} {d : D} (G : GlD X.K X.mg x d) (hg : Gl X x := by rfl) (hd : (x == ("__debug__" : Str)) = false := by decide) : PQ X (.Name x pos) (qC d) := by
  obtain ⟨v, u, h1, h2, h3⟩ := G
  exact ⟨_, pe_glob hg h1 h2 hd, fun σ W ρ μ F S d' hd' Q q => q v W [] (Ext.refl S.ok) (by cases hd'; exact h3 W)⟩

/-! ### operators -/
def q2 (o : D → D → Option D) (f g : FQ) : FQ := fun ρ μ => (f ρ μ).bind fun x => (g ρ μ).bind fun y => o x y
def q1 (o : D → Option D) (f : FQ) : FQ := fun ρ μ => (f ρ μ).bind o
theorem bind_some {α β : Type} {o : Option α} {k : α → Option β} {z : β} (h : o.bind k = some z) : ∃ x, o = some x ∧ k x = some z := by
  cases o with
  | none => cases h
  | some x => exact ⟨x, rfl, h⟩
/-- an operator on trees -/
def OpD (X : Cx) (op : Value → Value → Sem Value) (o : D → D → Option D) : Prop := ∃ r : R2, OpR X op r ∧ ∀ (W : Wd) (x y : D) (u v : V) (G1 G2 : List Addr), WOk W → R X.K W x u G1 → R X.K W y v G2 → ∀ d, o x y = some d →
  ∀ Q : VK, (∀ v W' G, Ext W W' → R X.K W' d v G → Q v W'.H) → r u v W.H Q
theorem run2 {ta tb : TE} {r : R2} {o : D → D → Option D}
    (h1 : ∀ (σ : L2.St) (W : Wd) (ρ μ : List D) (F : List Addr), Sta X.K W σ ρ μ F → ∀ d, f ρ μ = some d → ∀ Q : VK, (∀ v W' G, Ext W W' → R X.K W' d v G → Q v W'.H) → ta σ W.H Q)
    (h2 : ∀ (σ : L2.St) (W : Wd) (ρ μ : List D) (F : List Addr), Sta X.K W σ ρ μ F → ∀ d, g ρ μ = some d → ∀ Q : VK, (∀ v W' G, Ext W W' → R X.K W' d v G → Q v W'.H) → tb σ W.H Q)
    (h3 : ∀ (W : Wd) (x y : D) (u v : V) (G1 G2 : List Addr), WOk W → R X.K W x u G1 → R X.K W y v G2 → ∀ d, o x y = some d → ∀ Q : VK, (∀ v W' G, Ext W W' → R X.K W' d v G → Q v W'.H) → r u v W.H Q)
    (σ : L2.St) (W : Wd) (ρ μ : List D) (F : List Addr) (S : Sta X.K W σ ρ μ F) (d : D) (hd : q2 o f g ρ μ = some d) (Q : VK) (q : ∀ v W' G, Ext W W' → R X.K W' d v G → Q v W'.H) : tOp r ta tb σ W.H Q := by
  obtain ⟨x, e1, hd⟩ := bind_some hd
  obtain ⟨y, e2, hd⟩ := bind_some hd
  refine h1 σ W ρ μ F S x e1 _ fun u W1 G1 x1 r1 => ?_
  refine h2 σ W1 ρ μ F (S.ext x1) y e2 _ fun v W2 G2 x2 r2 => ?_
  exact h3 W2 x y u v G1 G2 x2.ok (R_ext x2 x r1) r2 d hd _ fun z W3 G3 x3 r3 => q z W3 G3 ((x1.trans x2).trans x3) r3
theorem pq_op {op : Operator} {o : D → D → Option D} (h : OpD X (binaryOp op) o) (ha : PQ X a f) (hb : PQ X b g) : PQ X (.BinOp a op b pos) (q2 o f g) := by
  obtain ⟨r, hr, h3⟩ := h
  obtain ⟨ta, pa, h1⟩ := ha
  obtain ⟨tb, pb, h2⟩ := hb
  exact ⟨_, pe_op hr pa pb, run2 h1 h2 h3⟩
theorem pq_cmp {op : CmpOp} {o : D → D → Option D} (h : OpD X (compareOp op) o) (ha : PQ X a f) (hb : PQ X b g) (hm : behindInMarks op b = false) : PQ X (.Compare a [op] [b] pos) (q2 o f g) := by
  obtain ⟨r, hr, h3⟩ := h
  obtain ⟨ta, pa, h1⟩ := ha
  obtain ⟨tb, pb, h2⟩ := hb
  exact ⟨_, pe_cmpR hr pa pb hm, run2 h1 h2 h3⟩
/-- a truth out of a value -/
def qB (f : FQ) : FB := fun ρ μ => match f ρ μ with
  | some (.bl b) => some b
  | _ => none
theorem qB_some {f : FQ} {ρ μ : List D} {b : Bool} (h : qB f ρ μ = some b) : f ρ μ = some (.bl b) := by
  unfold qB at h
  cases e : f ρ μ with
  | none => rw [e] at h; cases h
  | some d =>
    rw [e] at h
    cases d <;> first
      | (cases h; done)
      | (have z := Option.some.inj h; subst z; rfl)
theorem pb_val (ha : PQ X a f) (he : ∀ whole, isTrue a X.env whole = (do let v ← whole; standAt a.pos; holding [v] (truthy v)) := by intro _; rfl) : PB X a (qB f) := by
  obtain ⟨ta, pa, h1⟩ := ha
  refine ⟨_, pt_val pa he, fun σ W ρ μ F S b hb Q q => ?_⟩
  refine h1 σ W ρ μ F S _ (qB_some hb) _ fun u W1 G1 x1 r1 => ?_
  exact ⟨b, r1.1, q W1 x1⟩
theorem pb_cmp {op : CmpOp} {o : D → D → Option D} (h : OpD X (compareOp op) o) (ha : PQ X a f) (hb : PQ X b g) (hm : behindInMarks op b = false) : PB X (.Compare a [op] [b] pos) (qB (q2 o f g)) := by
  obtain ⟨r, hr, h3⟩ := h
  obtain ⟨ta, pa, h1⟩ := ha
  obtain ⟨tb, pb, h2⟩ := hb
  refine ⟨_, pt_cmpR hr pa pb hm, fun σ W ρ μ F S b hb Q q => ?_⟩
  refine run2 h1 h2 h3 σ W ρ μ F S _ (qB_some hb) _ fun u W1 G1 x1 r1 => ?_
  exact ⟨b, r1.1, q W1 x1⟩
/-! ### two comparisons in a chain -/
def q3 (o o' : D → D → Option D) (f g h : FQ) : FQ := fun ρ μ => (f ρ μ).bind fun x => (g ρ μ).bind fun y => match o x y with
  | some (.bl true) => (h ρ μ).bind fun z => o' y z
  | some (.bl false) => some (.bl false)
  | _ => none
theorem run3 {op op' : CmpOp} {o o' : D → D → Option D} (H1 : OpD X (compareOp op) o) (H2 : OpD X (compareOp op') o') (ha : PQ X a f) (hb : PQ X b g) (hc : PQ X c h) :
    ∃ r r' ta tb tc, OpR X (compareOp op) r ∧ OpR X (compareOp op') r' ∧ PE X a ta ∧ PE X b tb ∧ PE X c tc ∧
      ∀ (σ : L2.St) (W : Wd) (ρ μ : List D) (F : List Addr), Sta X.K W σ ρ μ F → ∀ d, q3 o o' f g h ρ μ = some d → ∀ Q : VK, (∀ v W' G, Ext W W' → R X.K W' d v G → Q v W'.H) → tChain r r' ta tb tc σ W.H Q := by
  obtain ⟨r, hr, h3⟩ := H1
  obtain ⟨r', hr', h4⟩ := H2
  obtain ⟨ta, pa, h1⟩ := ha
  obtain ⟨tb, pb, h2⟩ := hb
  obtain ⟨tc, pc, h5⟩ := hc
  refine ⟨r, r', ta, tb, tc, hr, hr', pa, pb, pc, fun σ W ρ μ F S d hd Q q => ?_⟩
  obtain ⟨x, e1, hd⟩ := bind_some hd
  obtain ⟨y, e2, hd⟩ := bind_some hd
  refine h1 σ W ρ μ F S x e1 _ fun u W1 G1 x1 r1 => ?_
  refine h2 σ W1 ρ μ F (S.ext x1) y e2 _ fun v W2 G2 x2 r2 => ?_
  cases e3 : o x y with
  | none => rw [e3] at hd; cases hd
  | some k =>
    rw [e3] at hd
    refine h3 W2 x y u v G1 G2 x2.ok (R_ext x2 x r1) r2 k e3 _ fun z W3 G3 x3 r3 => ?_
    cases k with
    | bl t =>
      refine ⟨t, r3.1, ?_⟩
      cases t with
      | true =>
        rw [if_pos rfl]
        obtain ⟨w, e4, hd⟩ := bind_some hd
        refine h5 σ W3 ρ μ F (((S.ext x1).ext x2).ext x3) w e4 _ fun t' W4 G4 x4 r4 => ?_
        exact h4 W4 y w v t' G2 G4 x4.ok (R_ext (x3.trans x4) y r2) r4 d hd _ fun z' W5 G5 x5 r5 => q z' W5 G5 ((((x1.trans x2).trans x3).trans x4).trans x5) r5
      | false =>
        rw [if_neg Bool.false_ne_true]
        cases hd
        exact q _ W3 [] ((x1.trans x2).trans x3) ⟨rfl, rfl⟩
    | _ => cases hd
end
end Fw
/-! # more quiet expressions -/
namespace Fw
open PySem PySem.Spec PyProof.Rows L2
open Evl (Ex)
section
variable {X : Cx} {e a b c : Expr} {es : List Expr} {f g h : FQ} {t u : FB} {pos : Pos}
theorem pq_chain {op op' : CmpOp} {o o' : D → D → Option D} (H1 : OpD X (compareOp op) o) (H2 : OpD X (compareOp op') o') (ha : PQ X a f) (hb : PQ X b g) (hc : PQ X c h)
    (hm : lastMarks [op, op'] [b, c] = false := by with_unfolding_all rfl) : PQ X (.Compare a [op, op'] [b, c] pos) (q3 o o' f g h) := by
  obtain ⟨r, r', ta, tb, tc, hr, hr', pa, pb, pc, k⟩ := run3 H1 H2 ha hb hc
  exact ⟨_, pe_chain hr hr' pa pb pc hm, k⟩
theorem pb_chain {op op' : CmpOp} {o o' : D → D → Option D} (H1 : OpD X (compareOp op) o) (H2 : OpD X (compareOp op') o') (ha : PQ X a f) (hb : PQ X b g) (hc : PQ X c h)
    (hm : lastMarks [op, op'] [b, c] = false := by with_unfolding_all rfl) : PB X (.Compare a [op, op'] [b, c] pos) (qB (q3 o o' f g h)) := by
  obtain ⟨r, r', ta, tb, tc, hr, hr', pa, pb, pc, k⟩ := run3 H1 H2 ha hb hc
  refine ⟨_, pt_chain hr hr' pa pb pc hm, fun σ W ρ μ F S b hb Q q => ?_⟩
  exact k σ W ρ μ F S _ (qB_some hb) _ fun u W1 G1 x1 r1 => ⟨b, r1.1, q W1 x1⟩
/-! ### and, or, not -/
def bAnd (t u : FB) : FB := fun ρ μ => (t ρ μ).bind fun x => if x = true then u ρ μ else some false
def bOr (t u : FB) : FB := fun ρ μ => (t ρ μ).bind fun x => if x = true then some true else u ρ μ
def bNot (t : FB) : FB := fun ρ μ => (t ρ μ).map not
theorem PWB.pb (h : PWB X e t) : PB X e t := by
  obtain ⟨tt, p, k⟩ := h
  exact ⟨tt, p.pt, k⟩
theorem pw1_and (h : PB X a t) : PWB X (.BoolOp .And [a] pos) t := by
  obtain ⟨tt, p, k⟩ := h
  exact ⟨tt, pw_and1 p, k⟩
theorem pw1_or (h : PB X a t) : PWB X (.BoolOp .Or [a] pos) t := by
  obtain ⟨tt, p, k⟩ := h
  exact ⟨tt, pw_or1 p, k⟩
theorem pwb_and (ha : PB X a t) (hb : PWB X (.BoolOp .And (b :: es) pos) u) : PWB X (.BoolOp .And (a :: b :: es) pos) (bAnd t u) := by
  obtain ⟨t1, p1, k1⟩ := ha
  obtain ⟨t2, p2, k2⟩ := hb
  refine ⟨_, pw_and p1 p2, fun σ W ρ μ F S b hb Q q => ?_⟩
  obtain ⟨x, e1, hb⟩ := bind_some hb
  refine k1 σ W ρ μ F S x e1 _ fun W1 x1 => ?_
  cases x with
  | true =>
    rw [if_pos rfl] at hb ⊢
    exact k2 σ W1 ρ μ F (S.ext x1) b hb Q fun W2 x2 => q W2 (x1.trans x2)
  | false =>
    rw [if_neg Bool.false_ne_true] at hb ⊢
    cases hb
    exact q W1 x1
theorem pwb_or (ha : PB X a t) (hb : PWB X (.BoolOp .Or (b :: es) pos) u) : PWB X (.BoolOp .Or (a :: b :: es) pos) (bOr t u) := by
  obtain ⟨t1, p1, k1⟩ := ha
  obtain ⟨t2, p2, k2⟩ := hb
  refine ⟨_, pw_or p1 p2, fun σ W ρ μ F S b hb Q q => ?_⟩
  obtain ⟨x, e1, hb⟩ := bind_some hb
  refine k1 σ W ρ μ F S x e1 _ fun W1 x1 => ?_
  cases x with
  | true =>
    rw [if_pos rfl] at hb ⊢
    cases hb
    exact q W1 x1
  | false =>
    rw [if_neg Bool.false_ne_true] at hb ⊢
    exact k2 σ W1 ρ μ F (S.ext x1) b hb Q fun W2 x2 => q W2 (x1.trans x2)
theorem pb_not (ha : PB X a t) : PB X (.UnaryOp .Not a pos) (bNot t) := by
  obtain ⟨t1, p1, k1⟩ := ha
  refine ⟨_, pt_not p1, fun σ W ρ μ F S b hb Q q => ?_⟩
  unfold bNot at hb
  cases e : t ρ μ with
  | none => rw [e] at hb; cases hb
  | some x =>
    rw [e] at hb
    have z : (!x) = b := Option.some.inj hb
    subst z
    exact k1 σ W ρ μ F S x e _ fun W1 x1 => q W1 x1
/-- as values: the operands before the last are truths -/
def qAnd (f g : FQ) : FQ := fun ρ μ => match f ρ μ with
  | some (.bl true) => g ρ μ
  | some (.bl false) => some (.bl false)
  | _ => none
def qOr (f g : FQ) : FQ := fun ρ μ => match f ρ μ with
  | some (.bl false) => g ρ μ
  | some (.bl true) => some (.bl true)
  | _ => none
def qNot (f : FQ) : FQ := fun ρ μ => match f ρ μ with
  | some (.bl b) => some (.bl (!b))
  | _ => none
theorem pq_one {op} (h : PQ X a f) : PQ X (.BoolOp op [a] pos) f := by
  obtain ⟨t, p, k⟩ := h
  exact ⟨t, pe_one p, k⟩
theorem pq_and (ha : PQ X a f) (hb : PQ X (.BoolOp .And (b :: es) pos) g) : PQ X (.BoolOp .And (a :: b :: es) pos) (qAnd f g) := by
  obtain ⟨t1, p1, k1⟩ := ha
  obtain ⟨t2, p2, k2⟩ := hb
  refine ⟨_, pe_and p1 p2, fun σ W ρ μ F S d hd Q q => ?_⟩
  unfold qAnd at hd
  cases e : f ρ μ with
  | none => rw [e] at hd; cases hd
  | some x =>
    rw [e] at hd
    refine k1 σ W ρ μ F S x e _ fun v W1 G1 x1 r1 => ?_
    cases x with
    | bl c =>
      refine ⟨c, r1.1, ?_⟩
      cases c with
      | true =>
        rw [if_pos rfl]
        exact k2 σ W1 ρ μ F (S.ext x1) d hd Q fun v W2 G x2 r2 => q v W2 G (x1.trans x2) r2
      | false =>
        rw [if_neg Bool.false_ne_true]
        cases hd
        exact q _ W1 [] x1 ⟨rfl, rfl⟩
    | _ => cases hd
theorem pq_or (ha : PQ X a f) (hb : PQ X (.BoolOp .Or (b :: es) pos) g) : PQ X (.BoolOp .Or (a :: b :: es) pos) (qOr f g) := by
  obtain ⟨t1, p1, k1⟩ := ha
  obtain ⟨t2, p2, k2⟩ := hb
  refine ⟨_, pe_or p1 p2, fun σ W ρ μ F S d hd Q q => ?_⟩
  unfold qOr at hd
  cases e : f ρ μ with
  | none => rw [e] at hd; cases hd
  | some x =>
    rw [e] at hd
    refine k1 σ W ρ μ F S x e _ fun v W1 G1 x1 r1 => ?_
    cases x with
    | bl c =>
      refine ⟨c, r1.1, ?_⟩
      cases c with
      | true =>
        rw [if_pos rfl]
        cases hd
        exact q _ W1 [] x1 ⟨rfl, rfl⟩
      | false =>
        rw [if_neg Bool.false_ne_true]
        exact k2 σ W1 ρ μ F (S.ext x1) d hd Q fun v W2 G x2 r2 => q v W2 G (x1.trans x2) r2
    | _ => cases hd
theorem pq_not (ha : PQ X a f) : PQ X (.UnaryOp .Not a pos) (qNot f) := by
  obtain ⟨t1, p1, k1⟩ := ha
  refine ⟨_, pe_not p1, fun σ W ρ μ F S d hd Q q => ?_⟩
  unfold qNot at hd
  cases e : f ρ μ with
  | none => rw [e] at hd; cases hd
  | some x =>
    rw [e] at hd
    refine k1 σ W ρ μ F S x e _ fun v W1 G1 x1 r1 => ?_
    cases x with
    | bl c =>
      cases hd
      exact ⟨c, r1.1, q _ W1 [] x1 ⟨rfl, rfl⟩⟩
    | _ => cases hd
def qIf (t : FB) (f g : FQ) : FQ := fun ρ μ => (t ρ μ).bind fun x => if x = true then f ρ μ else g ρ μ
theorem pq_if (hc : PB X c t) (ha : PQ X a f) (hb : PQ X b g) : PQ X (.IfExp c a b pos) (qIf t f g) := by
  obtain ⟨t0, p0, k0⟩ := hc
  obtain ⟨t1, p1, k1⟩ := ha
  obtain ⟨t2, p2, k2⟩ := hb
  refine ⟨_, pe_ifExp p0 p1 p2, fun σ W ρ μ F S d hd Q q => ?_⟩
  obtain ⟨x, e1, hd⟩ := bind_some hd
  refine k0 σ W ρ μ F S x e1 _ fun W1 x1 => ?_
  cases x with
  | true =>
    rw [if_pos rfl] at hd ⊢
    exact k1 σ W1 ρ μ F (S.ext x1) d hd Q fun v W2 G x2 r2 => q v W2 G (x1.trans x2) r2
  | false =>
    rw [if_neg Bool.false_ne_true] at hd ⊢
    exact k2 σ W1 ρ μ F (S.ext x1) d hd Q fun v W2 G x2 r2 => q v W2 G (x1.trans x2) r2
/-! ### arguments, tuples, lists -/
def aNil : FA := fun _ _ => some []
def aCons (f : FQ) (k : FA) : FA := fun ρ μ => (f ρ μ).bind fun d => (k ρ μ).map fun ds => d :: ds
theorem paq_nil : PAQ X [] aNil := ⟨_, pa_nil, fun σ W ρ μ F S ds hd Q q => by
  cases hd
  exact q [] W [] (Ext.refl S.ok) ⟨rfl, rfl⟩⟩
theorem paq_cons {k : FA} (ha : PQ X e f) (hr : PAQ X es k) (hs : starEach (e :: es) X.env = (false, eval e X.env) :: starEach es X.env := by rfl) : PAQ X (e :: es) (aCons f k) := by
  obtain ⟨t1, p1, k1⟩ := ha
  obtain ⟨t2, p2, k2⟩ := hr
  refine ⟨_, pa_cons p1 p2 hs, fun σ W ρ μ F S ds hd Q q => ?_⟩
  obtain ⟨d, e1, hd⟩ := bind_some hd
  cases e2 : k ρ μ with
  | none => rw [e2] at hd; cases hd
  | some dr =>
    rw [e2] at hd
    cases hd
    refine k1 σ W ρ μ F S d e1 _ fun v W1 G1 x1 r1 => ?_
    refine k2 σ W1 ρ μ F (S.ext x1) dr e2 _ fun vs W2 G2 x2 r2 => ?_
    exact q _ W2 _ (x1.trans x2) ⟨v, vs, G1, G2, rfl, R_ext x2 d r1, r2, rfl⟩
/-- the lengths that are let by -/
def LIM : Nat := 1000000
theorem lim_ok {n : Nat} (h : n ≤ LIM) : n ≤ sizeLine := Nat.le_trans h (by decide)
theorem lim_lt {n : Nat} (h : n ≤ LIM) : n < sizeLine := Nat.lt_of_le_of_lt h (by decide)
def qTup (k : FA) : FQ := fun ρ μ => (k ρ μ).bind fun ds => if ds.length ≤ 100 then some (.tup ds) else none
theorem pq_tup {k : FA} {x1} (h : PAQ X es k) : PQ X (.Tuple es x1 pos) (qTup k) := by
  obtain ⟨t1, p1, k1⟩ := h
  refine ⟨_, pe_tup p1, fun σ W ρ μ F S d hd Q q => ?_⟩
  obtain ⟨ds, e1, hd⟩ := bind_some hd
  by_cases hl : ds.length ≤ 100
  · rw [if_pos hl] at hd
    cases hd
    refine k1 σ W ρ μ F S ds e1 _ fun vs W1 G1 x1 r1 => ⟨by rw [RL_len r1]; exact lim_ok (Nat.le_trans hl (by decide)), fun p hp => ?_⟩
    exact q _ (W1.put p (.tup vs)) G1 (x1.trans (Ext.put x1.ok hp)) (R_newT x1.ok hp r1)
  · rw [if_neg hl] at hd
    cases hd
/-- all of them data -/
def aData (k : FA) : FA := fun ρ μ => (k ρ μ).bind fun ds => if dataL ds = true ∧ ds.length ≤ 100 then some ds else none
theorem pn_lst {k : FA} (h : PAQ X es k) : PN X (.List es pos) (aData k) := by
  obtain ⟨t1, p1, k1⟩ := h
  refine ⟨_, pe_lst p1, fun σ W ρ μ F S d hd Q q => ?_⟩
  obtain ⟨ds, e1, hd⟩ := bind_some hd
  by_cases hl : dataL ds = true ∧ ds.length ≤ 100
  · rw [if_pos hl] at hd
    cases hd
    refine k1 σ W ρ μ F S d e1 _ fun vs W1 G1 x1 r1 => ⟨by rw [RL_len r1]; exact lim_ok (Nat.le_trans hl.2 (by decide)), fun p hp => ?_⟩
    have z := RL_data d hl.1 r1
    subst z
    exact q p (W1.put p (.lst vs)) ⟨x1.trans (Ext.put x1.ok hp), Evl.fresh_back x1.ex hp, fun z => x1.ok p z hp, vs, upd_same, RL_ext (Ext.put x1.ok hp) d r1⟩
  · rw [if_neg hl] at hd
    cases hd
/-- a new list as a value -/
def qN (k : FA) : FQ := fun ρ μ => (k ρ μ).map D.lst
theorem NewL.frz {K : PySem.W.Frag} {W W' : Wd} {ds : List D} {p : Addr} (h : NewL K W W' ds p) : Ext W ⟨W'.H, fun a => W'.Fr a ∨ a = p, W'.m⟩ ∧ R K ⟨W'.H, fun a => W'.Fr a ∨ a = p, W'.m⟩ (.lst ds) (.ref p) [] := by
  obtain ⟨x, new, nofr, vs, h1, h2⟩ := h
  refine ⟨⟨x.ex, fun a q => .inl (x.fr a q), fun a q => ?_, x.m, fun a q => ?_⟩, ?_⟩
  · rcases q with q | q
    · exact x.nf a q
    · exact .inr (by rw [q]; exact new)
  · rcases q with q | q
    · exact x.ok a q
    · show W'.H a ≠ none
      rw [q, h1]
      exact fun z => nomatch z
  · have lt : Lt W' ⟨W'.H, fun a => W'.Fr a ∨ a = p, W'.m⟩ := ⟨fun _ _ z => z, fun _ _ z => ⟨z.1, Or.inl z.2⟩, fun _ _ z => z⟩
    exact ⟨p, vs, rfl, Or.inl ⟨Or.inl h1, Or.inr rfl⟩, RL_lt lt ds h2, rfl⟩
theorem PN.pq {k : FA} (h : PN X e k) : PQ X e (qN k) := by
  obtain ⟨t1, p1, k1⟩ := h
  refine ⟨_, p1, fun σ W ρ μ F S d hd Q q => ?_⟩
  unfold qN at hd
  cases e1 : k ρ μ with
  | none => rw [e1] at hd; cases hd
  | some ds =>
    rw [e1] at hd
    cases hd
    refine k1 σ W ρ μ F S ds e1 _ fun p W1 n => ?_
    obtain ⟨x, r⟩ := n.frz
    exact q _ ⟨W1.H, fun a => W1.Fr a ∨ a = p, W1.m⟩ [] x r
/-! ### items, slices -/
def IxD (X : Cx) (o : D → D → Option D) : Prop := ∃ r : R2, IxR X r ∧ ∀ (W : Wd) (x y : D) (u v : V) (G1 G2 : List Addr), WOk W → R X.K W x u G1 → R X.K W y v G2 → ∀ d, o x y = some d →
  ∀ Q : VK, (∀ v W' G, Ext W W' → R X.K W' d v G → Q v W'.H) → r u v W.H Q
theorem pq_ixr {o : D → D → Option D} (h : IxD X o) (ha : PQ X a f) (hb : PQ X b g) (hs : PlainIx b) : PQ X (.Subscript a b pos) (q2 o f g) := by
  obtain ⟨r, hr, h3⟩ := h
  obtain ⟨ta, pa, h1⟩ := ha
  obtain ⟨tb, pb, h2⟩ := hb
  exact ⟨_, pe_ix hr pa pb hs, run2 h1 h2 h3⟩
def ixAt {α : Type} (xs : List α) (i : Int) : Option α := if 0 ≤ i then xs[i.toNat]? else if -(xs.length : Int) ≤ i then xs[(i + xs.length).toNat]? else none
theorem ixAt_ok {α : Type} {xs : List α} {i : Int} {x : α} (h : ixAt xs i = some x) : atI xs i = some x := by
  unfold ixAt at h
  unfold atI ixN
  by_cases h0 : 0 ≤ i
  · rw [if_pos h0] at h ⊢
    have hl := (List.getElem?_eq_some_iff.mp h).1
    rw [if_pos (by omega)]
    exact h
  · rw [if_neg h0] at h ⊢
    by_cases h1 : -(xs.length : Int) ≤ i
    · rw [if_pos h1] at h ⊢
      exact h
    · rw [if_neg h1] at h
      cases h
theorem ixAt_map {α β : Type} (f : α → β) (xs : List α) (i : Int) : ixAt (xs.map f) i = (ixAt xs i).map f := by
  unfold ixAt
  rw [List.length_map]
  split
  · rw [List.getElem?_map]
  · split
    · rw [List.getElem?_map]
    · rfl
def dIx : D → D → Option D
  | .tup ds, .int i => ixAt ds i
  | .lst ds, .int i => ixAt ds i
  | .ml ds, .int i => ixAt ds i
  | .str s, .int i => if s.length ≤ LIM then (ixAt s i).map fun c => .str [c] else none
  | _, _ => none
theorem RL_ixAt {K : PySem.W.Frag} {W : Wd} {ds : List D} {vs : List V} {F : List Addr} {i : Int} {d : D} (h : RL K W ds vs F) (e : ixAt ds i = some d) : ∃ v G, atI vs i = some v ∧ R K W d v G := by
  have hl := RL_len h
  unfold ixAt at e
  have key : ∀ j : Nat, ds[j]? = some d → ∃ v G, vs[j]? = some v ∧ R K W d v G := fun j q => by
    obtain ⟨v, G, h1, h2, _⟩ := RL_get h q
    exact ⟨v, G, h1, h2⟩
  split at e
  · obtain ⟨v, G, h1, h2⟩ := key _ e
    refine ⟨v, G, ixAt_ok ?_, h2⟩
    unfold ixAt
    rw [if_pos (by assumption)]
    exact h1
  · split at e
    · obtain ⟨v, G, h1, h2⟩ := key _ e
      refine ⟨v, G, ixAt_ok ?_, h2⟩
      unfold ixAt
      rw [if_neg (by assumption), hl, if_pos (by assumption)]
      exact h1
    · cases e
theorem ixd_all : IxD X dIx := by
  refine ⟨_, ix_seq, fun W x y u v G1 G2 ok r1 r2 d hd Q q => ?_⟩
  cases y with
  | int i =>
    obtain ⟨rfl, _⟩ := r2
    cases x with
    | tup ds =>
      obtain ⟨a, vs, rfl, h2, h3⟩ := r1
      obtain ⟨w, G, e1, e2⟩ := RL_ixAt h3 hd
      exact .inr (.inl ⟨a, vs, i, w, rfl, rfl, h2, e1, q w W G (Ext.refl ok) e2⟩)
    | lst ds =>
      obtain ⟨a, vs, rfl, h2, h3, _⟩ := r1
      obtain ⟨w, G, e1, e2⟩ := RL_ixAt h3 hd
      exact .inl ⟨a, vs, i, w, rfl, rfl, h2.sq, e1, q w W G (Ext.refl ok) e2⟩
    | ml ds =>
      obtain ⟨a, vs, F', rfl, h2, h3, _⟩ := r1
      obtain ⟨w, G, e1, e2⟩ := RL_ixAt h3 hd
      exact .inl ⟨a, vs, i, w, rfl, rfl, Evl.sq_of h2, e1, q w W G (Ext.refl ok) e2⟩
    | str s =>
      obtain ⟨rfl, _⟩ := r1
      have hd2 : (if s.length ≤ LIM then (ixAt s i).map (fun c => D.str [c]) else none) = some d := hd
      by_cases hl : s.length ≤ LIM
      · rw [if_pos hl] at hd2
        cases e : ixAt s i with
        | none => rw [e] at hd2; cases hd2
        | some c =>
          rw [e] at hd2
          cases hd2
          exact .inr (.inr ⟨tr s, i, c, rfl, rfl, (by show s.toArray.size ≤ _; rw [List.size_toArray]; exact lim_ok hl), (by show atI s.toArray.toList i = some c; exact ixAt_ok e), q _ W [] (Ext.refl ok) ⟨rfl, rfl⟩⟩)
      · rw [if_neg hl] at hd2
        cases hd2
    | _ => cases hd
  | _ => cases x <;> cases hd
theorem pq_ix (ha : PQ X a f) (hb : PQ X b g) (hs : PlainIx b := by exact fun _ _ => rfl) : PQ X (.Subscript a b pos) (q2 dIx f g) := pq_ixr ixd_all ha hb hs
end
end Fw
/-! # operators on trees -/
namespace Fw
open PySem PySem.Spec PyProof.Rows L2
open Evl (Ex)
section
variable {X : Cx} {K : PySem.W.Frag}
/-! ### lists and their addresses -/
def asL : D → Option (List D)
  | .lst ds => some ds
  | .ml ds => if dataL ds = true then some ds else none
  | _ => none
theorem R_asL {W : Wd} {d : D} {ds : List D} {v : V} {G : List Addr} (h : asL d = some ds) (r : R K W d v G) : ∃ a vs, v = .ref a ∧ SqL K W.H a vs ∧ RL K W ds vs [] := by
  cases d with
  | lst es =>
    cases h
    obtain ⟨a, vs, h1, h2, h3, _⟩ := r
    exact ⟨a, vs, h1, h2.sq, h3⟩
  | ml es =>
    have h2 : (if dataL es = true then some es else none) = some ds := h
    by_cases hl : dataL es = true
    · rw [if_pos hl] at h2
      cases h2
      obtain ⟨a, vs, F', h1, h2, h3, _⟩ := r
      have z := RL_data ds hl h3
      subst z
      exact ⟨a, vs, h1, Evl.sq_of h2, h3⟩
    · rw [if_neg hl] at h2
      cases h2
  | _ => cases h
/-- list + list, each of them as it can be read -/
def rCatR (K : PySem.W.Frag) : R2 := fun x y H Q => ∃ l b xs zs, x = .ref l ∧ y = .ref b ∧ SqL K H l xs ∧ SqL K H b zs ∧ xs.length + zs.length ≤ sizeLine ∧ ∀ p, H p = none → Q (.ref p) (upd H p (.lst (xs ++ zs)))
theorem op_catR : OpR X (binaryOp .Add) (rCatR X.K) := by
  intro pins s σ H x y v u Q I rx ry h
  obtain ⟨l, b, xs, zs, rfl, rfl, hH, hB, hz, q⟩ := h
  cases rx
  cases ry
  obtain ⟨its, r, ⟨⟨c1, d1, t1, s1⟩, n, e, hc, hd, ht⟩, z⟩ := I.list hH
  obtain ⟨its2, r2, ⟨⟨c2, d2, t2, s2⟩, n2, e2, hc2, hd2, ht2⟩, z2⟩ := I.list hB
  simp only at hc hd ht hc2 hd2 ht2
  subst hc hd ht hc2 hd2 ht2
  have l1 := r.length
  have l2 := r2.length
  have ea : its.toArray ++ its2.toArray = (its ++ its2).toArray := by simp
  refine concat_meets ⟨_, e, rfl⟩ ⟨_, e2, rfl⟩ noFill_list_add seq_list_add PySem.F.slot_list_add PySem.F.entry_list_add (PySem.F.args_list_add_2 _ _) (list_addW l b its.toArray its2.toArray n n2 none none s1 s2 (by rw [List.size_toArray, List.size_toArray]; omega)) ⟨e, e2, ?_⟩
  rw [ea]
  exact ⟨.ref _, _, I.lnew (t' := s.toks) (r.append r2) (by rw [List.length_append]; omega), rfl, q _ I.fresh⟩
/-! ### + -/
def dAdd : D → D → Option D
  | .int i, .int j => some (.int (i + j))
  | .str a, .str b => if a.length + b.length ≤ LIM then some (.str (a ++ b)) else none
  | .tup a, .tup b => if a.length + b.length ≤ LIM ∧ dataL a = true ∧ dataL b = true then some (.tup (a ++ b)) else none
  | x, y => (asL x).bind fun a => (asL y).bind fun b => if a.length + b.length ≤ LIM then some (.lst (a ++ b)) else none
theorem tr_append (a b : List Nat) : tr a ++ tr b = tr (a ++ b) := by
  show Str.append (tr a) (tr b) = tr (a ++ b)
  unfold Str.append
  simp
theorem tr_length (a : List Nat) : (tr a).length = a.length := by
  show a.toArray.size = _
  rw [List.size_toArray]
theorem tr_inj {a b : List Nat} (h : tr a = tr b) : a = b := by
  have z : a.toArray = b.toArray := congrArg Str.cps h
  simpa using z
theorem opd_add : OpD X (binaryOp .Add) dAdd := by
  refine ⟨_, (op_add.or (op_add_str.or (op_catA.or op_catR))), fun W x y u v G1 G2 ok r1 r2 d hd Q q => ?_⟩
  have lists : ∀ {a b : List D}, asL x = some a → asL y = some b → (if a.length + b.length ≤ LIM then some (D.lst (a ++ b)) else none) = some d → rCatR X.K u v W.H Q := fun {a b} e1 e2 hd => by
    obtain ⟨p, vs, rfl, h2, h3⟩ := R_asL e1 r1
    obtain ⟨p', vs', rfl, h2', h3'⟩ := R_asL e2 r2
    by_cases hl : a.length + b.length ≤ LIM
    · rw [if_pos hl] at hd
      cases hd
      refine ⟨p, p', vs, vs', rfl, rfl, h2, h2', by rw [RL_len h3, RL_len h3']; exact lim_ok hl, fun z hz => ?_⟩
      exact q _ (W.frz z (vs ++ vs')) [] (Ext.frz ok hz) (R_newL ok hz (RL_app h3 h3'))
    · rw [if_neg hl] at hd
      cases hd
  have viaL : ((asL x).bind fun a => (asL y).bind fun b => if a.length + b.length ≤ LIM then some (D.lst (a ++ b)) else none) = some d → rCatR X.K u v W.H Q := fun h => by
    obtain ⟨a, e1, h⟩ := bind_some h
    obtain ⟨b, e2, h⟩ := bind_some h
    exact lists e1 e2 h
  cases x with
  | int i =>
    cases y with
    | int j =>
      cases hd
      obtain ⟨rfl, _⟩ := r1
      obtain ⟨rfl, _⟩ := r2
      exact .inl ⟨i, j, rfl, rfl, q _ W [] (Ext.refl ok) ⟨rfl, rfl⟩⟩
    | _ => cases hd
  | str a =>
    cases y with
    | str b =>
      obtain ⟨rfl, _⟩ := r1
      obtain ⟨rfl, _⟩ := r2
      have hd2 : (if a.length + b.length ≤ LIM then some (D.str (a ++ b)) else none) = some d := hd
      by_cases hl : a.length + b.length ≤ LIM
      · rw [if_pos hl] at hd2
        cases hd2
        exact .inr (.inl ⟨tr a, tr b, rfl, rfl, by rw [tr_length, tr_length]; exact lim_ok hl, q _ W [] (Ext.refl ok) ⟨by rw [tr_append], rfl⟩⟩)
      · rw [if_neg hl] at hd2
        cases hd2
    | _ => cases hd
  | tup a =>
    cases y with
    | tup b =>
      have hd2 : (if a.length + b.length ≤ LIM ∧ dataL a = true ∧ dataL b = true then some (D.tup (a ++ b)) else none) = some d := hd
      by_cases hl : a.length + b.length ≤ LIM ∧ dataL a = true ∧ dataL b = true
      · rw [if_pos hl] at hd2
        cases hd2
        obtain ⟨p, vs, rfl, h2, h3⟩ := r1
        obtain ⟨p', vs', rfl, h2', h3'⟩ := r2
        have z1 := RL_data a hl.2.1 h3
        have z2 := RL_data b hl.2.2 h3'
        subst z1
        subst z2
        have ln := RL_len h3
        have ln' := RL_len h3'
        refine .inr (.inr (.inl ⟨p, p', vs, vs', rfl, rfl, h2, h2', by rw [ln, ln']; exact lim_ok hl.1, fun e => ?_, fun e1 e2 => ?_, fun e1 e2 z hz => ?_⟩))
        · have ea : a = [] := by
            rw [e] at ln
            exact List.length_eq_zero_iff.mp ln.symm
          subst ea
          exact q _ W [] (Ext.refl ok) ⟨p', vs', rfl, h2', h3'⟩
        · have eb : b = [] := by
            rw [e2] at ln'
            exact List.length_eq_zero_iff.mp ln'.symm
          subst eb
          rw [List.append_nil] at q
          exact q _ W [] (Ext.refl ok) ⟨p, vs, rfl, h2, h3⟩
        · exact q _ (W.put z (.tup (vs ++ vs'))) [] (Ext.put ok hz) (R_newT ok hz (RL_app h3 h3'))
      · rw [if_neg hl] at hd2
        cases hd2
    | _ => cases hd
  | lst a =>
    have hd2 : ((asL (.lst a)).bind fun a => (asL y).bind fun b => if a.length + b.length ≤ LIM then some (D.lst (a ++ b)) else none) = some d := by cases y <;> exact hd
    exact .inr (.inr (.inr (viaL hd2)))
  | ml a =>
    have hd2 : ((asL (.ml a)).bind fun a => (asL y).bind fun b => if a.length + b.length ≤ LIM then some (D.lst (a ++ b)) else none) = some d := by cases y <;> exact hd
    exact .inr (.inr (.inr (viaL hd2)))
  | _ => cases y <;> cases hd
/-! ### ints -/
def dInt (C : Int → Int → Bool) (g : Int → Int → D) : D → D → Option D
  | .int i, .int j => if C i j = true then some (g i j) else none
  | _, _ => none
theorem opd_int {op : Value → Value → Sem Value} {P : Int → Int → Prop} {f : Int → Int → V} {C : Int → Int → Bool} {g : Int → Int → D} (h : OpR X op (rI P f)) (hc : ∀ i j, C i j = true → P i j) (hg : ∀ (W : Wd) i j, R X.K W (g i j) (f i j) []) : OpD X op (dInt C g) := by
  refine ⟨_, h, fun W x y u v G1 G2 ok r1 r2 d hd Q q => ?_⟩
  cases x with
  | int i =>
    cases y with
    | int j =>
      obtain ⟨rfl, _⟩ := r1
      obtain ⟨rfl, _⟩ := r2
      have hd2 : (if C i j = true then some (g i j) else none) = some d := hd
      by_cases hl : C i j = true
      · rw [if_pos hl] at hd2
        cases hd2
        exact ⟨i, j, rfl, rfl, hc i j hl, q _ W [] (Ext.refl ok) (hg W i j)⟩
      · rw [if_neg hl] at hd2
        cases hd2
    | _ => cases hd
  | _ => cases y <;> cases hd
theorem opd_int0 {op : Value → Value → Sem Value} {f : Int → Int → V} {g : Int → Int → D} (h : OpR X op (rI0 f)) (hg : ∀ (W : Wd) i j, R X.K W (g i j) (f i j) []) : OpD X op (dInt (fun _ _ => true) g) := by
  refine ⟨_, h, fun W x y u v G1 G2 ok r1 r2 d hd Q q => ?_⟩
  cases x with
  | int i =>
    cases y with
    | int j =>
      obtain ⟨rfl, _⟩ := r1
      obtain ⟨rfl, _⟩ := r2
      cases hd
      exact ⟨i, j, rfl, rfl, q _ W [] (Ext.refl ok) (hg W i j)⟩
    | _ => cases hd
  | _ => cases y <;> cases hd
abbrev dSub := dInt (fun _ _ => true) fun i j => .int (i - j)
def cMul (i j : Int) : Bool := decide ((-18446744073709551616 < i ∧ i < 18446744073709551616) ∨ (-18446744073709551616 < j ∧ j < 18446744073709551616))
abbrev dMul := dInt cMul fun i j => .int (i * j)
abbrev dMod := dInt (fun _ j => decide (0 < j)) fun i j => .int (i % j)
abbrev dFdiv := dInt (fun _ j => decide (0 < j ∧ j < 1073741824)) fun i j => .int (i / j)
theorem opd_sub : OpD X (binaryOp .Sub) dSub := opd_int0 op_sub fun _ _ _ => ⟨rfl, rfl⟩
theorem opd_mul : OpD X (binaryOp .Mult) dMul := opd_int op_mul (fun i j h => by
  have z : (-18446744073709551616 < i ∧ i < 18446744073709551616) ∨ (-18446744073709551616 < j ∧ j < 18446744073709551616) := of_decide_eq_true h
  unfold CMul
  omega) fun _ _ _ => ⟨rfl, rfl⟩
theorem opd_mod : OpD X (binaryOp .Mod) dMod := opd_int op_mod (fun i j h => of_decide_eq_true h) fun _ _ _ => ⟨rfl, rfl⟩
theorem opd_fdiv : OpD X (binaryOp .FloorDiv) dFdiv := opd_int op_fdiv (fun i j h => by
  have z : 0 < j ∧ j < 1073741824 := of_decide_eq_true h
  exact z) fun _ _ _ => ⟨rfl, rfl⟩
abbrev dPow := dInt (fun i j => decide (0 ≤ j ∧ j ≤ 1000 ∧ i.natAbs < 18446744073709551616)) fun i j => .int (i ^ j.toNat)
theorem opd_pow : OpD X (binaryOp .Pow) dPow := opd_int op_pow (fun i j h => by
  obtain ⟨h1, h2, h3⟩ := of_decide_eq_true h
  exact ⟨h1, by omega, h3⟩) fun _ _ _ => ⟨rfl, rfl⟩
/-! ### comparisons by order -/
theorem opd_or {op : Value → Value → Sem Value} {o o' : D → D → Option D} (h : OpD X op o) (h' : OpD X op o') : OpD X op (fun x y => match o x y with | some d => some d | none => o' x y) := by
  obtain ⟨r, hr, k⟩ := h
  obtain ⟨r', hr', k'⟩ := h'
  refine ⟨_, hr.or hr', fun W x y u v G1 G2 ok r1 r2 d hd Q q => ?_⟩
  dsimp only at hd
  cases e : o x y with
  | some d0 =>
    rw [e] at hd
    cases hd
    exact .inl (k W x y u v G1 G2 ok r1 r2 _ e Q q)
  | none =>
    rw [e] at hd
    exact .inr (k' W x y u v G1 G2 ok r1 r2 _ hd Q q)
theorem opd_is {op : Value → Value → Sem Value} {o o' : D → D → Option D} (h : OpD X op o) (e : ∀ x y d, o' x y = some d → o x y = some d) : OpD X op o' := by
  obtain ⟨r, hr, k⟩ := h
  exact ⟨r, hr, fun W x y u v G1 G2 ok r1 r2 d hd Q q => k W x y u v G1 G2 ok r1 r2 d (e x y d hd) Q q⟩
/-- both texts -/
def dStr2 (g : List Nat → List Nat → D) : D → D → Option D
  | .str a, .str b => some (g a b)
  | _, _ => none
theorem opd_str2 {op : Value → Value → Sem Value} {f : Str → Str → V} {g : List Nat → List Nat → D} (h : OpR X op (fun x y H Q => ∃ i j, x = .str i ∧ y = .str j ∧ Q (f i j) H)) (hg : ∀ (W : Wd) a b, R X.K W (g a b) (f (tr a) (tr b)) []) : OpD X op (dStr2 g) := by
  refine ⟨_, h, fun W x y u v G1 G2 ok r1 r2 d hd Q q => ?_⟩
  cases x with
  | str i =>
    cases y with
    | str j =>
      obtain ⟨rfl, _⟩ := r1
      obtain ⟨rfl, _⟩ := r2
      cases hd
      exact ⟨_, _, rfl, rfl, q _ W [] (Ext.refl ok) (hg W i j)⟩
    | _ => cases hd
  | _ => cases y <;> cases hd
def dLt : D → D → Option D
  | .int i, .int j => some (.bl (decide (i < j)))
  | .str a, .str b => some (.bl (decide (a < b)))
  | _, _ => none
def dLe : D → D → Option D
  | .int i, .int j => some (.bl (decide (i ≤ j)))
  | .str a, .str b => some (.bl (!decide (b < a)))
  | _, _ => none
def dGt : D → D → Option D
  | .int i, .int j => some (.bl (decide (j < i)))
  | .str a, .str b => some (.bl (decide (b < a)))
  | _, _ => none
def dGe : D → D → Option D
  | .int i, .int j => some (.bl (decide (j ≤ i)))
  | .str a, .str b => some (.bl (!decide (a < b)))
  | _, _ => none
theorem opd_lt : OpD X (compareOp .Lt) dLt := opd_is (opd_or (opd_int0 (g := fun i j => .bl (decide (i < j))) op_lt fun _ _ _ => ⟨rfl, rfl⟩) (opd_str2 (g := fun a b => .bl (decide (a < b))) op_lt_str fun _ _ _ => ⟨rfl, rfl⟩))
  fun x y d h => by cases x <;> cases y <;> first | exact h | cases h
theorem opd_le : OpD X (compareOp .LtE) dLe := opd_is (opd_or (opd_int0 (g := fun i j => .bl (decide (i ≤ j))) op_le fun _ _ _ => ⟨rfl, rfl⟩) (opd_str2 (g := fun a b => .bl (!decide (b < a))) op_le_str fun _ _ _ => ⟨rfl, rfl⟩))
  fun x y d h => by cases x <;> cases y <;> first | exact h | cases h
theorem opd_gt : OpD X (compareOp .Gt) dGt := opd_is (opd_or (opd_int0 (g := fun i j => .bl (decide (j < i))) op_gt fun _ _ _ => ⟨rfl, rfl⟩) (opd_str2 (g := fun a b => .bl (decide (b < a))) op_gt_str fun _ _ _ => ⟨rfl, rfl⟩))
  fun x y d h => by cases x <;> cases y <;> first | exact h | cases h
theorem opd_ge : OpD X (compareOp .GtE) dGe := opd_is (opd_or (opd_int0 (g := fun i j => .bl (decide (j ≤ i))) op_ge fun _ _ _ => ⟨rfl, rfl⟩) (opd_str2 (g := fun a b => .bl (!decide (a < b))) op_ge_str fun _ _ _ => ⟨rfl, rfl⟩))
  fun x y d h => by cases x <;> cases y <;> first | exact h | cases h
/-! ### equality -/
def atom : D → Option V
  | .non => some .non
  | .bl b => some (.bl b)
  | .int i => some (.int i)
  | .str s => some (.str (tr s))
  | _ => none
theorem R_atom {W : Wd} {d : D} {u v : V} {G : List Addr} (h : atom d = some u) (r : R K W d v G) : v = u := by
  cases d <;> first
    | (cases h; exact r.1)
    | cases h
mutual
def toP : D → Option PyData
  | .non => some .none
  | .bl b => some (.bool b)
  | .int i => some (.int i)
  | .str s => some (.str (tr s))
  | .tup ds => (toPL ds).map .tuple
  | .lst ds => (toPL ds).map .list
  | .ml ds => (toPL ds).map .list
  | _ => none
def toPL : List D → Option (List PyData)
  | [] => some []
  | d :: ds => (toP d).bind fun p => (toPL ds).map fun ps => p :: ps
end
theorem map_some {α β : Type} {o : Option α} {k : α → β} {z : β} (h : o.map k = some z) : ∃ x, o = some x ∧ k x = z := by
  cases o with
  | none => cases h
  | some x => exact ⟨x, rfl, Option.some.inj h⟩
mutual
theorem R_dp {W : Wd} : ∀ (d : D) {p : PyData} {v : V} {G : List Addr}, toP d = some p → R K W d v G → Dp K W.H v p
  | .non, _, _, _, h, r => by cases h; rw [r.1]; exact .non
  | .bl b, _, _, _, h, r => by cases h; rw [r.1]; exact .bl b
  | .int i, _, _, _, h, r => by cases h; rw [r.1]; exact .int i
  | .str s, _, _, _, h, r => by cases h; rw [r.1]; exact .str _
  | .tup ds, _, _, _, h, r => by
    obtain ⟨ps, e, z⟩ := map_some h
    obtain ⟨a, vs, h1, h2, h3⟩ := r
    rw [← z, h1]
    exact .tup h2 (RL_dp ds e h3)
  | .lst ds, _, _, _, h, r => by
    obtain ⟨ps, e, z⟩ := map_some h
    obtain ⟨a, vs, h1, h2, h3, _⟩ := r
    rw [← z, h1]
    exact .lst h2.sq (RL_dp ds e h3)
  | .ml ds, _, _, _, h, r => by
    obtain ⟨ps, e, z⟩ := map_some h
    obtain ⟨a, vs, F', h1, h2, h3, _⟩ := r
    rw [← z, h1]
    exact .lst (Evl.sq_of h2) (RL_dp ds e h3)
  | .obj _ _ _, _, _, _, h, _ => by cases h
  | .ref _, _, _, _, h, _ => by cases h
  | .un, _, _, _, h, _ => by cases h
theorem RL_dp {W : Wd} : ∀ (ds : List D) {ps : List PyData} {vs : List V} {G : List Addr}, toPL ds = some ps → RL K W ds vs G → DpAll K W.H vs ps
  | [], _, _, _, h, r => by
    cases h
    rw [r.1]
    exact .nil
  | d :: ds, _, _, _, h, r => by
    obtain ⟨p, e1, h⟩ := bind_some h
    obtain ⟨ps, e2, z⟩ := map_some h
    obtain ⟨v, vs', F1, F2, h1, h2, h3, _⟩ := r
    rw [← z, h1]
    exact .cons (R_dp d e1 h2) (RL_dp ds e2 h3)
end
def eqDB (x y : D) : Option Bool := match atom x, atom y with
  | some u, some v => if scal u v = true then some (decide (u = v)) else none
  | _, _ => (toP x).bind fun p => (toP y).bind fun q => if SeqAt.shaped p = true ∧ SeqAt.shaped q = true then some (PyData.eqv p q) else none
def dEq (x y : D) : Option D := (eqDB x y).map D.bl
def dNe (x y : D) : Option D := (eqDB x y).map fun b => D.bl (!b)
theorem opd_eq {k : Nat} (hr : Room k X.A) : OpD X (compareOp .Eq) dEq := by
  refine ⟨_, op_eq.or (op_eqD hr.units), fun W x y u v G1 G2 ok r1 r2 d hd Q q => ?_⟩
  obtain ⟨b, hb, z⟩ := map_some hd
  subst z
  have alt : ((toP x).bind fun p => (toP y).bind fun q => if SeqAt.shaped p = true ∧ SeqAt.shaped q = true then some (PyData.eqv p q) else none) = some b → rEqD X.K u v W.H Q := fun h => by
    obtain ⟨p, e1, h⟩ := bind_some h
    obtain ⟨p', e2, h⟩ := bind_some h
    by_cases hs : SeqAt.shaped p = true ∧ SeqAt.shaped p' = true
    · rw [if_pos hs] at h
      cases h
      exact ⟨p, p', R_dp x e1 r1, R_dp y e2 r2, hs.1, hs.2, q _ W [] (Ext.refl ok) ⟨rfl, rfl⟩⟩
    · rw [if_neg hs] at h
      cases h
  unfold eqDB at hb
  cases ea : atom x with
  | none => rw [ea] at hb; exact .inr (alt hb)
  | some a =>
    cases ec : atom y with
    | none => rw [ea, ec] at hb; exact .inr (alt hb)
    | some c =>
      rw [ea, ec] at hb
      have hb2 : (if scal a c = true then some (decide (a = c)) else none) = some b := hb
      by_cases hs : scal a c = true
      · rw [if_pos hs] at hb2
        cases hb2
        rw [R_atom ea r1, R_atom ec r2]
        exact .inl ⟨hs, q _ W [] (Ext.refl ok) ⟨rfl, rfl⟩⟩
      · rw [if_neg hs] at hb2
        cases hb2
theorem opd_ne {k : Nat} (hr : Room k X.A) : OpD X (compareOp .NotEq) dNe := by
  refine ⟨_, op_ne.or (op_neD hr.units), fun W x y u v G1 G2 ok r1 r2 d hd Q q => ?_⟩
  obtain ⟨b, hb, z⟩ := map_some hd
  subst z
  have alt : ((toP x).bind fun p => (toP y).bind fun q => if SeqAt.shaped p = true ∧ SeqAt.shaped q = true then some (PyData.eqv p q) else none) = some b → rNeD X.K u v W.H Q := fun h => by
    obtain ⟨p, e1, h⟩ := bind_some h
    obtain ⟨p', e2, h⟩ := bind_some h
    by_cases hs : SeqAt.shaped p = true ∧ SeqAt.shaped p' = true
    · rw [if_pos hs] at h
      cases h
      exact ⟨p, p', R_dp x e1 r1, R_dp y e2 r2, hs.1, hs.2, q _ W [] (Ext.refl ok) ⟨rfl, rfl⟩⟩
    · rw [if_neg hs] at h
      cases h
  unfold eqDB at hb
  cases ea : atom x with
  | none => rw [ea] at hb; exact .inr (alt hb)
  | some a =>
    cases ec : atom y with
    | none => rw [ea, ec] at hb; exact .inr (alt hb)
    | some c =>
      rw [ea, ec] at hb
      have hb2 : (if scal a c = true then some (decide (a = c)) else none) = some b := hb
      by_cases hs : scal a c = true
      · rw [if_pos hs] at hb2
        cases hb2
        rw [R_atom ea r1, R_atom ec r2]
        exact .inl ⟨hs, q _ W [] (Ext.refl ok) ⟨rfl, rfl⟩⟩
      · rw [if_neg hs] at hb2
        cases hb2
/-! ### is None, is a truth -/
def isNonD : D → Bool
  | .non => true
  | _ => false
theorem R_isNon {W : Wd} {d : D} {v : V} {G : List Addr} (r : R K W d v G) : decide (v = .non) = isNonD d := by
  cases d with
  | non => rw [r.1]; exact decide_eq_true rfl
  | bl _ => rw [r.1]; exact decide_eq_false fun z => nomatch z
  | int _ => rw [r.1]; exact decide_eq_false fun z => nomatch z
  | str _ => rw [r.1]; exact decide_eq_false fun z => nomatch z
  | tup _ => obtain ⟨a, vs, rfl, _⟩ := r; exact decide_eq_false fun z => nomatch z
  | lst _ => obtain ⟨a, vs, rfl, _⟩ := r; exact decide_eq_false fun z => nomatch z
  | ml _ => obtain ⟨a, vs, F', rfl, _⟩ := r; exact decide_eq_false fun z => nomatch z
  | obj _ _ _ => obtain ⟨a, dx, vs, F', rfl, _⟩ := r; exact decide_eq_false fun z => nomatch z
  | ref _ => obtain ⟨a, rfl, _⟩ := r; exact decide_eq_false fun z => nomatch z
  | un => exact r.elim
def isDB : D → D → Option Bool
  | x, .non => some (isNonD x)
  | .bl a, .bl b => some (decide (a = b))
  | _, _ => none
def dIs (x y : D) : Option D := (isDB x y).map D.bl
def dIsNot (x y : D) : Option D := (isDB x y).map fun b => D.bl (!b)
end
end Fw
/-! # is, in, slices, built-ins, methods of texts -/
namespace Fw
open PySem PySem.Spec PyProof.Rows L2
open Evl (Ex)
section
variable {X : Cx} {K : PySem.W.Frag}
theorem opd_is_ : OpD X (compareOp .Is) dIs := by
  refine ⟨_, (op_isN (X := X)).or op_isBl, fun W x y u v G1 G2 ok r1 r2 d hd Q q => ?_⟩
  obtain ⟨b, hb, z⟩ := map_some hd
  subst z
  cases y with
  | non =>
    have hb2 : some (isNonD x) = some b := by cases x <;> exact hb
    cases hb2
    refine .inl ⟨r2.1, q _ W [] (Ext.refl ok) ⟨by rw [R_isNon r1], rfl⟩⟩
  | bl c =>
    cases x with
    | bl a =>
      cases hb
      exact .inr ⟨a, c, r1.1, r2.1, q _ W [] (Ext.refl ok) ⟨rfl, rfl⟩⟩
    | _ => cases hb
  | _ => cases x <;> cases hb
theorem opd_isnot : OpD X (compareOp .IsNot) dIsNot := by
  refine ⟨_, (op_notN (X := X)).or op_notBl, fun W x y u v G1 G2 ok r1 r2 d hd Q q => ?_⟩
  obtain ⟨b, hb, z⟩ := map_some hd
  subst z
  cases y with
  | non =>
    have hb2 : some (isNonD x) = some b := by cases x <;> exact hb
    cases hb2
    refine .inl ⟨r2.1, q _ W [] (Ext.refl ok) ⟨by rw [R_isNon r1], rfl⟩⟩
  | bl c =>
    cases x with
    | bl a =>
      cases hb
      exact .inr ⟨a, c, r1.1, r2.1, q _ W [] (Ext.refl ok) ⟨rfl, rfl⟩⟩
    | _ => cases hb
  | _ => cases x <;> cases hb
/-! ### in -/
def atoms : List D → Option (List V)
  | [] => some []
  | d :: ds => (atom d).bind fun u => (atoms ds).map fun us => u :: us
theorem R_atoms {W : Wd} : ∀ {ds : List D} {us vs : List V} {G : List Addr}, atoms ds = some us → RL K W ds vs G → vs = us
  | [], _, _, _, h, r => by
    cases h
    exact r.1
  | d :: ds, _, _, _, h, r => by
    obtain ⟨u, e1, h⟩ := bind_some h
    obtain ⟨us, e2, z⟩ := map_some h
    obtain ⟨v, vs', F1, F2, h1, h2, h3, _⟩ := r
    rw [← z, h1, R_atom e1 h2, R_atoms e2 h3]
theorem flat_atom {d : D} {u : V} (h : atom d = some u) : flatV u = true := by
  cases d <;> first
    | (cases h; rfl)
    | cases h
theorem flat_atoms : ∀ {ds : List D} {us : List V}, atoms ds = some us → us.all flatV = true
  | [], _, h => by
    cases h
    rfl
  | d :: ds, _, h => by
    obtain ⟨u, e1, h⟩ := bind_some h
    obtain ⟨us, e2, z⟩ := map_some h
    rw [← z, List.all_cons, flat_atom e1, flat_atoms e2]
    rfl
/-- the items of a list or a tuple -/
def seqD : D → Option (List D)
  | .lst ds => some ds
  | .ml ds => some ds
  | .tup ds => some ds
  | _ => none
theorem R_seq {W : Wd} {d : D} {ds : List D} {v : V} {G : List Addr} (h : seqD d = some ds) (r : R K W d v G) : ∃ a vs G', v = .ref a ∧ (SqL K W.H a vs ∨ SqT K W.H a vs) ∧ RL K W ds vs G' := by
  cases d with
  | lst es =>
    cases h
    obtain ⟨a, vs, h1, h2, h3, _⟩ := r
    exact ⟨a, vs, _, h1, .inl h2.sq, h3⟩
  | ml es =>
    cases h
    obtain ⟨a, vs, F', h1, h2, h3, _⟩ := r
    exact ⟨a, vs, _, h1, .inl (Evl.sq_of h2), h3⟩
  | tup es =>
    cases h
    obtain ⟨a, vs, h1, h2, h3⟩ := r
    exact ⟨a, vs, _, h1, .inr h2, h3⟩
  | _ => cases h
def inSeq (x y : D) : Option Bool := (seqD y).bind fun ds => (atom x).bind fun u => (atoms ds).map fun us => inV u us
def inDB (x y : D) : Option Bool := match x, y with
  | .str [c], .str z => some (decide (c ∈ z))
  | _, _ => inSeq x y
def dIn (x y : D) : Option D := (inDB x y).map D.bl
def dNotIn (x y : D) : Option D := (inDB x y).map fun b => D.bl (!b)
theorem inSeq_ok {W : Wd} {x y : D} {u v : V} {G1 G2 : List Addr} {b : Bool} (h : inSeq x y = some b) (r1 : R K W x u G1) (r2 : R K W y v G2) :
    ∃ p xs, v = .ref p ∧ (SqL K W.H p xs ∨ SqT K W.H p xs) ∧ flatV u = true ∧ xs.all flatV = true ∧ inV u xs = b := by
  obtain ⟨ds, e1, h⟩ := bind_some h
  obtain ⟨a, e2, h⟩ := bind_some h
  obtain ⟨us, e3, z⟩ := map_some h
  obtain ⟨p, vs, G', h1, h2, h3⟩ := R_seq e1 r2
  have ev := R_atoms e3 h3
  have eu := R_atom e2 r1
  subst ev
  subst eu
  exact ⟨p, vs, h1, h2, flat_atom e2, flat_atoms e3, z⟩
theorem inDB_cases {x y : D} {b : Bool} (h : inDB x y = some b) : (∃ c z, x = .str [c] ∧ y = .str z ∧ decide (c ∈ z) = b) ∨ inSeq x y = some b := by
  unfold inDB at h
  split at h
  · exact .inl ⟨_, _, rfl, rfl, Option.some.inj h⟩
  · exact .inr h
theorem opd_in : OpD X (compareOp .In) dIn := by
  refine ⟨_, (op_in_sign (X := X)).or op_in_seq, fun W x y u v G1 G2 ok r1 r2 d hd Q q => ?_⟩
  obtain ⟨b, hb, z⟩ := map_some hd
  subst z
  rcases inDB_cases hb with ⟨c, z, rfl, rfl, e⟩ | h
  · exact .inl ⟨c, tr z, r1.1, r2.1, q _ W [] (Ext.refl ok) ⟨by rw [← e] <;> rfl, rfl⟩⟩
  · obtain ⟨p, xs, h1, h2, h3, h4, h5⟩ := inSeq_ok h r1 r2
    exact .inr ⟨p, xs, h1, h2, h3, h4, q _ W [] (Ext.refl ok) ⟨by rw [← h5] <;> rfl, rfl⟩⟩
theorem opd_notin : OpD X (compareOp .NotIn) dNotIn := by
  refine ⟨_, (op_notIn_sign (X := X)).or op_notIn_seq, fun W x y u v G1 G2 ok r1 r2 d hd Q q => ?_⟩
  obtain ⟨b, hb, z⟩ := map_some hd
  subst z
  rcases inDB_cases hb with ⟨c, z, rfl, rfl, e⟩ | h
  · exact .inl ⟨c, tr z, r1.1, r2.1, q _ W [] (Ext.refl ok) ⟨by rw [← e] <;> rfl, rfl⟩⟩
  · obtain ⟨p, xs, h1, h2, h3, h4, h5⟩ := inSeq_ok h r1 r2
    exact .inr ⟨p, xs, h1, h2, h3, h4, q _ W [] (Ext.refl ok) ⟨by rw [← h5] <;> rfl, rfl⟩⟩
/-! ### slices -/
abbrev FO := List D → List D → Option (Option Int)
def POQ (X : Cx) (e : Option Expr) (f : FO) : Prop := ∃ to : TO, PO X e to ∧ ∀ (σ : L2.St) (W : Wd) (ρ μ : List D) (F : List Addr), Sta X.K W σ ρ μ F → ∀ o, f ρ μ = some o →
  ∀ Q : Option Int → Hp → Prop, (∀ W', Ext W W' → Q o W'.H) → to σ W.H Q
def oNone : FO := fun _ _ => some none
def oSome (f : FQ) : FO := fun ρ μ => match f ρ μ with
  | some (.int i) => some (some i)
  | _ => none
theorem poq_none : POQ X none oNone := ⟨_, po_none, fun σ W ρ μ F S o ho Q q => by
  cases ho
  exact q W (Ext.refl S.ok)⟩
theorem poq_some {e : Expr} {f : FQ} (h : PQ X e f) : POQ X (some e) (oSome f) := by
  obtain ⟨t1, p1, k1⟩ := h
  refine ⟨_, po_some p1, fun σ W ρ μ F S o ho Q q => ?_⟩
  unfold oSome at ho
  cases e1 : f ρ μ with
  | none => rw [e1] at ho; cases ho
  | some d =>
    rw [e1] at ho
    refine k1 σ W ρ μ F S d e1 _ fun v W1 G1 x1 r1 => ?_
    cases d with
    | int i =>
      cases ho
      exact ⟨i, r1.1, q W1 x1⟩
    | _ => cases ho
def cut {α : Type} (xs : List α) (lo hi : Option Int) : List α := (xs.drop (HT.sIx xs.length 0 lo)).take (HT.sIx xs.length xs.length hi - HT.sIx xs.length 0 lo)
def dSl (x : D) (lo hi : Option Int) : Option D := match x with
  | .str s => if s.length ≤ LIM then some (.str (cut s lo hi)) else none
  | .tup ds => if dataL ds = true then some (.tup (cut ds lo hi)) else none
  | x => (asL x).map fun ds => .lst (cut ds lo hi)
def qSl (f : FQ) (lo hi : FO) : FQ := fun ρ μ => (f ρ μ).bind fun x => (lo ρ μ).bind fun l => (hi ρ μ).bind fun h => dSl x l h
theorem RL_cut {W : Wd} {ds : List D} {vs : List V} {lo hi : Option Int} (h : RL K W ds vs []) : RL K W (cut ds lo hi) (cutV vs lo hi) [] := by
  have hl := RL_len h
  unfold cut cutV
  rw [hl]
  exact RL_take (RL_drop h)
theorem cut_all {α : Type} {xs : List α} {lo hi : Option Int} (h : HT.sIx xs.length 0 lo = 0 ∧ HT.sIx xs.length xs.length hi = xs.length) : cut xs lo hi = xs := by
  unfold cut
  rw [h.1, h.2, List.drop_zero, Nat.sub_zero, List.take_length]
theorem pq_sl {e : Expr} {lo hi : Option Expr} {f : FQ} {l h : FO} {pos p2 : Pos} (he : PQ X e f) (hl : POQ X lo l) (hh : POQ X hi h) : PQ X (.Subscript e (.Slice lo hi none p2) pos) (qSl f l h) := by
  obtain ⟨t1, p1, k1⟩ := he
  obtain ⟨t2, p2', k2⟩ := hl
  obtain ⟨t3, p3, k3⟩ := hh
  refine ⟨_, pe_slice (sl_list.or (sl_tupA.or sl_str)) p1 p2' p3, fun σ W ρ μ F S d hd Q q => ?_⟩
  obtain ⟨x, e1, hd⟩ := bind_some hd
  obtain ⟨li, e2, hd⟩ := bind_some hd
  obtain ⟨hi', e3, hd⟩ := bind_some hd
  refine k1 σ W ρ μ F S x e1 _ fun v W1 G1 x1 r1 => ?_
  refine k2 σ W1 ρ μ F (S.ext x1) li e2 _ fun W2 x2 => ?_
  refine k3 σ W2 ρ μ F ((S.ext x1).ext x2) hi' e3 _ fun W3 x3 => ?_
  have r3 := R_ext (x2.trans x3) x r1
  have x13 := (x1.trans x2).trans x3
  have viaL : ((asL x).map fun ds => D.lst (cut ds li hi')) = some d → rSlL X.K v li hi' W3.H Q := fun hd => by
    obtain ⟨ds, e4, z⟩ := map_some hd
    subst z
    obtain ⟨a, vs, rfl, h2, h3⟩ := R_asL e4 r3
    exact ⟨a, vs, rfl, h2, fun p hp => q _ (W3.frz p (cutV vs li hi')) [] (x13.trans (Ext.frz x3.ok hp)) (R_newL x3.ok hp (RL_cut h3))⟩
  cases x with
  | str s =>
    have hd2 : (if s.length ≤ LIM then some (D.str (cut s li hi')) else none) = some d := hd
    by_cases hl : s.length ≤ LIM
    · rw [if_pos hl] at hd2
      cases hd2
      refine .inr (.inr ⟨tr s, r3.1, by rw [tr_length]; exact lim_ok hl, q _ W3 [] x13 ⟨?_, rfl⟩⟩)
      show V.str (cutS (tr s) li hi') = V.str (tr (cut s li hi'))
      unfold cutS cut
      rw [tr_length]
    · rw [if_neg hl] at hd2
      cases hd2
  | tup ds =>
    have hd2 : (if dataL ds = true then some (D.tup (cut ds li hi')) else none) = some d := hd
    by_cases hl : dataL ds = true
    · rw [if_pos hl] at hd2
      cases hd2
      obtain ⟨a, vs, rfl, h2, h3⟩ := r3
      have z := RL_data ds hl h3
      subst z
      have ln := RL_len h3
      refine .inr (.inl ⟨a, vs, rfl, h2, fun hw => ?_, fun hw p hp => ?_⟩)
      · rw [ln] at hw
        rw [cut_all hw] at q
        exact q _ W3 [] x13 ⟨a, vs, rfl, h2, h3⟩
      · exact q _ (W3.put p (.tup (cutV vs li hi'))) [] (x13.trans (Ext.put x3.ok hp)) (R_newT x3.ok hp (RL_cut h3))
    · rw [if_neg hl] at hd2
      cases hd2
  | lst ds => exact .inl (viaL hd)
  | ml ds => exact .inl (viaL hd)
  | _ => cases hd
/-! ### built-ins -/
def CallD (X : Cx) (f : Value) (o : List D → Option D) : Prop := ∃ r : List V → Hp → VK → Prop, CallR X f r ∧ ∀ (W : Wd) (ds : List D) (vs : List V) (G : List Addr), WOk W → RL X.K W ds vs G → ∀ d, o ds = some d →
  ∀ Q : VK, (∀ v W' G, Ext W W' → R X.K W' d v G → Q v W'.H) → r vs W.H Q
def qCall (o : List D → Option D) (k : FA) : FQ := fun ρ μ => (k ρ μ).bind o
theorem runC {t : TA} {k : FA} {o : List D → Option D} {r : List V → Hp → VK → Prop}
    (k1 : ∀ (σ : L2.St) (W : Wd) (ρ μ : List D) (F : List Addr), Sta X.K W σ ρ μ F → ∀ ds, k ρ μ = some ds → ∀ Q : List V → Hp → Prop, (∀ vs W' G, Ext W W' → RL X.K W' ds vs G → Q vs W'.H) → t σ W.H Q)
    (k2 : ∀ (W : Wd) (ds : List D) (vs : List V) (G : List Addr), WOk W → RL X.K W ds vs G → ∀ d, o ds = some d → ∀ Q : VK, (∀ v W' G, Ext W W' → R X.K W' d v G → Q v W'.H) → r vs W.H Q)
    (σ : L2.St) (W : Wd) (ρ μ : List D) (F : List Addr) (S : Sta X.K W σ ρ μ F) (d : D) (hd : qCall o k ρ μ = some d) (Q : VK) (q : ∀ v W' G, Ext W W' → R X.K W' d v G → Q v W'.H) : tCB r t σ W.H Q := by
  obtain ⟨ds, e1, hd⟩ := bind_some hd
  refine k1 σ W ρ μ F S ds e1 _ fun vs W1 G1 x1 r1 => ?_
  exact k2 W1 ds vs G1 x1.ok r1 d hd _ fun v W2 G2 x2 r2 => q v W2 G2 (x1.trans x2) r2
theorem pq_callB {id : String} {x : Str} {p pos : Pos} {e : Expr} {es : List Expr} {k : FA} {o : List D → Option D} (h : CallD X (.builtin id) o) (hm : X.mg x = none) (hv : bootBuiltins x = some (.builtin id)) (ha : PAQ X (e :: es) k) (hg : Gl X x := by rfl)
    (hn : x ≠ "__name__" := by decide) (hdb : (x == ("__debug__" : Str)) = false := by decide) (he : starEach (e :: es) X.env = (false, eval e X.env) :: starEach es X.env := by rfl) (hpl : (backTo pos (starEach es X.env)).any (·.1) = false := by rfl) : PQ X (.Call (.Name x p) (e :: es) [] pos) (qCall o k) := by
  obtain ⟨r, hr, k2⟩ := h
  obtain ⟨t, pt, k1⟩ := ha
  exact ⟨_, pe_callB hr hg hm hv pt hn hdb he hpl, runC k1 k2⟩
theorem pq_callTy {T : String} {x : Str} {p pos : Pos} {e : Expr} {es : List Expr} {k : FA} {o : List D → Option D} (h : CallD X (.type T) o) (hm : X.mg x = none) (hv : bootBuiltins x = some (.type T)) (ha : PAQ X (e :: es) k) (hg : Gl X x := by rfl)
    (hn : x ≠ "__name__" := by decide) (hdb : (x == ("__debug__" : Str)) = false := by decide) (he : starEach (e :: es) X.env = (false, eval e X.env) :: starEach es X.env := by rfl) (hpl : (backTo pos (starEach es X.env)).any (·.1) = false := by rfl) : PQ X (.Call (.Name x p) (e :: es) [] pos) (qCall o k) := by
  obtain ⟨r, hr, k2⟩ := h
  obtain ⟨t, pt, k1⟩ := ha
  exact ⟨_, pe_callTy hr hg hm hv pt hn hdb he hpl, runC k1 k2⟩
/-- one argument -/
def o1 (g : D → Option D) : List D → Option D
  | [d] => g d
  | _ => none
def o2 (g : D → D → Option D) : List D → Option D
  | [d, e] => g d e
  | _ => none
theorem RL_one {W : Wd} {d : D} {vs : List V} {G : List Addr} (h : RL K W [d] vs G) : ∃ v, vs = [v] ∧ R K W d v G := by
  obtain ⟨v, vs', F1, F2, h1, h2, h3, h4⟩ := h
  obtain ⟨e1, e2⟩ := h3
  rw [h1, e1]
  rw [e2, List.append_nil] at h4
  exact ⟨v, rfl, by rw [h4]; exact h2⟩
theorem RL_two {W : Wd} {d e : D} {vs : List V} {G : List Addr} (h : RL K W [d, e] vs G) : ∃ u v G1 G2, vs = [u, v] ∧ R K W d u G1 ∧ R K W e v G2 := by
  obtain ⟨u, vs', F1, F2, h1, h2, h3, h4⟩ := h
  obtain ⟨v, e1, h5⟩ := RL_one h3
  exact ⟨u, v, F1, F2, by rw [h1, e1], h2, h5⟩
def dLen : D → Option D
  | .str s => if s.length ≤ LIM then some (.int s.length) else none
  | .tup ds => some (.int ds.length)
  | .lst ds => some (.int ds.length)
  | .ml ds => some (.int ds.length)
  | _ => none
theorem cd_len : CallD X (.builtin "len") (o1 dLen) := by
  refine ⟨_, call_len, fun W ds vs G ok r d hd Q q => ?_⟩
  match ds, hd with
  | [x], hd =>
    obtain ⟨v, rfl, r1⟩ := RL_one r
    have hd : dLen x = some d := hd
    cases x with
    | str s =>
      have hd2 : (if s.length ≤ LIM then some (D.int s.length) else none) = some d := hd
      by_cases hl : s.length ≤ LIM
      · rw [if_pos hl] at hd2
        cases hd2
        obtain ⟨rfl, _⟩ := r1
        exact ⟨_, s.length, rfl, ⟨by rw [tr_length]; exact lim_ok hl, (tr_length s).symm⟩, q _ W [] (Ext.refl ok) ⟨rfl, rfl⟩⟩
      · rw [if_neg hl] at hd2
        cases hd2
    | tup es =>
      cases hd
      obtain ⟨a, ws, rfl, h2, h3⟩ := r1
      exact ⟨_, es.length, rfl, .inr ⟨ws, h2, (RL_len h3).symm⟩, q _ W [] (Ext.refl ok) ⟨rfl, rfl⟩⟩
    | lst es =>
      cases hd
      obtain ⟨a, ws, rfl, h2, h3, _⟩ := r1
      exact ⟨_, es.length, rfl, .inl ⟨ws, h2.sq, (RL_len h3).symm⟩, q _ W [] (Ext.refl ok) ⟨rfl, rfl⟩⟩
    | ml es =>
      cases hd
      obtain ⟨a, ws, F', rfl, h2, h3, _⟩ := r1
      exact ⟨_, es.length, rfl, .inl ⟨ws, Evl.sq_of h2, (RL_len h3).symm⟩, q _ W [] (Ext.refl ok) ⟨rfl, rfl⟩⟩
    | _ => cases hd
def boolsD : List D → Option (List Bool)
  | [] => some []
  | .bl b :: ds => (boolsD ds).map fun bs => b :: bs
  | _ => none
theorem R_bools {W : Wd} : ∀ {ds : List D} {bs : List Bool} {vs : List V} {G : List Addr}, boolsD ds = some bs → RL K W ds vs G → vs = bs.map V.bl
  | [], _, _, _, h, r => by
    cases h
    exact r.1
  | d :: ds, bs, _, _, h, r => by
    obtain ⟨v, vs', F1, F2, h1, h2, h3, _⟩ := r
    cases d with
    | bl b =>
      obtain ⟨us, e2, z⟩ := map_some (show (boolsD ds).map (fun bs => b :: bs) = some bs from h)
      rw [← z, h1, h2.1, R_bools e2 h3]
      rfl
    | _ => cases h
def intsD : List D → Option (List Int)
  | [] => some []
  | .int b :: ds => (intsD ds).map fun bs => b :: bs
  | _ => none
theorem R_ints {W : Wd} : ∀ {ds : List D} {bs : List Int} {vs : List V} {G : List Addr}, intsD ds = some bs → RL K W ds vs G → vs = bs.map V.int
  | [], _, _, _, h, r => by
    cases h
    exact r.1
  | d :: ds, bs, _, _, h, r => by
    obtain ⟨v, vs', F1, F2, h1, h2, h3, _⟩ := r
    cases d with
    | int b =>
      obtain ⟨us, e2, z⟩ := map_some (show (intsD ds).map (fun bs => b :: bs) = some bs from h)
      rw [← z, h1, h2.1, R_ints e2 h3]
      rfl
    | _ => cases h
def strsD : List D → Option (List (List Nat))
  | [] => some []
  | .str b :: ds => (strsD ds).map fun bs => b :: bs
  | _ => none
theorem R_strs {W : Wd} : ∀ {ds : List D} {bs : List (List Nat)} {vs : List V} {G : List Addr}, strsD ds = some bs → RL K W ds vs G → vs = (bs.map tr).map V.str
  | [], _, _, _, h, r => by
    cases h
    exact r.1
  | d :: ds, bs, _, _, h, r => by
    obtain ⟨v, vs', F1, F2, h1, h2, h3, _⟩ := r
    cases d with
    | str b =>
      obtain ⟨us, e2, z⟩ := map_some (show (strsD ds).map (fun bs => b :: bs) = some bs from h)
      rw [← z, h1, h2.1, R_strs e2 h3]
      rfl
    | _ => cases h
theorem cd_all (hc : X.calm = true) : CallD X (.builtin "all") (o1 fun x => (asL x).bind fun ds => (boolsD ds).map fun bs => .bl (bs.all id)) := by
  refine ⟨_, cr_all hc, fun W ds vs G ok r d hd Q q => ?_⟩
  match ds, hd with
  | [x], hd =>
    obtain ⟨v, rfl, r1⟩ := RL_one r
    obtain ⟨es, e1, hd⟩ := bind_some (show (asL x).bind (fun ds => (boolsD ds).map fun bs => D.bl (bs.all id)) = some d from hd)
    obtain ⟨bs, e2, z⟩ := map_some hd
    obtain ⟨a, ws, rfl, h2, h3⟩ := R_asL e1 r1
    rw [R_bools e2 h3] at h2
    subst z
    exact ⟨a, bs, rfl, h2, q _ W [] (Ext.refl ok) ⟨rfl, rfl⟩⟩
theorem cd_any (hc : X.calm = true) : CallD X (.builtin "any") (o1 fun x => (asL x).bind fun ds => (boolsD ds).map fun bs => .bl (bs.any id)) := by
  refine ⟨_, cr_any hc, fun W ds vs G ok r d hd Q q => ?_⟩
  match ds, hd with
  | [x], hd =>
    obtain ⟨v, rfl, r1⟩ := RL_one r
    obtain ⟨es, e1, hd⟩ := bind_some (show (asL x).bind (fun ds => (boolsD ds).map fun bs => D.bl (bs.any id)) = some d from hd)
    obtain ⟨bs, e2, z⟩ := map_some hd
    obtain ⟨a, ws, rfl, h2, h3⟩ := R_asL e1 r1
    rw [R_bools e2 h3] at h2
    subst z
    exact ⟨a, bs, rfl, h2, q _ W [] (Ext.refl ok) ⟨rfl, rfl⟩⟩
theorem cd_sum (hc : X.calm = true) : CallD X (.builtin "sum") (o1 fun x => (asL x).bind fun ds => (intsD ds).map fun bs => .int bs.sum) := by
  refine ⟨_, cr_sum hc, fun W ds vs G ok r d hd Q q => ?_⟩
  match ds, hd with
  | [x], hd =>
    obtain ⟨v, rfl, r1⟩ := RL_one r
    obtain ⟨es, e1, hd⟩ := bind_some (show (asL x).bind (fun ds => (intsD ds).map fun bs => D.int bs.sum) = some d from hd)
    obtain ⟨bs, e2, z⟩ := map_some hd
    obtain ⟨a, ws, rfl, h2, h3⟩ := R_asL e1 r1
    rw [R_ints e2 h3] at h2
    subst z
    exact ⟨a, bs, rfl, h2, q _ W [] (Ext.refl ok) ⟨rfl, rfl⟩⟩
/-- tuple(a list | a tuple) -/
def dTuple : D → Option D
  | .tup ds => some (.tup ds)
  | x => (asL x).map .tup
theorem cd_tuple : CallD X (.type "tuple") (o1 dTuple) := by
  refine ⟨_, call_tuple_of, fun W ds vs G ok r d hd Q q => ?_⟩
  match ds, hd with
  | [x], hd =>
    obtain ⟨v, rfl, r1⟩ := RL_one r
    have viaL : (asL x).map D.tup = some d → ∃ p ys, [v] = [.ref p] ∧ ((SqL X.K W.H p ys ∧ ∀ l, W.H l = none → Q (.ref l) (upd W.H l (.tup ys))) ∨ (SqT X.K W.H p ys ∧ Q (.ref p) W.H)) := fun hd => by
      obtain ⟨es, e1, z⟩ := map_some hd
      subst z
      obtain ⟨a, ws, rfl, h2, h3⟩ := R_asL e1 r1
      exact ⟨a, ws, rfl, .inl ⟨h2, fun l hl => q _ (W.put l (.tup ws)) [] (Ext.put ok hl) (R_newT ok hl h3)⟩⟩
    cases x with
    | tup es =>
      cases hd
      obtain ⟨a, ws, rfl, h2, h3⟩ := r1
      exact ⟨a, ws, rfl, .inr ⟨h2, q _ W G (Ext.refl ok) ⟨a, ws, rfl, h2, h3⟩⟩⟩
    | _ => exact viaL hd
theorem cd_str : CallD X (.type "str") (o1 fun x => match x with | .int i => if i.natAbs.log2 < 1920 then some (.str (ofS (toString i))) else none | _ => none) := by
  refine ⟨_, call_str_int, fun W ds vs G ok r d hd Q q => ?_⟩
  match ds, hd with
  | [x], hd =>
    obtain ⟨v, rfl, r1⟩ := RL_one r
    cases x with
    | int i =>
      have hd2 : (if i.natAbs.log2 < 1920 then some (D.str (ofS (toString i))) else none) = some d := hd
      by_cases hl : i.natAbs.log2 < 1920
      · rw [if_pos hl] at hd2
        cases hd2
        obtain ⟨rfl, _⟩ := r1
        exact ⟨i, rfl, hl, q _ W [] (Ext.refl ok) ⟨congrArg V.str (tr_ofS _), rfl⟩⟩
      · rw [if_neg hl] at hd2
        cases hd2
    | _ => cases hd
def dDivmod : D → D → Option D
  | .int i, .int j => if 0 < j ∧ j < 1073741824 then some (.tup [.int (i / j), .int (i % j)]) else none
  | _, _ => none
theorem cd_divmod : CallD X (.builtin "divmod") (o2 dDivmod) := by
  refine ⟨_, call_divmod, fun W ds vs G ok r d hd Q q => ?_⟩
  match ds, hd with
  | [x, y], hd =>
    obtain ⟨u, v, G1, G2, rfl, r1, r2⟩ := RL_two r
    cases x with
    | int i =>
      cases y with
      | int j =>
        have hd2 : (if 0 < j ∧ j < 1073741824 then some (D.tup [.int (i / j), .int (i % j)]) else none) = some d := hd
        by_cases hl : 0 < j ∧ j < 1073741824
        · rw [if_pos hl] at hd2
          cases hd2
          obtain ⟨rfl, _⟩ := r1
          obtain ⟨rfl, _⟩ := r2
          exact ⟨i, j, rfl, hl, fun p hp => q _ (W.put p (.tup [.int (i / j), .int (i % j)])) [] (Ext.put ok hp) (R_newT ok hp ⟨_, _, [], [], rfl, ⟨rfl, rfl⟩, ⟨_, _, [], [], rfl, ⟨rfl, rfl⟩, ⟨rfl, rfl⟩, rfl⟩, rfl⟩)⟩
        · rw [if_neg hl] at hd2
          cases hd2
      | _ => cases hd
    | _ => cases y <;> cases hd
theorem cd_min (hc : X.calm = true) : CallD X (.builtin "min") (o2 fun x y => match x, y with | .int i, .int j => some (.int (if j < i then j else i)) | _, _ => none) := by
  refine ⟨_, call_min2 hc, fun W ds vs G ok r d hd Q q => ?_⟩
  match ds, hd with
  | [x, y], hd =>
    obtain ⟨u, v, G1, G2, rfl, r1, r2⟩ := RL_two r
    cases x with
    | int i =>
      cases y with
      | int j =>
        cases hd
        obtain ⟨rfl, _⟩ := r1
        obtain ⟨rfl, _⟩ := r2
        exact ⟨i, j, rfl, q _ W [] (Ext.refl ok) ⟨rfl, rfl⟩⟩
      | _ => cases hd
    | _ => cases y <;> cases hd
theorem cd_max (hc : X.calm = true) : CallD X (.builtin "max") (o2 fun x y => match x, y with | .int i, .int j => some (.int (if j > i then j else i)) | _, _ => none) := by
  refine ⟨_, call_max2 hc, fun W ds vs G ok r d hd Q q => ?_⟩
  match ds, hd with
  | [x, y], hd =>
    obtain ⟨u, v, G1, G2, rfl, r1, r2⟩ := RL_two r
    cases x with
    | int i =>
      cases y with
      | int j =>
        cases hd
        obtain ⟨rfl, _⟩ := r1
        obtain ⟨rfl, _⟩ := r2
        exact ⟨i, j, rfl, q _ W [] (Ext.refl ok) ⟨rfl, rfl⟩⟩
      | _ => cases hd
    | _ => cases y <;> cases hd
/-! ### isinstance of a built-in class -/
def tyN : D → Option String
  | .non => some "NoneType"
  | .bl _ => some "bool"
  | .int _ => some "int"
  | .str _ => some "str"
  | .lst _ => some "list"
  | .ml _ => some "list"
  | .tup _ => some "tuple"
  | _ => none
theorem R_ty {W : Wd} {d : D} {n : String} {v : V} {G : List Addr} (h : tyN d = some n) (r : R K W d v G) : TyX K W.H v (.type n) := by
  cases d with
  | non => cases h; rw [r.1]; exact .base .non
  | bl b => cases h; rw [r.1]; exact .base (.bl b)
  | int i => cases h; rw [r.1]; exact .base (.int i)
  | str s => cases h; rw [r.1]; exact .base (.str _)
  | lst ds =>
    cases h
    obtain ⟨a, vs, rfl, h2, _⟩ := r
    rcases h2.sq (K := K) with (h2 | ⟨o, h2⟩) | ⟨o, its, n, h2, h3, _⟩
    · exact .base (.lst h2)
    · exact .base (.frz h2)
    · exact .kList h2 h3
  | ml ds =>
    cases h
    obtain ⟨a, vs, F', rfl, h2, _⟩ := r
    exact .base (.lst h2)
  | tup ds =>
    cases h
    obtain ⟨a, vs, rfl, h2, _⟩ := r
    rcases h2 with (h2 | ⟨o, h2⟩) | ⟨o, its, n, h2, h3, _⟩
    · exact .base (.tup h2)
    · exact .fTuple h2
    · exact .kTuple h2 h3
  | _ => cases h
/-- a built-in class by its name in a call -/
def qIsi (T : String) (f : FQ) : FQ := fun ρ μ => (f ρ μ).bind fun d => (tyN d).bind fun n => (kitB n T).map D.bl
theorem pq_isi {T : String} {x : Str} {px p pos : Pos} {e : Expr} {f : FQ} (he : PQ X e f) (hmi : X.mg "isinstance" = none) (hmx : X.mg x = none) (hv : bootBuiltins x = some (.type T)) (hgi : Gl X "isinstance" := by rfl) (hg : Gl X x := by rfl)
    (hvi : bootBuiltins "isinstance" = some (.builtin "isinstance") := by decide +kernel) (hn : x ≠ "__name__" := by decide) (hd : (x == ("__debug__" : Str)) = false := by decide)
    (hs1 : starEach [e, .Name x px] X.env = (false, eval e X.env) :: starEach [.Name x px] X.env := by rfl) (hs2 : starEach [.Name x px] X.env = (false, eval (.Name x px) X.env) :: starEach [] X.env := by rfl) (hpl : (backTo pos (starEach [.Name x px] X.env)).any (·.1) = false := by rfl) :
    PQ X (.Call (.Name "isinstance" p) [e, .Name x px] [] pos) (qIsi T f) := by
  obtain ⟨t, pt, k1⟩ := he
  refine ⟨_, pe_callB call_isi hgi hmi hvi (pa_cons pt (pa_cons (pe_bltn (v := .ty T) hg hmx hv rfl hn hd) pa_nil hs2) hs1) (by decide) (by decide) hs1 hpl, fun σ W ρ μ F S d hd Q q => ?_⟩
  obtain ⟨x', e1, hd⟩ := bind_some hd
  obtain ⟨n, e2, hd⟩ := bind_some hd
  obtain ⟨b, e3, z⟩ := map_some hd
  subst z
  refine k1 σ W ρ μ F S x' e1 _ fun v W1 G1 x1 r1 => ?_
  exact ⟨v, .ty T, .type n, .type T, b, rfl, .ty T, R_ty e2 r1, kit_ty e3, q _ W1 [] x1 ⟨rfl, rfl⟩⟩
end
end Fw
/-! # what is walked, targets, comprehensions, calls of quiet defs, methods of texts -/
namespace Fw
open PySem PySem.Spec PyProof.Rows L2
open Evl (Ex)
/-- J yields ds, one by one, in every world that is Rel to W0 -/
structure ItD (K : PySem.W.Frag) (J : It) (W0 : Wd) (ds : List D) (Rel : Wd → Wd → Prop) : Prop where
  go : ∀ i W, Rel W0 W → i < ds.length → J.go i W.H
  st : ∀ i W, Rel W0 W → ds.length ≤ i → J.stop i W.H
  yl : ∀ i W x H', Rel W0 W → WOk W → i < ds.length → J.yld i W.H x H' → ∃ W' d, W'.H = H' ∧ ds[i]? = some d ∧ Ext W W' ∧ R K W' d x []
/-- walked while nothing changes; while what stands still stays -/
def PIQ (X : Cx) (tg e : Expr) (f : FA) : Prop := ∃ wi : TI, PI X tg e wi ∧ ∀ (σ : L2.St) (W : Wd) (ρ μ : List D) (F : List Addr), Sta X.K W σ ρ μ F → ∀ ds, f ρ μ = some ds →
  ∀ Q : It → Hp → Prop, (∀ J W', Ext W W' → ItD X.K J W' ds Ext → Q J W'.H) → wi σ W.H Q
def PIF (X : Cx) (tg e : Expr) (f : FA) : Prop := ∃ wi : TI, PI X tg e wi ∧ ∀ (σ : L2.St) (W : Wd) (ρ μ : List D) (F : List Addr), Sta X.K W σ ρ μ F → ∀ ds, f ρ μ = some ds →
  ∀ Q : It → Hp → Prop, (∀ J W', Ext W W' → ItD X.K J W' ds Lt → Q J W'.H) → wi σ W.H Q
theorem PIF.piq {X : Cx} {tg e : Expr} {f : FA} (h : PIF X tg e f) : PIQ X tg e f := by
  obtain ⟨wi, p, k⟩ := h
  exact ⟨wi, p, fun σ W ρ μ F S ds hd Q q => k σ W ρ μ F S ds hd Q fun J W' x it => q J W' x ⟨fun i W2 r => it.go i W2 r.lt, fun i W2 r => it.st i W2 r.lt, fun i W2 y H' r => it.yl i W2 y H' r.lt⟩⟩
/-! ### lists, tuples, texts -/
def iAny (K : PySem.W.Frag) (tl : TE) : TI := fun σ H Q => tl σ H fun x H1 => (∃ a xs, x = .ref a ∧ SqL K H1 a xs ∧ Q (Itl K a) H1) ∨ (∃ a xs, x = .ref a ∧ SqT K H1 a xs ∧ Q (Itt K a) H1) ∨ (∃ z, x = .str z ∧ Q (Its z) H1)
theorem pi_any {X : Cx} {tg l : Expr} {tl : TE} (hl : PE X l tl) : PI X tg l (iAny X.K tl) := by
  refine ⟨fun pins s σ H Rk I h => thn (hl.run pins s σ H _ I h) ?_⟩
  rintro v s1 ⟨x, H1, I1, r1, ⟨a, xs, rfl, hq, q⟩ | ⟨a, xs, rfl, hq, q⟩ | ⟨z, rfl, q⟩⟩
  · cases r1
    obtain ⟨its, rv, pl, hz⟩ := I1.list hq
    exact wpAny_pyIter_list pl.isList (pi_one (tk := s1.toks) I1 _ (turn_list a _) ⟨_, Heap.get?_push_size _ rfl, rfl, rfl⟩ q)
  · cases r1
    obtain ⟨its, rv, pl, hz⟩ := I1.tuple hq
    exact wpAny_pyIter_tuple (show s1.heap.IsTuple a its.toArray from pl) (pi_one (tk := s1.toks) I1 _ (turn_tuple a _) ⟨_, Heap.get?_push_size _ rfl, rfl, rfl⟩ q)
  · obtain ⟨t, rfl⟩ := r1
    cases ha : z.cps.all (· < 128)
    · exact wpAny_pyIter_wide ha (pi_one (tk := s1.toks) I1 _ (turn_str _ z t "str_iterator" (.inr rfl)) ⟨_, Heap.get?_push_size _ rfl, rfl, rfl⟩ q)
    · exact wpAny_pyIter_ascii ha (pi_one (tk := s1.toks) I1 _ (turn_str _ z t "str_ascii_iterator" (.inl rfl)) ⟨_, Heap.get?_push_size _ rfl, rfl, rfl⟩ q)
section
variable {K : PySem.W.Frag} {W0 : Wd}
theorem it_list {Rel : Wd → Wd → Prop} {a : Addr} {vs : List V} {ds : List D} (hs : ∀ W, Rel W0 W → SqL K W.H a vs) (hr : ∀ W, Rel W0 W → RL K W ds vs []) : ItD K (Itl K a) W0 ds Rel where
  go := fun i W r hi => by
    have hl := RL_len (hr W r)
    exact ⟨vs, vs[i]'(by omega), hs W r, by simp [hl, hi]⟩
  st := fun i W r hi => ⟨vs, hs W r, by rw [RL_len (hr W r)]; exact hi⟩
  yl := fun i W x H' r ok hi y => by
    obtain ⟨e, y⟩ := y
    have y1 := y vs (hs W r)
    obtain ⟨v, G, q1, q2, q3⟩ := RL_get (hr W r) (List.getElem?_eq_getElem hi)
    rw [y1] at q1
    cases q1
    have z : G = [] := List.eq_nil_iff_forall_not_mem.mpr fun b hb => by
      have := q3 b hb
      cases this
    subst z
    exact ⟨W, _, e.symm, List.getElem?_eq_getElem hi, Ext.refl ok, q2⟩
theorem it_tup {Rel : Wd → Wd → Prop} {a : Addr} {vs : List V} {ds : List D} (hs : ∀ W, Rel W0 W → SqT K W.H a vs) (hr : ∀ W, Rel W0 W → RL K W ds vs []) : ItD K (Itt K a) W0 ds Rel where
  go := fun i W r hi => by
    have hl := RL_len (hr W r)
    exact ⟨vs, vs[i]'(by omega), hs W r, by simp [hl, hi]⟩
  st := fun i W r hi => ⟨vs, hs W r, by rw [RL_len (hr W r)]; exact hi⟩
  yl := fun i W x H' r ok hi y => by
    obtain ⟨e, y⟩ := y
    have y1 := y vs (hs W r)
    obtain ⟨v, G, q1, q2, q3⟩ := RL_get (hr W r) (List.getElem?_eq_getElem hi)
    rw [y1] at q1
    cases q1
    have z : G = [] := List.eq_nil_iff_forall_not_mem.mpr fun b hb => by
      have := q3 b hb
      cases this
    subst z
    exact ⟨W, _, e.symm, List.getElem?_eq_getElem hi, Ext.refl ok, q2⟩
theorem it_str {Rel : Wd → Wd → Prop} {z : List Nat} : ItD K (Its (tr z)) W0 (z.map fun c => .str [c]) Rel where
  go := fun i W r hi => by
    rw [List.length_map] at hi
    show i < z.toArray.size
    rw [List.size_toArray]
    exact hi
  st := fun i W r hi => by
    rw [List.length_map] at hi
    show z.toArray.size ≤ i
    rw [List.size_toArray]
    exact hi
  yl := fun i W x H' r ok hi y => by
    rw [List.length_map] at hi
    obtain ⟨e, c, h1, rfl⟩ := y
    have h2 : z.toArray[i]? = some c := h1
    rw [List.getElem?_toArray] at h2
    exact ⟨W, .str [c], e.symm, by rw [List.getElem?_map, h2]; rfl, Ext.refl ok, rfl, rfl⟩
end
/-- the items of what stands still | of any such thing -/
def itemsF : D → Option (List D)
  | .lst ds => some ds
  | .tup ds => if dataL ds = true then some ds else none
  | .str s => some (s.map fun c => .str [c])
  | _ => none
def itemsQ : D → Option (List D)
  | .ml ds => if dataL ds = true then some ds else none
  | d => itemsF d
def aF (f : FQ) : FA := fun ρ μ => (f ρ μ).bind itemsF
def aQ (f : FQ) : FA := fun ρ μ => (f ρ μ).bind itemsQ
section
variable {X : Cx} {tg e : Expr} {f : FQ}
theorem items_run {Rel : Wd → Wd → Prop} (hR : ∀ {W W' : Wd}, Rel W W' → Lt W W') {W : Wd} {d : D} {ds : List D} {v : V} {G : List Addr} (hd : itemsF d = some ds) (r : R X.K W d v G) (Q : It → Hp → Prop) (q : ∀ J, ItD X.K J W ds Rel → Q J W.H) :
    (∃ a xs, v = .ref a ∧ SqL X.K W.H a xs ∧ Q (Itl X.K a) W.H) ∨ (∃ a xs, v = .ref a ∧ SqT X.K W.H a xs ∧ Q (Itt X.K a) W.H) ∨ (∃ z, v = .str z ∧ Q (Its z) W.H) := by
  cases d with
  | lst es =>
    cases hd
    obtain ⟨a, vs, rfl, h2, h3, _⟩ := r
    exact .inl ⟨a, vs, rfl, h2.sq, q _ (it_list (fun W2 r2 => (h2.lt (hR r2)).sq) fun W2 r2 => RL_lt (hR r2) _ h3)⟩
  | tup es =>
    have hd2 : (if dataL es = true then some es else none) = some ds := hd
    by_cases hl : dataL es = true
    · rw [if_pos hl] at hd2
      cases hd2
      obtain ⟨a, vs, rfl, h2, h3⟩ := r
      have z := RL_data ds hl h3
      subst z
      exact .inr (.inl ⟨a, vs, rfl, h2, q _ (it_tup (fun W2 r2 => (hR r2).sqT h2) fun W2 r2 => RL_lt (hR r2) _ h3)⟩)
    · rw [if_neg hl] at hd2
      cases hd2
  | str s =>
    cases hd
    obtain ⟨rfl, _⟩ := r
    exact .inr (.inr ⟨_, rfl, q _ it_str⟩)
  | _ => cases hd
theorem pif_any (h : PQ X e f) : PIF X tg e (aF f) := by
  obtain ⟨t1, p1, k1⟩ := h
  refine ⟨_, pi_any p1, fun σ W ρ μ F S ds hd Q q => ?_⟩
  obtain ⟨d, e1, hd⟩ := bind_some hd
  refine k1 σ W ρ μ F S d e1 _ fun v W1 G1 x1 r1 => ?_
  exact items_run (Rel := Lt) (fun r => r) hd r1 Q fun J it => q J W1 x1 it
theorem piq_any (h : PQ X e f) : PIQ X tg e (aQ f) := by
  obtain ⟨t1, p1, k1⟩ := h
  refine ⟨_, pi_any p1, fun σ W ρ μ F S ds hd Q q => ?_⟩
  obtain ⟨d, e1, hd⟩ := bind_some hd
  refine k1 σ W ρ μ F S d e1 _ fun v W1 G1 x1 r1 => ?_
  cases d with
  | ml es =>
    have hd2 : (if dataL es = true then some es else none) = some ds := hd
    by_cases hl : dataL es = true
    · rw [if_pos hl] at hd2
      cases hd2
      obtain ⟨a, vs, F', rfl, h2, h3, _⟩ := r1
      have z := RL_data ds hl h3
      subst z
      exact .inl ⟨a, vs, rfl, Evl.sq_of h2, q _ W1 x1 (it_list (fun W2 r2 => Evl.sq_of (r2.ex _ _ h2)) fun W2 r2 => RL_ext r2 _ h3)⟩
    · rw [if_neg hl] at hd2
      cases hd2
  | _ => exact items_run (Rel := Ext) (fun r => r.lt) (by exact hd) r1 Q fun J it => q J W1 x1 it
/-! ### ranges -/
def rangeD (lo hi : Int) : List D := (List.range (hi - lo).toNat).map fun (i : Nat) => .int (lo + (i : Int))
def small62 (i : Int) : Bool := decide (-4611686018427387904 ≤ i ∧ i < 4611686018427387904)
def aR1 (f : FQ) : FA := fun ρ μ => match f ρ μ with
  | some (.int j) => if small62 j = true then some (rangeD 0 j) else none
  | _ => none
def aR2 (f g : FQ) : FA := fun ρ μ => match f ρ μ, g ρ μ with
  | some (.int i), some (.int j) => if small62 i = true ∧ small62 j = true then some (rangeD i j) else none
  | _, _ => none
theorem it_range {K : PySem.W.Frag} {W0 : Wd} {Rel : Wd → Wd → Prop} {lo hi : Int} : ItD K (Itr lo (hi - lo).toNat) W0 (rangeD lo hi) Rel where
  go := fun i W r h => by
    unfold rangeD at h
    rw [List.length_map, List.length_range] at h
    exact h
  st := fun i W r h => by
    unfold rangeD at h
    rw [List.length_map, List.length_range] at h
    exact h
  yl := fun i W x H' r ok h y => by
    obtain ⟨e, rfl⟩ := y
    unfold rangeD at h ⊢
    rw [List.length_map, List.length_range] at h
    exact ⟨W, .int (lo + (i : Int)), e.symm, by rw [List.getElem?_map, List.getElem?_range h]; rfl, Ext.refl ok, rfl, rfl⟩
theorem sm62 {i : Int} (h : small62 i = true) : -(2 ^ 62) ≤ i ∧ i < 2 ^ 62 := by
  have z : -4611686018427387904 ≤ i ∧ i < 4611686018427387904 := of_decide_eq_true h
  omega
theorem pif_range1 {a : Expr} {p pos : Pos} (ha : PQ X a f) (hm : X.mg "range" = none) (hg : Gl X "range" := by rfl) (hs : starEach [a] X.env = [(false, eval a X.env)] := by rfl) : PIF X tg (.Call (.Name "range" p) [a] [] pos) (aR1 f) := by
  obtain ⟨t1, p1, k1⟩ := ha
  refine ⟨_, pi_range1 hg hm (pa_cons p1 pa_nil hs) hs, fun σ W ρ μ F S ds hd Q q => ?_⟩
  unfold aR1 at hd
  cases e1 : f ρ μ with
  | none => rw [e1] at hd; cases hd
  | some d =>
    rw [e1] at hd
    refine k1 σ W ρ μ F S d e1 _ fun v W1 G1 x1 r1 => ?_
    cases d with
    | int j =>
      have hd2 : (if small62 j = true then some (rangeD 0 j) else none) = some ds := hd
      by_cases hl : small62 j = true
      · rw [if_pos hl] at hd2
        cases hd2
        have z := sm62 hl
        have z2 : j.toNat = (j - 0).toNat := by rw [Int.sub_zero]
        refine ⟨j, congrArg (fun z => [z]) r1.1, z.1, z.2, ?_⟩
        rw [z2]
        exact q _ W1 x1 it_range
      · rw [if_neg hl] at hd2
        cases hd2
    | _ => cases hd
theorem pif_range2 {a b : Expr} {g : FQ} {p pos : Pos} (ha : PQ X a f) (hb : PQ X b g) (hm : X.mg "range" = none) (hg : Gl X "range" := by rfl) (hs : starEach [a, b] X.env = [(false, eval a X.env), (false, eval b X.env)] := by rfl)
    (hs2 : starEach [b] X.env = [(false, eval b X.env)] := by rfl) : PIF X tg (.Call (.Name "range" p) [a, b] [] pos) (aR2 f g) := by
  obtain ⟨t1, p1, k1⟩ := ha
  obtain ⟨t2, p2, k2⟩ := hb
  refine ⟨_, pi_range2 hg hm (pa_cons p1 (pa_cons p2 pa_nil hs2) (hs.trans (congrArg _ hs2.symm))) hs hs2, fun σ W ρ μ F S ds hd Q q => ?_⟩
  unfold aR2 at hd
  cases e1 : f ρ μ with
  | none => rw [e1] at hd; cases hd
  | some d =>
    cases e2 : g ρ μ with
    | none => rw [e1, e2] at hd; cases d <;> cases hd
    | some d' =>
      rw [e1, e2] at hd
      refine k1 σ W ρ μ F S d e1 _ fun v W1 G1 x1 r1 => ?_
      refine k2 σ W1 ρ μ F (S.ext x1) d' e2 _ fun v' W2 G2 x2 r2 => ?_
      cases d with
      | int i =>
        cases d' with
        | int j =>
          have hd2 : (if small62 i = true ∧ small62 j = true then some (rangeD i j) else none) = some ds := hd
          by_cases hl : small62 i = true ∧ small62 j = true
          · rw [if_pos hl] at hd2
            cases hd2
            have z1 := sm62 hl.1
            have z2 := sm62 hl.2
            obtain ⟨rfl, _⟩ := r1
            obtain ⟨rfl, _⟩ := r2
            exact ⟨i, j, rfl, ⟨z1.1, z1.2, z2.1, z2.2⟩, q _ W2 (x1.trans x2) it_range⟩
          · rw [if_neg hl] at hd2
            cases hd2
        | _ => cases hd
      | _ => cases d' <;> cases hd
/-! ### targets -/
def PGD (X : Cx) (tg : Expr) (vs : List Nat) (t : D → List D → Option (List D)) : Prop := ∃ g : TG, PG X tg g ∧ ∀ (σ : L2.St) (W : Wd) (ρ μ : List D) (F : List Addr) (d : D) (v : V), Sta X.K W σ ρ μ F → R X.K W d v [] → ∀ ρ', t d ρ = some ρ' →
  ∀ Q : L2.St → Hp → Prop, (∀ σ' F', Sta X.K W σ' ρ' μ F' → (∀ a ∈ F', a ∈ F) → wipe σ' vs = wipe σ vs → Q σ' W.H) → g v σ W.H Q
def tgN (i : Nat) : D → List D → Option (List D) := fun d ρ => if data d = true then some (ρ.set i d) else none
theorem data_ne {d : D} (h : data d = true) : d ≠ .un := fun z => by rw [z] at h; cases h
theorem R1_of {K : PySem.W.Frag} {W : Wd} {d : D} {v : V} {G : List Addr} (r : R K W d v G) : R1 K W d (some v) G := R1_iff.mpr (.inr ⟨v, rfl, r⟩)
theorem wipe_set : ∀ {vs : List Nat} {i : Nat} {o : Option V} {σ : L2.St}, i ∈ vs → wipe (σ.set i o) vs = wipe σ vs
  | [], i, o, σ, h => by cases h
  | v :: vs, i, o, σ, h => by
    show (wipe (σ.set i o) vs).set v none = (wipe σ vs).set v none
    by_cases e : i ∈ vs
    · rw [wipe_set e]
    · have ev : i = v := by
        rcases List.mem_cons.mp h with h | h
        · exact h
        · exact absurd h e
      subst ev
      have comm : ∀ (us : List Nat) (τ : L2.St), i ∉ us → wipe (τ.set i o) us = (wipe τ us).set i o := by
        intro us
        induction us with
        | nil => intro τ _; rfl
        | cons u us ih =>
          intro τ hu
          show (wipe (τ.set i o) us).set u none = ((wipe τ us).set u none).set i o
          rw [ih τ fun z => hu (List.mem_cons_of_mem _ z)]
          exact List.set_comm _ _ fun z => hu (by rw [z]; exact List.mem_cons_self ..)
      rw [comm vs σ e, List.set_set]
theorem wipe_idem : ∀ (vs : List Nat) (σ : L2.St), wipe (wipe σ vs) vs = wipe σ vs := by
  intro vs σ
  have key : ∀ (us : List Nat) (τ : L2.St), (∀ u ∈ us, u ∈ vs) → wipe (wipe τ us) vs = wipe τ vs := by
    intro us
    induction us with
    | nil => intro τ _; rfl
    | cons u us ih =>
      intro τ h
      show wipe ((wipe τ us).set u none) vs = wipe τ vs
      rw [wipe_set (h u (List.mem_cons_self ..)), ih τ fun z hz => h z (List.mem_cons_of_mem _ hz)]
  exact key vs σ fun u hu => hu
theorem pgd_name {vs : List Nat} {i : Nat} {x : Str} {pos : Pos} (h : PG X (.Name x pos) (gName i)) (hi : i ∈ vs := by decide) : PGD X (.Name x pos) vs (tgN i) := by
  refine ⟨_, h, fun σ W ρ μ F d v S r ρ' hr Q q => ?_⟩
  unfold tgN at hr
  by_cases hl : data d = true
  · rw [if_pos hl] at hr
    cases hr
    obtain ⟨F', S', sub⟩ := S.set (i := i) (R1_of r)
    exact q _ F' S' sub (wipe_set hi)
  · rw [if_neg hl] at hr
    cases hr
/-- several names out of a tuple -/
def tgs : List Nat → List D → List D → Option (List D)
  | [], [], ρ => some ρ
  | i :: is, d :: ds, ρ => (tgN i d ρ).bind fun ρ' => tgs is ds ρ'
  | _, _, _ => none
def tgT (is : List Nat) : D → List D → Option (List D) := fun d ρ => match d with
  | .tup ds => tgs is ds ρ
  | _ => none
def gNames : List Nat → TGs
  | [] => gNil
  | i :: is => gCons (gName i) (gNames is)
theorem tgs_run {K : PySem.W.Frag} {vs : List Nat} : ∀ (is : List Nat) {ds : List D} {us : List V} {σ : L2.St} {W : Wd} {ρ μ ρ' : List D} {F : List Addr}, (∀ i ∈ is, i ∈ vs) → Sta K W σ ρ μ F → RL K W ds us [] → tgs is ds ρ = some ρ' →
    ∀ Q : L2.St → Hp → Prop, (∀ σ' F', Sta K W σ' ρ' μ F' → (∀ a ∈ F', a ∈ F) → wipe σ' vs = wipe σ vs → Q σ' W.H) → gNames is us σ W.H Q
  | [], [], us, σ, W, ρ, μ, ρ', F, _, S, r, h, Q, q => by
    cases h
    exact ⟨r.1, q σ F S (fun a h => h) rfl⟩
  | [], _ :: _, _, _, _, _, _, _, _, _, _, _, h, _, _ => by cases h
  | i :: is, [], us, σ, W, ρ, μ, ρ', F, _, S, r, h, Q, q => by cases h
  | i :: is, d :: ds, us, σ, W, ρ, μ, ρ', F, hv, S, r, h, Q, q => by
    obtain ⟨ρ1, e1, h⟩ := bind_some (show (tgN i d ρ).bind (fun ρ' => tgs is ds ρ') = some ρ' from h)
    obtain ⟨v, us', F1, F2, h1, h2, h3, h4⟩ := r
    obtain ⟨rfl, rfl⟩ := List.append_eq_nil_iff.mp h4.symm
    unfold tgN at e1
    by_cases hl : data d = true
    · rw [if_pos hl] at e1
      cases e1
      obtain ⟨F', S', sub⟩ := S.set (i := i) (R1_of h2)
      refine ⟨v, us', h1, ?_⟩
      exact tgs_run is (fun j hj => hv j (List.mem_cons_of_mem _ hj)) S' h3 h Q fun σ' F'' S'' sub' w => q σ' F'' S'' (fun a ha => sub a (sub' a ha)) (w.trans (wipe_set (hv i (List.mem_cons_self ..))))
    · rw [if_neg hl] at e1
      cases e1
theorem pgd_tup {vs is : List Nat} {es : List Expr} {k : Nat} {pos : Pos} (hc : X.calm = true) (h : PGs X es (gNames is)) (hv : ∀ i ∈ is, i ∈ vs) (hn : (assignEach es X.env).length = is.length := by rfl) (hst : (assignEach es X.env).findIdx? (·.1) = none := by rfl) : PGD X (.Tuple es k pos) vs (tgT is) := by
  refine ⟨_, pg_tup hc h hn hst, fun σ W ρ μ F d v S r ρ' hr Q q => ?_⟩
  cases d with
  | tup ds =>
    have hr2 : tgs is ds ρ = some ρ' := hr
    obtain ⟨a, us, rfl, h2, h3⟩ := r
    refine ⟨a, us, rfl, h2, ?_, tgs_run is hv S h3 hr2 Q q⟩
    rw [RL_len h3]
    have len : ∀ (is : List Nat) (ds ρ : List D), tgs is ds ρ = some ρ' → ds.length = is.length := by
      intro is
      induction is with
      | nil =>
        intro ds ρ h
        cases ds with
        | nil => rfl
        | cons _ _ => cases h
      | cons i is ih =>
        intro ds ρ h
        cases ds with
        | nil => cases h
        | cons d ds =>
          obtain ⟨ρ1, _, h⟩ := bind_some (show (tgN i d ρ).bind (fun ρ' => tgs is ds ρ') = some ρ' from h)
          rw [List.length_cons, List.length_cons, ih ds ρ1 h]
    exact len is ds ρ hr2
  | _ => cases hr
end
end Fw
/-! # comprehensions, calls of quiet defs, methods of texts -/
namespace Fw
open PySem PySem.Spec PyProof.Rows L2
open Evl (Ex)
/-! ### the readings by their mirrors alone -/
def tEv (K : PySem.W.Frag) (f : FQ) : TE := fun σ H Q => ∃ (W : Wd) (ρ μ : List D) (F : List Addr) (d : D), W.H = H ∧ Sta K W σ ρ μ F ∧ f ρ μ = some d ∧ ∀ v W' G, Ext W W' → R K W' d v G → Q v W'.H
def tBv (K : PySem.W.Frag) (f : FB) : TT := fun σ H Q => ∃ (W : Wd) (ρ μ : List D) (F : List Addr) (b : Bool), W.H = H ∧ Sta K W σ ρ μ F ∧ f ρ μ = some b ∧ ∀ W', Ext W W' → Q b W'.H
def gTv (K : PySem.W.Frag) (vs : List Nat) (t : D → List D → Option (List D)) : TG := fun v σ H Q => ∃ (W : Wd) (ρ μ : List D) (F : List Addr) (d : D) (ρ' : List D), W.H = H ∧ Sta K W σ ρ μ F ∧ R K W d v [] ∧ t d ρ = some ρ' ∧
  ∀ σ' F', Sta K W σ' ρ' μ F' → (∀ a ∈ F', a ∈ F) → wipe σ' vs = wipe σ vs → Q σ' W.H
section
variable {X : Cx} {e tg : Expr} {f : FQ} {t : FB}
theorem PQ.can (h : PQ X e f) : PE X e (tEv X.K f) := by
  obtain ⟨te, p, k⟩ := h
  refine ⟨fun pins s σ H Q I ⟨W, ρ, μ, F, d, hH, S, hd, q⟩ => ?_⟩
  subst hH
  exact p.run pins s σ _ Q I (k σ W ρ μ F S d hd Q q)
theorem PB.can (h : PB X e t) : PT X e (tBv X.K t) := by
  obtain ⟨te, p, k⟩ := h
  refine ⟨fun pins s σ H Q I ⟨W, ρ, μ, F, d, hH, S, hd, q⟩ => ?_⟩
  subst hH
  exact p.run pins s σ _ Q I (k σ W ρ μ F S d hd Q q)
theorem PGD.can {vs : List Nat} {g : D → List D → Option (List D)} (h : PGD X tg vs g) : PG X tg (gTv X.K vs g) := by
  obtain ⟨tt, p, k⟩ := h
  refine ⟨fun pins s σ H v u Q I r ⟨W, ρ, μ, F, d, ρ', hH, S, rv, hd, q⟩ => ?_⟩
  subst hH
  exact p.run pins s σ _ v u Q I r (k σ W ρ μ F d v S rv ρ' hd Q q)
/-- a comprehension's tests: none or one -/
def bYes : FB := fun _ _ => some true
def PTsB (X : Cx) (es : List Expr) (t : FB) : Prop := PTs X es (tBv X.K t)
theorem ptsb_nil : PTsB X [] bYes := by
  refine ⟨fun pins s σ H Q I ⟨W, ρ, μ, F, d, hH, S, hd, q⟩ => ?_⟩
  subst hH
  cases hd
  exact pts_nil.run pins s σ _ Q I (q W (Ext.refl S.ok))
theorem ptsb_one {c : Expr} (h : PB X c t) : PTsB X [c] t := pts_one h.can
end
def wipeD (ρ : List D) : List Nat → List D
  | [] => ρ
  | v :: vs => (wipeD ρ vs).set v .un
theorem Sta.wipe {K : PySem.W.Frag} {W : Wd} {μ : List D} : ∀ (vs : List Nat) {σ : L2.St} {ρ : List D} {F : List Addr}, Sta K W σ ρ μ F → ∃ F', Sta K W (L2.wipe σ vs) (wipeD ρ vs) μ F'
  | [], _, _, F, S => ⟨F, S⟩
  | v :: vs, _, _, F, S => by
    obtain ⟨F1, S1⟩ := Sta.wipe vs S
    obtain ⟨F2, S2, _⟩ := S1.set (i := v) (d := .un) (o := none) rfl
    exact ⟨F2, S2⟩
def lcL (g : D → List D → Option (List D)) (t : FB) (f : FQ) (ρ μ : List D) : List D → Option (List D)
  | [] => some []
  | d :: ds => (g d ρ).bind fun ρ' => (t ρ' μ).bind fun b => if b = true then (f ρ' μ).bind fun y => if data y = true then (lcL g t f ρ μ ds).map fun r => y :: r else none else lcL g t f ρ μ ds
def qLc (it : FA) (g : D → List D → Option (List D)) (vs : List Nat) (t : FB) (f : FQ) : FA := fun ρ μ => (it ρ μ).bind fun ds => if ds.length ≤ LIM then lcL g t f (wipeD ρ vs) μ ds else none
theorem Lt.upd_lst {W : Wd} {p : Addr} {xs ys : List V} (h : W.H p = some (.lst xs)) (hf : ¬ W.Fr p) : Lt W ⟨upd W.H p (.lst ys), W.Fr, W.m⟩ := by
  have ne : ∀ a o, Rd W.H a o → (∀ zs, o ≠ .lst zs) → a ≠ p := fun a o r n z => by
    subst z
    rcases r with r | ⟨ob, r⟩
    · rw [h] at r
      exact n _ (Option.some.inj r).symm
    · rw [h] at r
      cases r
  refine ⟨fun a zs r => ?_, fun a zs r => ?_, fun _ _ z => z⟩
  · have z := ne a _ r fun _ q => nomatch q
    unfold Rd at r ⊢
    show upd W.H p _ a = _ ∨ ∃ o, upd W.H p _ a = _
    rw [upd_ne z]
    exact r
  · have z : a ≠ p := fun z => hf (z ▸ r.2)
    refine ⟨?_, r.2⟩
    have r1 := r.1
    unfold Rd at r1 ⊢
    show upd W.H p _ a = _ ∨ ∃ o, upd W.H p _ a = _
    rw [upd_ne z]
    exact r1
section
variable {X : Cx} {elt tg iter : Expr} {ifs : List Expr} {scope : Scope} {own : List (Str × Nat)} {pos : Pos} {it : FA} {g : D → List D → Option (List D)} {t : FB} {f : FQ}
/-- the reading of a comprehension, whatever comes behind -/
theorem lc_run {K : PySem.W.Frag} {wi : TI} {vs : List Nat} {it : FA}
    (k0 : ∀ (σ : L2.St) (W : Wd) (ρ μ : List D) (F : List Addr), Sta K W σ ρ μ F → ∀ ds, it ρ μ = some ds → ∀ Q : It → Hp → Prop, (∀ J W', Ext W W' → ItD K J W' ds Ext → Q J W'.H) → wi σ W.H Q)
    (σ : L2.St) (W : Wd) (ρ μ : List D) (F : List Addr) (S : Sta K W σ ρ μ F) (out : List D) (hd : qLc it g vs t f ρ μ = some out) (Q : VK) (q : ∀ p W', NewL K W W' out p → Q (.ref p) W'.H) :
    tLc wi (gTv K vs g) (tBv K t) (tEv K f) vs σ W.H Q := by
  obtain ⟨ds, e1, hd⟩ := bind_some hd
  by_cases hlim : ds.length ≤ LIM
  case neg => rw [if_neg hlim] at hd; cases hd
  rw [if_pos hlim] at hd
  refine k0 σ W ρ μ F S ds e1 _ fun J W1 x1 itd => ?_
  intro Dl hDl
  obtain ⟨Fw, Sw⟩ := Sta.wipe vs (S.ext x1)
  refine ⟨fun i m H => m = ds.length - i ∧ i ≤ ds.length ∧ ∃ (W2 : Wd) (acc : List V) (done rest : List D), W2.H = H ∧ Ext W1 W2 ∧ ¬ W2.Fr Dl ∧ W2.H Dl = some (.lst acc) ∧ RL K W2 done acc [] ∧ lcL g t f (wipeD ρ vs) μ (ds.drop i) = some rest ∧ out = done ++ rest ∧ done.length ≤ i, ⟨_, rfl, Nat.zero_le _, ?_⟩, ?_⟩
  · exact ⟨W1.put Dl (.lst []), [], [], out, rfl, Ext.put x1.ok hDl, fun z => x1.ok Dl z hDl, upd_same, ⟨rfl, rfl⟩, hd, rfl, Nat.le_refl _⟩
  · rintro i m H ⟨rfl, hi, W2, acc, done, rest, rfl, x2, hf, hacc, hrl, hrest, hout, hdl⟩
    by_cases hlt : i < ds.length
    · refine .inr ⟨itd.go i W2 x2 hlt, ?_⟩
      have ed : ds.drop i = ds[i] :: ds.drop (i + 1) := List.drop_eq_getElem_cons hlt
      rw [ed] at hrest
      obtain ⟨ρ', e2, hrest⟩ := bind_some (show (g ds[i] (wipeD ρ vs)).bind _ = some rest from hrest)
      obtain ⟨b, e3, hrest⟩ := bind_some hrest
      refine ⟨fun H' => i + 1 ≤ ds.length ∧ ∃ (W2 : Wd) (acc : List V) (done rest : List D), W2.H = H' ∧ Ext W1 W2 ∧ ¬ W2.Fr Dl ∧ W2.H Dl = some (.lst acc) ∧ RL K W2 done acc [] ∧ lcL g t f (wipeD ρ vs) μ (ds.drop (i + 1)) = some rest ∧ out = done ++ rest ∧ done.length ≤ i + 1,
        fun H' n => ⟨ds.length - (i + 1), by omega, rfl, n⟩, fun x H' hy => ?_⟩
      obtain ⟨W3, d, hW3, hd3, x3, r3⟩ := itd.yl i W2 x H' x2 x2.ok hlt hy
      subst hW3
      rw [List.getElem?_eq_getElem hlt] at hd3
      cases hd3
      have nf3 : ∀ {W5 : Wd}, Ext W2 W5 → ¬ W5.Fr Dl := fun x z => by
        rcases x.nf Dl z with z | z
        · exact hf z
        · rw [hacc] at z
          cases z
      refine ⟨W3, wipeD ρ vs, μ, Fw, ds[i], ρ', rfl, (Sw.ext x2).ext x3, r3, e2, fun σ' F' S' _ hw => ⟨hw.trans (wipe_idem vs σ), ?_⟩⟩
      refine ⟨W3, ρ', μ, F', b, rfl, S', e3, fun W4 x4 => ?_⟩
      cases b with
      | true =>
        rw [if_pos rfl] at hrest ⊢
        obtain ⟨y, e4, hrest⟩ := bind_some hrest
        by_cases hdy : data y = true
        case neg => rw [if_neg hdy] at hrest; cases hrest
        rw [if_pos hdy] at hrest
        obtain ⟨rest', e5, z⟩ := map_some hrest
        refine ⟨W4, ρ', μ, F', y, rfl, S'.ext x4, e4, fun v W5 G x5 r5 => ?_⟩
        have zG := R_data y hdy r5
        subst zG
        have x25 := (x3.trans x4).trans x5
        have hacc5 := x25.ex _ _ hacc
        have la : acc.length = done.length := RL_len hrl
        refine ⟨acc, hacc5, lim_lt (by omega), by omega, ⟨upd W5.H Dl (.lst (acc ++ [v])), W5.Fr, W5.m⟩, acc ++ [v], done ++ [y], rest', rfl, ?_, (show ¬ W5.Fr Dl from nf3 x25), upd_same, ?_, e5, ?_, ?_⟩
        · have x15 := x2.trans x25
          refine ⟨fun a o h => ?_, x15.fr, x15.nf, x15.m, fun a h => ?_⟩
          · show upd W5.H Dl _ a = _
            rw [upd_ne (ne_of_none h hDl)]
            exact x15.ex a o h
          · show upd W5.H Dl _ a ≠ none
            by_cases ea : a = Dl
            · rw [ea, upd_same]
              exact fun z => nomatch z
            · rw [upd_ne ea]
              exact x15.ok a h
        · have lt5 : Lt W5 ⟨upd W5.H Dl (.lst (acc ++ [v])), W5.Fr, W5.m⟩ := Lt.upd_lst hacc5 (nf3 x25)
          exact RL_app (G := []) (RL_lt lt5 done (RL_ext x25 done hrl)) ⟨v, [], [], [], rfl, R_lt lt5 y r5, ⟨rfl, rfl⟩, rfl⟩
        · rw [hout, ← z, List.append_assoc]
          rfl
        · rw [List.length_append]
          show done.length + 1 ≤ i + 1
          omega
      | false =>
        rw [if_neg Bool.false_ne_true] at hrest ⊢
        have x24 := x3.trans x4
        exact ⟨by omega, W4, acc, done, rest, rfl, x2.trans x24, nf3 x24, x24.ex _ _ hacc, RL_ext x24 done hrl, hrest, hout, by omega⟩
    · refine .inl ⟨itd.st i W2 x2 (by omega), ?_⟩
      have e : ds.drop i = [] := List.drop_eq_nil_of_le (by omega)
      rw [e] at hrest
      cases hrest
      rw [List.append_nil] at hout
      subst hout
      exact q Dl W2 ⟨x1.trans x2, Evl.fresh_back x1.ex hDl, hf, acc, hacc, hrl⟩
theorem pn_lc (hc : X.calm = true) (hN : X.N.Nodup) (hi : PIQ X tg iter it) (ok : BlkOk X.N X.env.scope scope own)
    (hg : ∀ (s : Shared) (H : Hp) (C : Addr) (cl : List (Str × Addr)) (fp : List Addr), PGD (X.blk s H scope (compEnvC scope cl C X.env) fp) tg (own.map (·.2)) g)
    (ht : ∀ (s : Shared) (H : Hp) (C : Addr) (cl : List (Str × Addr)) (fp : List Addr), PTsB (X.blk s H scope (compEnvC scope cl C X.env) fp) ifs t)
    (he : ∀ (s : Shared) (H : Hp) (C : Addr) (cl : List (Str × Addr)) (fp : List Addr), PQ (X.blk s H scope (compEnvC scope cl C X.env) fp) elt f)
    (hs : ∀ x, foldedSetIterable iter X.env x = pure x := by intro _; rfl) : PN X (.ListComp elt [⟨tg, iter, ifs, 0⟩] scope pos) (qLc it g (own.map (·.2)) t f) := by
  obtain ⟨wi, p0, k0⟩ := hi
  refine ⟨_, pe_lc (g := gTv X.K (own.map (·.2)) g) (tt := tBv X.K t) (te := tEv X.K f) hc hN p0 ok (fun s H C cl fp => (hg s H C cl fp).can) (fun s H C cl fp => ht s H C cl fp) (fun s H C cl fp => (he s H C cl fp).can) hs, fun σ W ρ μ F S out hd Q q => ?_⟩
  exact lc_run k0 σ W ρ μ F S out hd Q q
end
/-! ### quiet defs -/
def spQ (K : PySem.W.Frag) (n : Nat) (run : List D → Option D) : Sp := fun vs H Q _ => ∃ (W : Wd) (ds : List D) (d : D), W.H = H ∧ W.m = [] ∧ WOk W ∧ RL K W ds vs [] ∧ dataL ds = true ∧ ds.length = n ∧ run ds = some d ∧ data d = true ∧ ∀ v W', Ext W W' → R K W' d v [] → Q v W'.H
/-- the module's def x is quiet and computes run; dd: the defaults that fill up -/
def OkQ (P : Program) (w : World) (K : PySem.W.Frag) (mg : Str → Option Value) (base : Heap) (x : Str) (k n : Nat) (dd : List D) (run : List D → Option D) : Prop :=
  ∃ (f : Addr) (fd : FuncData) (ps : List Str) (dvs : List V) (us : List Value), FnOk P w K mg base (L2.CX P w) k f fd ps (spQ K n run) ∧ Binds K fd ps us ∧ Vals dvs us ∧ (∀ W : Wd, RL K W dd dvs []) ∧ dataL dd = true ∧ mg x = some (.ref f) ∧ PySem.W.keepIn K (.ref f) = true
def qRun (n : Nat) (dd : List D) (run : List D → Option D) (k : FA) : FQ := fun ρ μ => (k ρ μ).bind fun ds => if dataL ds = true ∧ (ds ++ dd).length = n then (run (ds ++ dd)).bind fun d => if data d = true then some d else none else none
theorem dataL_app {ds es : List D} (h : dataL ds = true) (g : dataL es = true) : dataL (ds ++ es) = true := by
  rw [dataL_all] at h g ⊢
  rw [List.all_append, h, g]
  rfl
/-- into a quiet def and back: it sees nothing of what is shared -/
theorem call_back {K : PySem.W.Frag} {n : Nat} {run : List D → Option D} {W : Wd} {ds dd : List D} {vs : List V} {d : D} {Q : VK} {E : XK} (h1 : dataL ds = true) (h2 : dataL dd = true) (ok : WOk W) (r : RL K W (ds ++ dd) vs []) (hn : (ds ++ dd).length = n) (hr : run (ds ++ dd) = some d) (hd : data d = true)
    (q : ∀ v W', Ext W W' → R K W' d v [] → Q v W'.H) : spQ K n run vs W.H Q E :=
  ⟨⟨W.H, W.Fr, []⟩, ds ++ dd, d, rfl, rfl, ok, RL_m _ (dataL_app h1 h2) r, dataL_app h1 h2, hn, hr, hd, fun v W' x rv => q v ⟨W'.H, W'.Fr, W.m⟩ ⟨x.ex, x.fr, x.nf, rfl, x.ok⟩ (R_m d hd rv)⟩
section
variable {X : Cx} {e : Expr} {es : List Expr} {x : Str} {p pos : Pos} {k n : Nat} {dd : List D} {run : List D → Option D} {kf : FA}
theorem pq_call (O : OkQ X.prog X.w X.K X.mg X.base x k n dd run) (hr : Room k X.A) (ha : PAQ X (e :: es) kf) (hg : Gl X x := by rfl) (hdb : (x == ("__debug__" : Str)) = false := by decide)
    (he : starEach (e :: es) X.env = (false, eval e X.env) :: starEach es X.env := by rfl) (hpl : (backTo pos (starEach es X.env)).any (·.1) = false := by rfl) : PQ X (.Call (.Name x p) (e :: es) [] pos) (qRun n dd run kf) := by
  obtain ⟨f, fd, ps, dvs, us, hF, hb, hv, hdd, hdt, hm, hk⟩ := O
  obtain ⟨t, pt, k1⟩ := ha
  refine ⟨_, pe_call hF hr hg hm hk hb hv passL pt hdb he hpl, fun σ W ρ μ F S d hd Q q => ?_⟩
  obtain ⟨ds, e1, hd⟩ := bind_some hd
  by_cases hl : dataL ds = true ∧ (ds ++ dd).length = n
  case neg => rw [if_neg hl] at hd; cases hd
  rw [if_pos hl] at hd
  obtain ⟨d', e2, hd⟩ := bind_some hd
  by_cases hdd2 : data d' = true
  case neg => rw [if_neg hdd2] at hd; cases hd
  rw [if_pos hdd2] at hd
  cases hd
  refine k1 σ W ρ μ F S ds e1 _ fun vs W1 G1 x1 r1 => ?_
  have z := RL_data ds hl.1 r1
  subst z
  exact call_back hl.1 hdt x1.ok (RL_app r1 (hdd W1)) hl.2 e2 hdd2 fun v W2 x2 r2 => q v W2 [] (x1.trans x2) r2
theorem pq_call0 (O : OkQ X.prog X.w X.K X.mg X.base x k n dd run) (hr : Room k X.A) (hg : Gl X x := by rfl) (hdb : (x == ("__debug__" : Str)) = false := by decide) : PQ X (.Call (.Name x p) [] [] pos) (qRun n dd run aNil) := by
  obtain ⟨f, fd, ps, dvs, us, hF, hb, hv, hdd, hdt, hm, hk⟩ := O
  refine ⟨_, pe_call0 hF hr hg hm hk hb hv passL hdb, fun σ W ρ μ F S d hd Q q => ?_⟩
  obtain ⟨ds, e1, hd⟩ := bind_some hd
  cases e1
  by_cases hl : dataL ([] : List D) = true ∧ (([] : List D) ++ dd).length = n
  case neg => rw [if_neg hl] at hd; cases hd
  rw [if_pos hl] at hd
  obtain ⟨d', e2, hd⟩ := bind_some hd
  by_cases hdd2 : data d' = true
  case neg => rw [if_neg hdd2] at hd; cases hd
  rw [if_pos hdd2] at hd
  cases hd
  show spQ X.K n run ([] ++ dvs) W.H Q E0
  exact call_back (E := E0) (ds := []) rfl hdt S.ok (hdd W) hl.2 e2 hdd2 fun v W2 x2 r2 => q v W2 [] x2 r2
end
/-! ### methods of texts -/
/-- s.m(e): by the signs -/
def MtD (X : Cx) (id : String) (o : List Nat → List D → Option D) : Prop := ∃ r : V → List V → Hp → VK → Prop, MtR X id r ∧ ∀ (W : Wd) (s : List Nat) (ds : List D) (vs : List V) (G : List Addr), WOk W → RL X.K W ds vs G → ∀ d, o s ds = some d →
  ∀ Q : VK, (∀ v W' G, Ext W W' → R X.K W' d v G → Q v W'.H) → r (.str (tr s)) vs W.H Q
def qM0 (o : List Nat → List D → Option D) (f : FQ) : FQ := fun ρ μ => match f ρ μ with
  | some (.str s) => o s []
  | _ => none
def qM1 (o : List Nat → List D → Option D) (f g : FQ) : FQ := fun ρ μ => match f ρ μ with
  | some (.str s) => (g ρ μ).bind fun d => o s [d]
  | _ => none
section
variable {X : Cx} {a e : Expr} {f g : FQ} {name : Str} {apos pos : Pos} {id : String} {o : List Nat → List D → Option D}
theorem pq_m0 (h : MtD X id o) (slot : Slot "str" name id) (ty : typeOf (.builtin id) = pure (.type "method_descriptor")) (ha : PQ X a f) (hbase : attributeBase a name X.env (eval a X.env) = eval a X.env := by rfl) (hline : (apos.endLine == pos.line) = true := by rfl) : PQ X (.Call (.Attribute a name apos) [] [] pos) (qM0 o f) := by
  obtain ⟨r, hr, k2⟩ := h
  obtain ⟨t1, p1, k1⟩ := ha
  refine ⟨_, pe_m0 slot ty hr p1 hbase hline, fun σ W ρ μ F S d hd Q q => ?_⟩
  unfold qM0 at hd
  cases e1 : f ρ μ with
  | none => rw [e1] at hd; cases hd
  | some x =>
    rw [e1] at hd
    refine k1 σ W ρ μ F S x e1 _ fun v W1 G1 x1 r1 => ?_
    cases x with
    | str s =>
      obtain ⟨rfl, _⟩ := r1
      exact ⟨⟨_, rfl⟩, k2 W1 s [] [] [] x1.ok ⟨rfl, rfl⟩ d hd Q fun v W2 G x2 r2 => q v W2 G (x1.trans x2) r2⟩
    | _ => cases hd
theorem pq_m1 (h : MtD X id o) (slot : Slot "str" name id) (ty : typeOf (.builtin id) = pure (.type "method_descriptor")) (ha : PQ X a f) (he : PQ X e g) (hs : starEach [e] X.env = [(false, eval e X.env)] := by rfl) (hbase : attributeBase a name X.env (eval a X.env) = eval a X.env := by rfl) (hline : (apos.endLine == pos.line) = true := by rfl) :
    PQ X (.Call (.Attribute a name apos) [e] [] pos) (qM1 o f g) := by
  obtain ⟨r, hr, k2⟩ := h
  obtain ⟨t1, p1, k1⟩ := ha
  obtain ⟨t3, p3, k3⟩ := he
  refine ⟨_, pe_m1 slot ty hr p1 p3 hs hbase hline, fun σ W ρ μ F S d hd Q q => ?_⟩
  unfold qM1 at hd
  cases e1 : f ρ μ with
  | none => rw [e1] at hd; cases hd
  | some x =>
    rw [e1] at hd
    refine k1 σ W ρ μ F S x e1 _ fun v W1 G1 x1 r1 => ?_
    cases x with
    | str s =>
      obtain ⟨rfl, _⟩ := r1
      obtain ⟨y, e2, hd⟩ := bind_some (show (g ρ μ).bind (fun d => o s [d]) = some d from hd)
      refine ⟨⟨_, rfl⟩, k3 σ W1 ρ μ F (S.ext x1) y e2 _ fun u W2 G2 x2 r2 => ?_⟩
      exact k2 W2 s [y] [u] (G2 ++ []) x2.ok ⟨u, [], G2, [], rfl, r2, ⟨rfl, rfl⟩, rfl⟩ d hd Q fun v W3 G x3 r3 => q v W3 G ((x1.trans x2).trans x3) r3
    | _ => cases hd
/-- both texts -/
def oStr (h : List Nat → List Nat → D) : List Nat → List D → Option D
  | s, [.str t] => some (h s t)
  | _, _ => none
theorem mtd_str {h : Str → Str → V} {g : List Nat → List Nat → D} (r : MtR X id (fun x xs H Q => ∃ a b, x = .str a ∧ xs = [.str b] ∧ Q (h a b) H)) (hg : ∀ (W : Wd) s t, R X.K W (g s t) (h (tr s) (tr t)) []) : MtD X id (oStr g) := by
  refine ⟨_, r, fun W s ds vs G ok rl d hd Q q => ?_⟩
  match ds, hd with
  | [.str t], hd =>
    cases hd
    obtain ⟨v, rfl, r1⟩ := RL_one rl
    obtain ⟨rfl, _⟩ := r1
    exact ⟨tr s, tr t, rfl, rfl, q _ W [] (Ext.refl ok) (hg W s t)⟩
theorem mtd_find : MtD X "str.find" (oStr fun s t => .int (Txt.find (tr s) (tr t))) := mtd_str mt_find fun _ _ _ => ⟨rfl, rfl⟩
theorem mtd_starts : MtD X "str.startswith" (oStr fun s t => .bl (Txt.startswith (tr s) (tr t))) := mtd_str mt_startswith fun _ _ _ => ⟨rfl, rfl⟩
theorem mtd_ends : MtD X "str.endswith" (oStr fun s t => .bl (Txt.endswith (tr s) (tr t))) := mtd_str mt_endswith fun _ _ _ => ⟨rfl, rfl⟩
/-- sep.join(texts) -/
def joinLen (s : List Nat) (ts : List (List Nat)) : Nat := (ts.map (·.length)).sum + ts.length * s.length
def oJoin (s : List Nat) : List D → Option D
  | [x] => (seqD x).bind fun ds => (strsD ds).bind fun ts => if joinLen s ts ≤ LIM then some (.str (TL.joinL s ts)) else none
  | _ => none
theorem tl_tr (s : List Nat) : TL.tl (tr s) = s := rfl
theorem map_tl_tr (ts : List (List Nat)) : (ts.map tr).map TL.tl = ts := by
  rw [List.map_map]
  exact List.map_id _
theorem mtd_join : MtD X "str.join" oJoin := by
  refine ⟨_, mt_join, fun W s ds vs G ok rl d hd Q q => ?_⟩
  match ds, hd with
  | [x], hd =>
    obtain ⟨v, rfl, r1⟩ := RL_one rl
    obtain ⟨es, e1, hd⟩ := bind_some (show (seqD x).bind (fun ds => (strsD ds).bind fun ts => if joinLen s ts ≤ LIM then some (D.str (TL.joinL s ts)) else none) = some d from hd)
    obtain ⟨ts, e2, hd⟩ := bind_some hd
    by_cases hl : joinLen s ts ≤ LIM
    case neg => rw [if_neg hl] at hd; cases hd
    rw [if_pos hl] at hd
    cases hd
    obtain ⟨a, us, G', rfl, h2, h3⟩ := R_seq e1 r1
    rw [R_strs e2 h3] at h2
    refine ⟨tr s, a, ts.map tr, rfl, rfl, h2, ?_, q _ W [] (Ext.refl ok) ⟨?_, rfl⟩⟩
    · have e : ((ts.map tr).map (·.length)).sum + (ts.map tr).length * (tr s).length = joinLen s ts := by
        unfold joinLen
        rw [tr_length, List.length_map, List.map_map]
        congr 2
      rw [e]
      exact Nat.le_trans hl (by decide)
    · rw [TL.join_eq]
      refine congrArg V.str (TL.ext_tl ?_)
      rw [TL.tl_join, map_tl_tr, tl_tr, tl_tr]
end
end Fw
/-! # statements, quiet defs -/
namespace Fw
open PySem PySem.Spec PyProof.Rows L2
open Evl (Ex)
/-- how a statement ends: goes on, returns, breaks, continues, raises (the class, the fields) -/
inductive SO where
  | nx (ρ μ : List D) | rt (d : D) (ρ μ : List D) | bk (ρ μ : List D) | ct (ρ μ : List D) | ex (c : Str) (fs : List (Str × D)) (ρ μ : List D)
abbrev FS := List D → List D → Option SO
def Kept (ob : List Nat) (σ σ' : L2.St) : Prop := ∀ i ∈ ob, σ'[i]? = σ[i]?
theorem Kept.refl {ob : List Nat} {σ : L2.St} : Kept ob σ σ := fun _ _ => rfl
theorem Kept.trans {ob : List Nat} {σ σ' σ'' : L2.St} (h : Kept ob σ σ') (g : Kept ob σ' σ'') : Kept ob σ σ'' := fun i hi => (g i hi).trans (h i hi)
theorem Kept.set {ob : List Nat} {σ : L2.St} {i : Nat} {o : Option V} (h : i ∉ ob) : Kept ob σ (σ.set i o) := fun j hj => List.getElem?_set_ne (fun z => h (by rw [z]; exact hj))
/-- an exception's own fields, at its dict -/
def ExAt (K : PySem.W.Frag) (W : Wd) (fs : List (Str × D)) (dx : Option Addr) : Prop := (fs = [] ∧ dx = none) ∨ (∃ x d a v, fs = [(x, d)] ∧ dx = some a ∧ W.H a = some (.xd [(x, v)]) ∧ R K W d v [])
def Goes (K : PySem.W.Frag) (ob : List Nat) (Wx : WX) (E : Ends) (σ : L2.St) (W : Wd) (F : List Addr) : SO → Prop
  | .nx ρ' μ' => ∀ σ' W' F', Sta K W' σ' ρ' μ' F' → Mv W W' F F' → Kept ob σ σ' → E.nx σ' W'.H
  | .bk ρ' μ' => ∀ σ' W' F', Sta K W' σ' ρ' μ' F' → Mv W W' F F' → Kept ob σ σ' → E.bk σ' W'.H
  | .ct ρ' μ' => ∀ σ' W' F', Sta K W' σ' ρ' μ' F' → Mv W W' F F' → Kept ob σ σ' → E.ct σ' W'.H
  | .rt d ρ' μ' => ∀ v σ' W' G F', R K W' d v G → Sta K W' σ' ρ' μ' F' → (G ++ F').Nodup → (∀ a ∈ G, Own W' a) → Mv W W' F (G ++ F') → Kept ob σ σ' → E.rt v W'.H
  | .ex c fs ρ' μ' => ∀ dx σ' W' F', ExAt K W' fs dx → Sta K W' σ' ρ' μ' F' → Mv W W' F F' → Kept ob σ σ' → Wx (.ref (He.ga K c)) dx σ' W'.H
def PS1 (X : Cx) (ob : List Nat) (Wx : WX) (st : Stmt) (f : FS) : Prop := ∃ ts : TS, PS X st ts ∧ ∀ (E : Ends) (σ : L2.St) (W : Wd) (ρ μ : List D) (F : List Addr), Sta X.K W σ ρ μ F → ∀ o, f ρ μ = some o → Goes X.K ob Wx E σ W F o → ts E σ W.H
def PSS (X : Cx) (ob : List Nat) (Wx : WX) (ss : List Stmt) (f : FS) : Prop := ∃ ts : TS, PSs X ss ts ∧ ∀ (E : Ends) (σ : L2.St) (W : Wd) (ρ μ : List D) (F : List Addr), Sta X.K W σ ρ μ F → ∀ o, f ρ μ = some o → Goes X.K ob Wx E σ W F o → ts E σ W.H
/-- from a later point, what was wanted at the earlier one -/
theorem Goes.after {K : PySem.W.Frag} {ob : List Nat} {Wx : WX} {E : Ends} {σ σ1 : L2.St} {W W1 : Wd} {F F1 : List Addr} {o : SO} (h : Goes K ob Wx E σ W F o) (m : Mv W W1 F F1) (kp : Kept ob σ σ1) : Goes K ob Wx E σ1 W1 F1 o := by
  cases o with
  | nx ρ' μ' => exact fun σ' W' F' S mv kp' => h σ' W' F' S (m.trans mv) (kp.trans kp')
  | bk ρ' μ' => exact fun σ' W' F' S mv kp' => h σ' W' F' S (m.trans mv) (kp.trans kp')
  | ct ρ' μ' => exact fun σ' W' F' S mv kp' => h σ' W' F' S (m.trans mv) (kp.trans kp')
  | rt d ρ' μ' => exact fun v σ' W' G F' r S nd own mv kp' => h v σ' W' G F' r S nd own (m.trans mv) (kp.trans kp')
  | ex c fs ρ' μ' => exact fun dx σ' W' F' r S mv kp' => h dx σ' W' F' r S (m.trans mv) (kp.trans kp')
theorem Ext.mvr {W W' : Wd} {F : List Addr} (e : Ext W W') : Mv W W' F F := e.mv fun _ h => h
section
variable {X : Cx} {ob : List Nat} {Wx : WX} {st : Stmt} {rest ss ss' : List Stmt} {f g : FS} {e a : Expr} {q q' : FQ} {t : FB} {pos : Pos}
/-! ### one behind the other -/
def fNext : FS := fun ρ μ => some (.nx ρ μ)
def fSeq (f g : FS) : FS := fun ρ μ => (f ρ μ).bind fun o => match o with
  | .nx ρ' μ' => g ρ' μ'
  | o => some o
theorem pss_nil' : PSS X ob Wx [] fNext := ⟨_, pss_nil, fun E σ W ρ μ F S o ho h => by
  cases ho
  exact h σ W F S (Ext.refl S.ok).mvr Kept.refl⟩
theorem seq_run {t u : TS} (k1 : ∀ (E : Ends) (σ : L2.St) (W : Wd) (ρ μ : List D) (F : List Addr), Sta X.K W σ ρ μ F → ∀ o, f ρ μ = some o → Goes X.K ob Wx E σ W F o → t E σ W.H)
    (k2 : ∀ (E : Ends) (σ : L2.St) (W : Wd) (ρ μ : List D) (F : List Addr), Sta X.K W σ ρ μ F → ∀ o, g ρ μ = some o → Goes X.K ob Wx E σ W F o → u E σ W.H)
    (E : Ends) (σ : L2.St) (W : Wd) (ρ μ : List D) (F : List Addr) (S : Sta X.K W σ ρ μ F) (o : SO) (ho : fSeq f g ρ μ = some o) (h : Goes X.K ob Wx E σ W F o) : tSeq t u E σ W.H := by
  obtain ⟨o1, e1, ho⟩ := bind_some ho
  refine k1 { E with nx := u E } σ W ρ μ F S o1 e1 ?_
  cases o1 with
  | nx ρ1 μ1 => exact fun σ1 W1 F1 S1 m1 kp => k2 E σ1 W1 ρ1 μ1 F1 S1 o ho (h.after m1 kp)
  | _ =>
    cases ho
    exact h
theorem pss_cons' (h1 : PS1 X ob Wx st f) (h2 : PSS X ob Wx rest g) : PSS X ob Wx (st :: rest) (fSeq f g) := by
  obtain ⟨t1, p1, k1⟩ := h1
  obtain ⟨t2, p2, k2⟩ := h2
  exact ⟨_, pss_cons p1 p2, seq_run k1 k2⟩
theorem pss_one' (h1 : PS1 X ob Wx st f) : PSS X ob Wx [st] f := by
  obtain ⟨t1, p1, k1⟩ := h1
  exact ⟨_, pss_one p1, k1⟩
theorem ps1_pass : PS1 X ob Wx (.Pass pos) fNext := ⟨_, ps_pass, fun E σ W ρ μ F S o ho h => by
  cases ho
  exact h σ W F S (Ext.refl S.ok).mvr Kept.refl⟩
/-! ### a name is set -/
def fSet (i : Nat) (q : FQ) : FS := fun ρ μ => (q ρ μ).bind fun d => if data d = true then some (.nx (ρ.set i d) μ) else none
theorem set_run {te : TE} {i : Nat} (k1 : ∀ (σ : L2.St) (W : Wd) (ρ μ : List D) (F : List Addr), Sta X.K W σ ρ μ F → ∀ d, q ρ μ = some d → ∀ Q : VK, (∀ v W' G, Ext W W' → R X.K W' d v G → Q v W'.H) → te σ W.H Q) (hi : i ∉ ob)
    (E : Ends) (σ : L2.St) (W : Wd) (ρ μ : List D) (F : List Addr) (S : Sta X.K W σ ρ μ F) (o : SO) (ho : fSet i q ρ μ = some o) (h : Goes X.K ob Wx E σ W F o) : tAsg te (gName i) E σ W.H := by
  obtain ⟨d, e1, ho⟩ := bind_some ho
  by_cases hd : data d = true
  case neg => rw [if_neg hd] at ho; cases ho
  rw [if_pos hd] at ho
  cases ho
  refine k1 σ W ρ μ F S d e1 _ fun v W1 G x1 r1 => ?_
  have z := R_data d hd r1
  subst z
  obtain ⟨F', S', sub⟩ := (S.ext x1).set (i := i) (R1_of r1)
  exact h _ W1 F' S' (x1.mv sub) (Kept.set hi)
theorem ps1_set {i : Nat} {x : Str} {pos' : Pos} (hN : X.N.Nodup) (hi : X.N[i]? = some x) (hx : Loc X.env.scope x) (he : PQ X e q) (hs : swapsWith e (some (.Name x pos')) pos.line X.env = pure false := by rfl) (hf : X.fn x = true ∨ X.env.scope.names.lookup x = some .local := by first | exact .inl rfl | exact .inr rfl) (ho : i ∉ ob := by decide) :
    PS1 X ob Wx (.Assign [.Name x pos'] e pos) (fSet i q) := by
  obtain ⟨te, p, k⟩ := he
  exact ⟨_, ps_set hN hi hx p hs hf, set_run k ho⟩
/-- a name gets a new list, its own -/
def fSetN (i : Nat) (k : FA) : FS := fun ρ μ => (k ρ μ).map fun ds => .nx (ρ.set i (.ml ds)) μ
theorem Sta.setN {K : PySem.W.Frag} {W W' : Wd} {σ : L2.St} {ρ μ ds : List D} {F : List Addr} {i : Nat} {p : Addr} (S : Sta K W σ ρ μ F) (n : NewL K W W' ds p) : ∃ F', Sta K W' (σ.set i (some (.ref p))) (ρ.set i (.ml ds)) μ F' ∧ Mv W W' F F' := by
  obtain ⟨x, new, nofr, vs, h1, h2⟩ := n
  have S1 := S.ext x
  obtain ⟨⟨F1, F2, q1, q2, q3⟩, nd, own, ok⟩ := S1
  have r : R K W' (.ml ds) (.ref p) [p] := ⟨p, vs, [], rfl, h1, h2, rfl⟩
  have pF : p ∉ F := fun z => by
    obtain ⟨_, w⟩ := S.own p z
    rcases w with ⟨xs, w⟩ | ⟨C, dx, fs, w⟩ <;> rw [new] at w <;> cases w
  by_cases hi : i < ρ.length
  · obtain ⟨A, B, C, e1, e2⟩ := RS_set (R1_of r) q1 hi
    have sub : (A ++ C ++ F2).Sublist F := by
      rw [q3, e1]
      exact List.Sublist.append (List.Sublist.append (List.Sublist.refl A) (List.sublist_append_right B C)) (List.Sublist.refl F2)
    have pm : (A ++ ([p] ++ C) ++ F2).Perm (p :: (A ++ C ++ F2)) := by
      rw [List.append_assoc, List.append_assoc, List.append_assoc]
      exact List.perm_middle
    refine ⟨A ++ ([p] ++ C) ++ F2, ⟨⟨_, F2, e2, q2, rfl⟩, pm.nodup_iff.mpr (List.nodup_cons.mpr ⟨fun z => pF (sub.subset z), nd.sublist sub⟩), fun a ha => ?_, ok⟩, ⟨fun a o h _ => x.ex a o h, x.fr, fun a h => (x.nf a h).elim .inl fun z => .inr (.inl z), fun a ha => ?_, ⟨[], by rw [x.m, List.append_nil]⟩⟩⟩
    · rcases List.mem_cons.mp (pm.mem_iff.mp ha) with z | z
      · subst z
        exact ⟨nofr, .inl ⟨vs, h1⟩⟩
      · exact own a (sub.subset z)
    · rcases List.mem_cons.mp (pm.mem_iff.mp ha) with z | z
      · subst z
        exact .inr new
      · exact .inl (sub.subset z)
  · have hl := RS_len q1
    rw [List.set_eq_of_length_le (by omega), List.set_eq_of_length_le (by omega)]
    exact ⟨F, ⟨⟨F1, F2, q1, q2, q3⟩, nd, own, ok⟩, x.mvr⟩
theorem setN_run {te : TE} {i : Nat} {k : FA} (k1 : ∀ (σ : L2.St) (W : Wd) (ρ μ : List D) (F : List Addr), Sta X.K W σ ρ μ F → ∀ ds, k ρ μ = some ds → ∀ Q : VK, (∀ p W', NewL X.K W W' ds p → Q (.ref p) W'.H) → te σ W.H Q) (hi : i ∉ ob)
    (E : Ends) (σ : L2.St) (W : Wd) (ρ μ : List D) (F : List Addr) (S : Sta X.K W σ ρ μ F) (o : SO) (ho : fSetN i k ρ μ = some o) (h : Goes X.K ob Wx E σ W F o) : tAsg te (gName i) E σ W.H := by
  obtain ⟨ds, e1, z⟩ := map_some ho
  subst z
  refine k1 σ W ρ μ F S ds e1 _ fun p W1 n => ?_
  obtain ⟨F', S', m⟩ := S.setN (i := i) n
  exact h _ W1 F' S' m (Kept.set hi)
theorem ps1_setN {i : Nat} {x : Str} {pos' : Pos} {k : FA} (hN : X.N.Nodup) (hi : X.N[i]? = some x) (hx : Loc X.env.scope x) (he : PN X e k) (hs : swapsWith e (some (.Name x pos')) pos.line X.env = pure false := by rfl) (hf : X.fn x = true ∨ X.env.scope.names.lookup x = some .local := by first | exact .inl rfl | exact .inr rfl) (ho : i ∉ ob := by decide) :
    PS1 X ob Wx (.Assign [.Name x pos'] e pos) (fSetN i k) := by
  obtain ⟨te, p, k1⟩ := he
  exact ⟨_, ps_set hN hi hx p hs hf, setN_run k1 ho⟩
/-- y = [.. for ..] on one line: the list is the name's own, or stands still at once -/
theorem ps1_setLc {i : Nat} {y : Str} {py : Pos} {elt tg iter : Expr} {ifs : List Expr} {scope : Scope} {own : List (Str × Nat)} {spos : Pos} {it : FA} {g : D → List D → Option (List D)} {t : FB} {q : FQ} (hc : X.calm = true) (hN : X.N.Nodup) (hy : X.N[i]? = some y) (hyl : X.env.scope.names.lookup y = some .local)
    (hsw : swapsWith (.ListComp elt [⟨tg, iter, ifs, 0⟩] scope pos) (some (.Name y py)) spos.line X.env = pure true) (hi : PIQ X tg iter it) (ok : BlkOk X.N X.env.scope scope own)
    (hg : ∀ (s : Shared) (H : Hp) (C : Addr) (cl : List (Str × Addr)) (fp : List Addr), PGD (X.blk s H scope (compEnvC scope cl C X.env) fp) tg (own.map (·.2)) g)
    (ht : ∀ (s : Shared) (H : Hp) (C : Addr) (cl : List (Str × Addr)) (fp : List Addr), PTsB (X.blk s H scope (compEnvC scope cl C X.env) fp) ifs t)
    (he : ∀ (s : Shared) (H : Hp) (C : Addr) (cl : List (Str × Addr)) (fp : List Addr), PQ (X.blk s H scope (compEnvC scope cl C X.env) fp) elt q)
    (hs : ∀ x, foldedSetIterable iter X.env x = pure x := by intro _; rfl) (ho : i ∉ ob := by decide) : PS1 X ob Wx (.Assign [.Name y py] (.ListComp elt [⟨tg, iter, ifs, 0⟩] scope pos) spos) (fSetN i (qLc it g (own.map (·.2)) t q)) := by
  obtain ⟨wi, p0, k0⟩ := hi
  exact ⟨_, ps_setLc (g := gTv X.K (own.map (·.2)) g) (tt := tBv X.K t) (te := tEv X.K q) hc hN hy hyl hsw p0 ok (fun s H C cl fp => (hg s H C cl fp).can) (fun s H C cl fp => ht s H C cl fp) (fun s H C cl fp => (he s H C cl fp).can) hs,
    setN_run (fun σ W ρ μ F S out hd Q q => lc_run k0 σ W ρ μ F S out hd Q q) ho⟩
/-! ### an own list that nobody will change any more -/
def fzAt (i : Nat) (ρ : List D) : List D := match ρ[i]? with
  | some (.ml ds) => if dataL ds = true then ρ.set i (.lst ds) else ρ
  | _ => ρ
def fFz (i : Nat) (f : FS) : FS := fun ρ μ => f (fzAt i ρ) μ
theorem RS_set' {K : PySem.W.Frag} {W W' : Wd} {d' : D} {i : Nat} : ∀ {ρ : List D} {σ : List (Option V)} {F : List Addr} {j : Nat} {d : D}, RS K W ρ σ F → ρ[j]? = some d → d ≠ .un → ∃ v A B C, σ[j]? = some (some v) ∧ F = A ++ (B ++ C) ∧ R K W d v B ∧
    ∀ (G : List Addr), R K W d' v G → RS K W (ρ.set j d') σ (A ++ (G ++ C))
  | [], _, _, j, _, _, h, _ => by simp at h
  | d0 :: ρ, _, _, 0, d, h, h1, h2 => by
    obtain ⟨o, σ', F1, F2, e1, e2, e3, e4⟩ := h
    have e : d0 = d := Option.some.inj h1
    subst e
    rw [R1_iff] at e2
    rcases e2 with ⟨q, _⟩ | ⟨v, q1, q2⟩
    · exact absurd q h2
    · subst q1
      exact ⟨v, [], F1, F2, by rw [e1]; rfl, e4, q2, fun G r => ⟨some v, σ', G, F2, e1, R1_of r, e3, rfl⟩⟩
  | d0 :: ρ, _, _, j + 1, d, h, h1, h2 => by
    obtain ⟨o, σ', F1, F2, e1, e2, e3, e4⟩ := h
    obtain ⟨v, A, B, C, q1, q2, q3, q4⟩ := RS_set' (W' := W) (d' := d') (i := i) (j := j) e3 (by simpa using h1) h2
    refine ⟨v, F1 ++ A, B, C, by rw [e1]; simpa using q1, by rw [e4, q2, List.append_assoc], q3, fun G r => ?_⟩
    exact ⟨o, σ', F1, A ++ (G ++ C), e1, e2, q4 G r, by rw [List.append_assoc]⟩
theorem Sta.fz {K : PySem.W.Frag} {W : Wd} {σ : L2.St} {ρ μ : List D} {F : List Addr} (i : Nat) (S : Sta K W σ ρ μ F) : ∃ W' F', W'.H = W.H ∧ Sta K W' σ (fzAt i ρ) μ F' ∧ Mv W W' F F' := by
  have none_ : ∃ W' F', W'.H = W.H ∧ Sta K W' σ ρ μ F' ∧ Mv W W' F F' := ⟨W, F, rfl, S, (Ext.refl S.ok).mvr⟩
  unfold fzAt
  split
  case h_2 => exact none_
  case h_1 ds heq =>
    by_cases hd : dataL ds = true
    case neg => rw [if_neg hd]; exact none_
    rw [if_pos hd]
    obtain ⟨⟨F1, F2, h1, h2, h3⟩, nd, own, ok⟩ := S
    have look : ∀ (W' : Wd), ∃ v A B C, σ[i]? = some (some v) ∧ F1 = A ++ (B ++ C) ∧ R K W (.ml ds) v B ∧ True := fun _ => by
      obtain ⟨v, A, B, C, q1, q2, q3, _⟩ := RS_set' (W' := W) (d' := .non) (i := i) (j := i) h1 heq (fun z => nomatch z)
      exact ⟨v, A, B, C, q1, q2, q3, trivial⟩
    obtain ⟨v, A, B, C, q1, q2, ⟨a, vs, F', rfl, hH, hR, hB⟩, _⟩ := look W
    have z := RL_data ds hd hR
    subst z
    subst hB
    have aF : a ∈ F := by
      rw [h3, q2]
      simp
    -- the world where a stands still
    have lt : Lt W ⟨W.H, fun b => W.Fr b ∨ b = a, W.m⟩ := ⟨fun _ _ z => z, fun _ _ z => ⟨z.1, Or.inl z.2⟩, fun _ _ z => z⟩
    have same : ∀ (d : D) (v : V) (G : List Addr), R K W d v G → R K ⟨W.H, fun b => W.Fr b ∨ b = a, W.m⟩ d v G := fun d v G r => R_same lt rfl d r
    have h1' : RS K ⟨W.H, fun b => W.Fr b ∨ b = a, W.m⟩ ρ σ F1 := RS_same lt rfl h1
    obtain ⟨v', A', B', C', p1, p2, p3, p4⟩ := RS_set' (W' := W) (d' := .lst ds) (i := i) (j := i) h1' heq (fun z => nomatch z)
    rw [q1] at p1
    cases p1
    obtain ⟨a', vs', F'', e1, e2, e3, e4⟩ := p3
    cases e1
    have z2 := RL_data ds hd e3
    subst z2
    subst e4
    have r2 : R K ⟨W.H, fun b => W.Fr b ∨ b = a, W.m⟩ (.lst ds) (.ref a) [] := ⟨a, vs', rfl, Or.inl ⟨Or.inl e2, Or.inr rfl⟩, e3, rfl⟩
    have p5 := p4 [] r2
    have sub : (A' ++ ([] ++ C') ++ F2).Sublist F := by
      rw [h3, p2]
      exact List.Sublist.append (List.Sublist.append (List.Sublist.refl A') (List.Sublist.append (List.nil_sublist _) (List.Sublist.refl C'))) (List.Sublist.refl F2)
    have na : a ∉ A' ++ ([] ++ C') ++ F2 := fun z => by
      rw [h3, p2] at nd
      have pm : (A' ++ ([a] ++ C') ++ F2).Perm (a :: (A' ++ C' ++ F2)) := by
        rw [List.append_assoc, List.append_assoc, List.append_assoc]
        exact List.perm_middle
      have nd2 := pm.nodup_iff.mp nd
      rw [List.nil_append] at z
      exact (List.nodup_cons.mp nd2).1 z
    refine ⟨⟨W.H, fun b => W.Fr b ∨ b = a, W.m⟩, _, rfl, ⟨⟨_, F2, p5, RL_same lt rfl μ h2, rfl⟩, nd.sublist sub, fun b hb => ?_, fun b hb => ?_⟩, ⟨fun b o h _ => h, fun b h => .inl h, fun b h => ?_, fun b hb => .inl (sub.subset hb), ⟨[], (List.append_nil _).symm⟩⟩⟩
    · obtain ⟨w1, w2⟩ := own b (sub.subset hb)
      exact ⟨fun z => z.elim w1 fun z => na (z ▸ hb), w2⟩
    · rcases hb with hb | hb
      · exact ok b hb
      · show W.H b ≠ none
        rw [hb, hH]
        exact fun z => nomatch z
    · rcases h with h | h
      · exact .inl h
      · exact .inr (.inr (by rw [h]; exact aF))
theorem pss_fz (i : Nat) (h : PSS X ob Wx ss f) : PSS X ob Wx ss (fFz i f) := by
  obtain ⟨t1, p1, k1⟩ := h
  refine ⟨_, p1, fun E σ W ρ μ F S o ho h => ?_⟩
  obtain ⟨W', F', e, S', m⟩ := S.fz i
  have z := k1 E σ W' _ μ F' S' o ho (h.after m Kept.refl)
  rw [e] at z
  exact z
theorem ps1_fz (i : Nat) (h : PS1 X ob Wx st f) : PS1 X ob Wx st (fFz i f) := by
  obtain ⟨t1, p1, k1⟩ := h
  refine ⟨_, p1, fun E σ W ρ μ F S o ho h => ?_⟩
  obtain ⟨W', F', e, S', m⟩ := S.fz i
  have z := k1 E σ W' _ μ F' S' o ho (h.after m Kept.refl)
  rw [e] at z
  exact z
end
end Fw
/-! # more statements; a def as a whole -/
namespace Fw
open PySem PySem.Spec PyProof.Rows L2
open Evl (Ex)
/-! ### a change at one's own places -/
section
variable {K : PySem.W.Frag} {W W' : Wd}
mutual
theorem R_keep (e : Lt W W') : ∀ (d : D) {v : V} {F : List Addr}, (∀ b ∈ F, W'.H b = W.H b) → R K W d v F → R K W' d v F
  | .non, _, _, _, h => h
  | .bl _, _, _, _, h => h
  | .int _, _, _, _, h => h
  | .str _, _, _, _, h => h
  | .tup ds, _, _, k, h => by
    obtain ⟨a, vs, h1, h2, h3⟩ := h
    exact ⟨a, vs, h1, e.sqT h2, RL_keep e ds k h3⟩
  | .lst ds, _, _, k, h => by
    obtain ⟨a, vs, h1, h2, h3, h4⟩ := h
    exact ⟨a, vs, h1, h2.lt e, RL_keep e ds (fun b hb => nomatch hb) h3, h4⟩
  | .ml ds, _, _, k, h => by
    obtain ⟨a, vs, F', h1, h2, h3, h4⟩ := h
    subst h4
    exact ⟨a, vs, F', h1, by rw [k a (List.mem_cons_self ..)]; exact h2, RL_keep e ds (fun b hb => k b (List.mem_cons_of_mem _ hb)) h3, rfl⟩
  | .obj c ns ds, _, _, k, h => by
    obtain ⟨a, dx, vs, F', h1, h2, h3, h4, h5⟩ := h
    subst h5
    exact ⟨a, dx, vs, F', h1, by rw [k a (List.mem_cons_self ..)]; exact h2, h3, RL_keep e ds (fun b hb => k b (List.mem_cons_of_mem _ hb)) h4, rfl⟩
  | .ref k', _, _, k, h => by
    obtain ⟨a, h1, h2, h3⟩ := h
    exact ⟨a, h1, e.m _ _ h2, h3⟩
  | .un, _, _, _, h => h.elim
theorem RL_keep (e : Lt W W') : ∀ (ds : List D) {vs : List V} {F : List Addr}, (∀ b ∈ F, W'.H b = W.H b) → RL K W ds vs F → RL K W' ds vs F
  | [], _, _, _, h => h
  | d :: ds, _, _, k, h => by
    obtain ⟨v, vs', F1, F2, h1, h2, h3, h4⟩ := h
    subst h4
    exact ⟨v, vs', F1, F2, h1, R_keep e d (fun b hb => k b (List.mem_append_left _ hb)) h2, RL_keep e ds (fun b hb => k b (List.mem_append_right _ hb)) h3, rfl⟩
end
theorem R1_keep (e : Lt W W') {d : D} {o : Option V} {F : List Addr} (k : ∀ b ∈ F, W'.H b = W.H b) (h : R1 K W d o F) : R1 K W' d o F := by
  rw [R1_iff] at h ⊢
  rcases h with h | ⟨v, h1, h2⟩
  · exact .inl h
  · exact .inr ⟨v, h1, R_keep e d k h2⟩
theorem RS_keep (e : Lt W W') : ∀ {ds : List D} {σ : List (Option V)} {F : List Addr}, (∀ b ∈ F, W'.H b = W.H b) → RS K W ds σ F → RS K W' ds σ F
  | [], _, _, _, h => h
  | d :: ds, _, _, k, h => by
    obtain ⟨o, σ', F1, F2, h1, h2, h3, h4⟩ := h
    subst h4
    exact ⟨o, σ', F1, F2, h1, R1_keep e (fun b hb => k b (List.mem_append_left _ hb)) h2, RS_keep e (fun b hb => k b (List.mem_append_right _ hb)) h3, rfl⟩
/-- one slot seen apart from the others -/
theorem RS_lens : ∀ {ρ : List D} {σ : List (Option V)} {F : List Addr} {j : Nat} {d : D}, RS K W ρ σ F → ρ[j]? = some d → d ≠ .un → ∃ v A B C, σ[j]? = some (some v) ∧ F = A ++ (B ++ C) ∧ R K W d v B ∧
    ∀ (W' : Wd) (d' : D) (G : List Addr), Lt W W' → (∀ b ∈ A ++ C, W'.H b = W.H b) → R K W' d' v G → RS K W' (ρ.set j d') σ (A ++ (G ++ C))
  | [], _, _, j, _, _, h, _ => by simp at h
  | d0 :: ρ, _, _, 0, d, h, h1, h2 => by
    obtain ⟨o, σ', F1, F2, e1, e2, e3, e4⟩ := h
    have e : d0 = d := Option.some.inj h1
    subst e
    rw [R1_iff] at e2
    rcases e2 with ⟨q, _⟩ | ⟨v, q1, q2⟩
    · exact absurd q h2
    · subst q1
      exact ⟨v, [], F1, F2, by rw [e1]; rfl, e4, q2, fun W' d' G lt k r => ⟨some v, σ', G, F2, e1, R1_of r, RS_keep lt (fun b hb => k b hb) e3, rfl⟩⟩
  | d0 :: ρ, _, _, j + 1, d, h, h1, h2 => by
    obtain ⟨o, σ', F1, F2, e1, e2, e3, e4⟩ := h
    obtain ⟨v, A, B, C, q1, q2, q3, q4⟩ := RS_lens (j := j) e3 (by simpa using h1) h2
    refine ⟨v, F1 ++ A, B, C, by rw [e1]; simpa using q1, by rw [e4, q2, List.append_assoc], q3, fun W' d' G lt k r => ?_⟩
    refine ⟨o, σ', F1, A ++ (G ++ C), e1, R1_keep lt (fun b hb => k b ?_) e2, q4 W' d' G lt (fun b hb => k b ?_) r, by rw [List.append_assoc]⟩
    · exact List.mem_append_left _ (List.mem_append_left _ hb)
    · rcases List.mem_append.mp hb with z | z
      · exact List.mem_append_left _ (List.mem_append_right _ z)
      · exact List.mem_append_right _ z
end
section
variable {X : Cx} {ob : List Nat} {Wx : WX} {st : Stmt} {rest ss ss' : List Stmt} {f g : FS} {e a : Expr} {q q' : FQ} {t : FB} {pos : Pos}
/-! ### if, return -/
def fIf (t : FB) (f g : FS) : FS := fun ρ μ => (t ρ μ).bind fun b => if b = true then f ρ μ else g ρ μ
theorem ps1_if (hc : PB X e t) (ha : PSS X ob Wx ss f) (hb : PSS X ob Wx ss' g) : PS1 X ob Wx (.If e ss ss' pos) (fIf t f g) := by
  obtain ⟨t0, p0, k0⟩ := hc
  obtain ⟨t1, p1, k1⟩ := ha
  obtain ⟨t2, p2, k2⟩ := hb
  refine ⟨_, ps_if p0 p1 p2, fun E σ W ρ μ F S o ho h => ?_⟩
  obtain ⟨b, e1, ho⟩ := bind_some ho
  refine k0 σ W ρ μ F S b e1 _ fun W1 x1 => ?_
  cases b with
  | true =>
    rw [if_pos rfl] at ho ⊢
    exact k1 E σ W1 ρ μ F (S.ext x1) o ho (h.after x1.mvr Kept.refl)
  | false =>
    rw [if_neg Bool.false_ne_true] at ho ⊢
    exact k2 E σ W1 ρ μ F (S.ext x1) o ho (h.after x1.mvr Kept.refl)
def fRet (q : FQ) : FS := fun ρ μ => (q ρ μ).bind fun d => if data d = true then some (.rt d ρ μ) else none
theorem ps1_ret (he : PQ X e q) : PS1 X ob Wx (.Return (some e) pos) (fRet q) := by
  obtain ⟨te, p, k⟩ := he
  refine ⟨_, ps_ret p, fun E σ W ρ μ F S o ho h => ?_⟩
  obtain ⟨d, e1, ho⟩ := bind_some ho
  by_cases hd : data d = true
  case neg => rw [if_neg hd] at ho; cases ho
  rw [if_pos hd] at ho
  cases ho
  refine k σ W ρ μ F S d e1 _ fun v W1 G x1 r1 => ?_
  have z := R_data d hd r1
  subst z
  exact h v σ W1 [] F r1 (S.ext x1) S.nd (fun _ hb => nomatch hb) x1.mvr Kept.refl
def fRetN : FS := fun ρ μ => some (.rt .non ρ μ)
theorem ps1_retN : PS1 X ob Wx (.Return none pos) fRetN := ⟨_, ps_retN, fun E σ W ρ μ F S o ho h => by
  cases ho
  exact h .non σ W [] F ⟨rfl, rfl⟩ S S.nd (fun _ hb => nomatch hb) (Ext.refl S.ok).mvr Kept.refl⟩
/-! ### for -/
def forL (g : D → List D → Option (List D)) (b : FS) : List D → List D → List D → Option SO
  | ρ, μ, [] => some (.nx ρ μ)
  | ρ, μ, d :: ds => (g d ρ).bind fun ρ1 => (b ρ1 μ).bind fun o => match o with
    | .nx ρ2 μ2 => forL g b ρ2 μ2 ds
    | .ct ρ2 μ2 => forL g b ρ2 μ2 ds
    | .bk ρ2 μ2 => some (.nx ρ2 μ2)
    | o => some o
def fFor (it : FA) (g : D → List D → Option (List D)) (b : FS) : FS := fun ρ μ => (it ρ μ).bind fun ds => forL g b ρ μ ds
theorem wipe_other : ∀ {vs : List Nat} {σ : L2.St} {i : Nat}, i ∉ vs → (wipe σ vs)[i]? = σ[i]?
  | [], _, _, _ => rfl
  | v :: vs, σ, i, h => by
    show ((wipe σ vs).set v none)[i]? = σ[i]?
    rw [List.getElem?_set_ne (fun z => h (by rw [z]; exact List.mem_cons_self ..)), wipe_other fun z => h (List.mem_cons_of_mem _ z)]
theorem Kept.of_wipe {vs : List Nat} {σ σ' : L2.St} (h : wipe σ' vs = wipe σ vs) (d : ∀ i ∈ ob, i ∉ vs) : Kept ob σ σ' := fun i hi => by
  rw [← wipe_other (d i hi) (σ := σ'), h, wipe_other (d i hi)]
theorem ps1_for {tg iter : Expr} {body : List Stmt} {vs : List Nat} {it : FA} {gt : D → List D → Option (List D)} {b : FS} (hp : PassesOwn (model X.prog X.w) X.A X.env X.xe) (hc : X.calm = true) (hi : PIF X tg iter it) (hg : PGD X tg vs gt) (hb : PSS X ob Wx body b)
    (hs : ∀ x, foldedSetIterable iter X.env x = pure x := by intro _; rfl) (hv : ∀ i ∈ ob, i ∉ vs := by decide) : PS1 X ob Wx (.For tg iter body [] pos) (fFor it gt b) := by
  obtain ⟨wi, p0, k0⟩ := hi
  obtain ⟨tgt, p1, k1⟩ := hg
  obtain ⟨tb, p2, k2⟩ := hb
  refine ⟨_, ps_for hp hc p0 p1 p2 hs, fun E σ W ρ μ F S o ho h => ?_⟩
  obtain ⟨ds, e1, ho⟩ := bind_some ho
  refine k0 σ W ρ μ F S ds e1 _ fun J W1 x1 itd => ?_
  have S1 := S.ext x1
  refine ⟨fun i m σ2 H => m = ds.length - i ∧ i ≤ ds.length ∧ ∃ (W2 : Wd) (ρ2 μ2 : List D) (F2 : List Addr), W2.H = H ∧ Sta X.K W2 σ2 ρ2 μ2 F2 ∧ Mv W1 W2 F F2 ∧ Kept ob σ σ2 ∧ forL gt b ρ2 μ2 (ds.drop i) = some o, ⟨_, rfl, Nat.zero_le _, W1, ρ, μ, F, rfl, S1, (Ext.refl x1.ok).mvr, Kept.refl, ho⟩, ?_⟩
  rintro i m σ2 H ⟨rfl, hil, W2, ρ2, μ2, F2, rfl, S2, mv2, kp2, ho2⟩
  have lt2 := mv2.lt S1.own
  have h2 := h.after (x1.mvr.trans mv2) kp2
  by_cases hlt : i < ds.length
  · refine .inr ⟨itd.go i W2 lt2 hlt, ?_⟩
    have ed : ds.drop i = ds[i] :: ds.drop (i + 1) := List.drop_eq_getElem_cons hlt
    rw [ed] at ho2
    obtain ⟨ρ', e2, ho2⟩ := bind_some (show (gt ds[i] ρ2).bind _ = some o from ho2)
    obtain ⟨o1, e3, ho2⟩ := bind_some ho2
    refine ⟨fun σ3 H3 => i + 1 ≤ ds.length ∧ ∃ (W2 : Wd) (ρ2 μ2 : List D) (F2 : List Addr), W2.H = H3 ∧ Sta X.K W2 σ3 ρ2 μ2 F2 ∧ Mv W1 W2 F F2 ∧ Kept ob σ σ3 ∧ forL gt b ρ2 μ2 (ds.drop (i + 1)) = some o,
      fun σ3 H3 n => ⟨ds.length - (i + 1), by omega, rfl, n⟩, fun x H' hy => ?_⟩
    obtain ⟨W3, d, hW3, hd3, x3, r3⟩ := itd.yl i W2 x H' lt2 S2.ok hlt hy
    subst hW3
    rw [List.getElem?_eq_getElem hlt] at hd3
    cases hd3
    refine k1 σ2 W3 ρ2 μ2 F2 ds[i] x (S2.ext x3) r3 ρ' e2 _ fun σ3 F3 S3 sub hw => ?_
    have kp3 : Kept ob σ2 σ3 := Kept.of_wipe hw hv
    have mv3 : Mv W2 W3 F2 F3 := x3.mv sub
    refine k2 _ σ3 W3 ρ' μ2 F3 S3 o1 e3 ?_
    cases o1 with
    | nx ρ4 μ4 => exact fun σ4 W4 F4 S4 mv4 kp4 => ⟨by omega, W4, ρ4, μ4, F4, rfl, S4, (mv2.trans mv3).trans mv4, (kp2.trans kp3).trans kp4, ho2⟩
    | ct ρ4 μ4 => exact fun σ4 W4 F4 S4 mv4 kp4 => ⟨by omega, W4, ρ4, μ4, F4, rfl, S4, (mv2.trans mv3).trans mv4, (kp2.trans kp3).trans kp4, ho2⟩
    | bk ρ4 μ4 =>
      cases ho2
      exact fun σ4 W4 F4 S4 mv4 kp4 => h2 σ4 W4 F4 S4 (mv3.trans mv4) (kp3.trans kp4)
    | rt d ρ4 μ4 =>
      cases ho2
      exact fun v σ4 W4 G F4 r S4 nd own mv4 kp4 => h2 v σ4 W4 G F4 r S4 nd own (mv3.trans mv4) (kp3.trans kp4)
    | ex c fs ρ4 μ4 =>
      cases ho2
      exact fun dx σ4 W4 F4 r S4 mv4 kp4 => h2 dx σ4 W4 F4 r S4 (mv3.trans mv4) (kp3.trans kp4)
  · refine .inl ⟨itd.st i W2 lt2 (by omega), ?_⟩
    have e : ds.drop i = [] := List.drop_eq_nil_of_le (by omega)
    rw [e] at ho2
    cases ho2
    exact h2 σ2 W2 F2 S2 (Ext.refl S2.ok).mvr Kept.refl
/-! ### while -/
def whL (t : FB) (b : FS) : Nat → List D → List D → Option SO
  | 0, _, _ => none
  | n + 1, ρ, μ => (t ρ μ).bind fun c => if c = true then (b ρ μ).bind fun o => match o with
    | .nx ρ2 μ2 => whL t b n ρ2 μ2
    | .ct ρ2 μ2 => whL t b n ρ2 μ2
    | .bk ρ2 μ2 => some (.nx ρ2 μ2)
    | o => some o
    else some (.nx ρ μ)
def fWh (fuel : List D → List D → Nat) (t : FB) (b : FS) : FS := fun ρ μ => whL t b (fuel ρ μ) ρ μ
theorem ps1_while {c : Expr} {body : List Stmt} {b : FS} (fuel : List D → List D → Nat) (hp : PassesOwn (model X.prog X.w) X.A X.env X.xe) (hc : PB X c t) (hb : PSS X ob Wx body b) : PS1 X ob Wx (.While c body [] pos) (fWh fuel t b) := by
  obtain ⟨tc, p1, k1⟩ := hc
  obtain ⟨tb, p2, k2⟩ := hb
  refine ⟨_, ps_while hp p1 p2, fun E σ W ρ μ F S o ho h => ?_⟩
  refine ⟨fun m σ2 H => ∃ (W2 : Wd) (ρ2 μ2 : List D) (F2 : List Addr), W2.H = H ∧ Sta X.K W2 σ2 ρ2 μ2 F2 ∧ Mv W W2 F F2 ∧ Kept ob σ σ2 ∧ whL t b m ρ2 μ2 = some o, ⟨fuel ρ μ, W, ρ, μ, F, rfl, S, (Ext.refl S.ok).mvr, Kept.refl, ho⟩, ?_⟩
  rintro m σ2 H ⟨W2, ρ2, μ2, F2, rfl, S2, mv2, kp2, ho2⟩
  have h2 := h.after mv2 kp2
  cases m with
  | zero => cases ho2
  | succ m =>
    obtain ⟨c1, e1, ho2⟩ := bind_some (show (t ρ2 μ2).bind _ = some o from ho2)
    refine k1 σ2 W2 ρ2 μ2 F2 S2 c1 e1 _ fun W3 x3 => ?_
    have S3 := S2.ext x3
    cases c1 with
    | true =>
      rw [if_pos rfl] at ho2 ⊢
      obtain ⟨o1, e2, ho2⟩ := bind_some ho2
      refine ⟨fun σ3 H3 => ∃ (W2 : Wd) (ρ2 μ2 : List D) (F2 : List Addr), W2.H = H3 ∧ Sta X.K W2 σ3 ρ2 μ2 F2 ∧ Mv W W2 F F2 ∧ Kept ob σ σ3 ∧ whL t b m ρ2 μ2 = some o, fun σ3 H3 n => ⟨m, Nat.lt_succ_self m, n⟩, ?_⟩
      refine k2 _ σ2 W3 ρ2 μ2 F2 S3 o1 e2 ?_
      cases o1 with
      | nx ρ4 μ4 => exact fun σ4 W4 F4 S4 mv4 kp4 => ⟨W4, ρ4, μ4, F4, rfl, S4, (mv2.trans x3.mvr).trans mv4, kp2.trans kp4, ho2⟩
      | ct ρ4 μ4 => exact fun σ4 W4 F4 S4 mv4 kp4 => ⟨W4, ρ4, μ4, F4, rfl, S4, (mv2.trans x3.mvr).trans mv4, kp2.trans kp4, ho2⟩
      | bk ρ4 μ4 =>
        cases ho2
        exact fun σ4 W4 F4 S4 mv4 kp4 => h2 σ4 W4 F4 S4 (x3.mvr.trans mv4) kp4
      | rt d ρ4 μ4 =>
        cases ho2
        exact fun v σ4 W4 G F4 r S4 nd own mv4 kp4 => h2 v σ4 W4 G F4 r S4 nd own (x3.mvr.trans mv4) kp4
      | ex c fs ρ4 μ4 =>
        cases ho2
        exact fun dx σ4 W4 F4 r S4 mv4 kp4 => h2 dx σ4 W4 F4 r S4 (x3.mvr.trans mv4) kp4
    | false =>
      rw [if_neg Bool.false_ne_true] at ho2 ⊢
      cases ho2
      exact h2 σ2 W3 F2 S3 x3.mvr Kept.refl
/-! ### a, b = e -/
def fSetT (gt : D → List D → Option (List D)) (q : FQ) : FS := fun ρ μ => (q ρ μ).bind fun d => if data d = true then (gt d ρ).map fun ρ' => .nx ρ' μ else none
theorem ps1_setT {tg : Expr} {vs : List Nat} {gt : D → List D → Option (List D)} (he : PQ X e q) (hg : PGD X tg vs gt) (hs : swapsWithSole [tg] e pos.line X.env = pure false := by rfl) (hw : swappedStores [tg] e X.env = pure none := by rfl)
    (h1 : (assignEach [tg] X.env).map (·.2) = [assign tg X.env] := by rfl) (hv : ∀ i ∈ ob, i ∉ vs := by decide) : PS1 X ob Wx (.Assign [tg] e pos) (fSetT gt q) := by
  obtain ⟨te, p, k⟩ := he
  obtain ⟨tgt, p1, k1⟩ := hg
  refine ⟨_, ps_asg p p1 hs hw h1, fun E σ W ρ μ F S o ho h => ?_⟩
  obtain ⟨d, e1, ho⟩ := bind_some ho
  by_cases hd : data d = true
  case neg => rw [if_neg hd] at ho; cases ho
  rw [if_pos hd] at ho
  obtain ⟨ρ', e2, z⟩ := map_some ho
  subst z
  refine k σ W ρ μ F S d e1 _ fun v W1 G x1 r1 => ?_
  have z := R_data d hd r1
  subst z
  exact k1 σ W1 ρ μ F d v (S.ext x1) r1 ρ' e2 _ fun σ' F' S' sub hw => h σ' W1 F' S' (x1.mv sub) (Kept.of_wipe hw hv)
/-! ### x += e -/
def fAug (i : Nat) (o : D → D → Option D) (q : FQ) : FS := fun ρ μ => (qVar i ρ μ).bind fun x => (q ρ μ).bind fun y => (o x y).bind fun d => if data x = true ∧ data d = true then some (.nx (ρ.set i d) μ) else none
theorem ps1_aug {i : Nat} {x : Str} {pos' : Pos} {op : Operator} {o : D → D → Option D} (hN : X.N.Nodup) (hi : X.N[i]? = some x) (hx : Loc X.env.scope x) (ho : OpD X (inplaceOp op) o) (he : PQ X e q) (hf : X.fn x = true ∨ X.env.scope.names.lookup x = some .local := by first | exact .inl rfl | exact .inr rfl) (hob : i ∉ ob := by decide) :
    PS1 X ob Wx (.AugAssign (.Name x pos') op e pos) (fAug i o q) := by
  obtain ⟨r, hr, kr⟩ := ho
  obtain ⟨te, p, k⟩ := he
  refine ⟨_, ps_aug hN hi hx p (ti := r) hr hf, fun E σ W ρ μ F S so hso h => ?_⟩
  obtain ⟨d0, e1, hso⟩ := bind_some hso
  obtain ⟨d1, e2, hso⟩ := bind_some hso
  obtain ⟨d, e3, hso⟩ := bind_some hso
  by_cases hd : data d0 = true ∧ data d = true
  case neg => rw [if_neg hd] at hso; cases hso
  rw [if_pos hd] at hso
  cases hso
  have hr0 : ρ[i]? = some d0 ∧ d0 ≠ .un := by
    unfold qVar at e1
    cases e : ρ[i]? with
    | none => rw [e] at e1; cases e1
    | some dd =>
      rw [e] at e1
      cases dd <;> first
        | (cases e1; done)
        | (have z := Option.some.inj e1; subst z; exact ⟨rfl, fun z => nomatch z⟩)
  obtain ⟨F1, F2, h1, h2, h3⟩ := S.ex
  obtain ⟨v0, G0, s1, s2⟩ := RS_get h1 hr0.1 hr0.2
  refine ⟨v0, s1, k σ W ρ μ F S d1 e2 _ fun v1 W1 G1 x1 r1 => ?_⟩
  refine kr W1 d0 d1 v0 v1 G0 G1 x1.ok (R_ext x1 d0 s2) r1 d e3 _ fun v W2 G x2 r2 => ?_
  have z := R_data d hd.2 r2
  subst z
  have x12 := x1.trans x2
  obtain ⟨F', S', sub⟩ := (S.ext x12).set (i := i) (R1_of r2)
  exact h _ W2 F' S' (x12.mv sub) (Kept.set hob)
def dIAdd : D → D → Option D
  | .int i, .int j => some (.int (i + j))
  | .str a, .str b => if a.length + b.length ≤ LIM then some (.str (a ++ b)) else none
  | _, _ => none
theorem opd_iadd : OpD X (inplaceOp .Add) dIAdd := by
  refine ⟨_, (iop_add (X := X)).or iop_add_str, fun W x y u v G1 G2 ok r1 r2 d hd Q q => ?_⟩
  cases x with
  | int i =>
    cases y with
    | int j =>
      cases hd
      obtain ⟨rfl, _⟩ := r1
      obtain ⟨rfl, _⟩ := r2
      exact .inl ⟨i, j, rfl, rfl, q _ W [] (Ext.refl ok) ⟨rfl, rfl⟩⟩
    | _ => cases hd
  | str a =>
    cases y with
    | str b =>
      obtain ⟨rfl, _⟩ := r1
      obtain ⟨rfl, _⟩ := r2
      have hd2 : (if a.length + b.length ≤ LIM then some (D.str (a ++ b)) else none) = some d := hd
      by_cases hl : a.length + b.length ≤ LIM
      · rw [if_pos hl] at hd2
        cases hd2
        exact .inr ⟨tr a, tr b, rfl, rfl, by rw [tr_length, tr_length]; exact lim_ok hl, q _ W [] (Ext.refl ok) ⟨by rw [tr_append], rfl⟩⟩
      · rw [if_neg hl] at hd2
        cases hd2
    | _ => cases hd
  | _ => cases y <;> cases hd
theorem opd_isub : OpD X (inplaceOp .Sub) dSub := opd_int0 iop_sub fun _ _ _ => ⟨rfl, rfl⟩
end
/-! ### one slot changed in place -/
theorem Sta.lens {K : PySem.W.Frag} {W : Wd} {σ : L2.St} {ρ μ : List D} {F : List Addr} {i : Nat} {d : D} (S : Sta K W σ ρ μ F) (hi : ρ[i]? = some d) (hne : d ≠ .un) : ∃ v B, σ[i]? = some (some v) ∧ R K W d v B ∧ (∀ a ∈ B, a ∈ F) ∧ B.Nodup ∧
    ∀ (W' : Wd) (d' : D) (G : List Addr), WOk W' → W'.m = W.m → Mv W W' B G → R K W' d' v G → G.Nodup → (∀ a ∈ G, Own W' a) → ∃ F', Sta K W' σ (ρ.set i d') μ F' ∧ Mv W W' F F' := by
  obtain ⟨⟨F1, F2, h1, h2, h3⟩, nd, own, ok⟩ := S
  obtain ⟨v, A, B, C, q1, q2, q3, q4⟩ := RS_lens h1 hi hne
  subst q2
  subst h3
  have pm : ∀ B : List Addr, (A ++ (B ++ C) ++ F2).Perm (B ++ (A ++ C ++ F2)) := fun B => by
    rw [List.append_assoc A, List.append_assoc B, List.append_assoc A]
    refine (List.perm_append_comm_assoc A B (C ++ F2)).trans ?_
    exact List.Perm.refl _
  have nd2 := (pm B).nodup_iff.mp nd
  have ndB := List.nodup_append.mp nd2
  have inB : ∀ a ∈ B, a ∈ A ++ (B ++ C) ++ F2 := fun a ha => (pm B).mem_iff.mpr (List.mem_append_left _ ha)
  have inO : ∀ a ∈ A ++ C ++ F2, a ∈ A ++ (B ++ C) ++ F2 ∧ a ∉ B := fun a ha => ⟨(pm B).mem_iff.mpr (List.mem_append_right _ ha), fun z => ndB.2.2 a z a ha rfl⟩
  refine ⟨v, B, q1, q3, inB, ndB.1, fun W' d' G ok' hm mv r ndG ownG => ?_⟩
  have lt := mv.lt fun a ha => own a (inB a ha)
  have stay : ∀ a ∈ A ++ C ++ F2, W'.H a = W.H a := fun a ha => by
    obtain ⟨h4, h5⟩ := inO a ha
    obtain ⟨_, w⟩ := own a h4
    rcases w with ⟨xs, w⟩ | ⟨Cc, dx, fs, w⟩
    · rw [w]
      exact mv.keep a _ w h5
    · rw [w]
      exact mv.keep a _ w h5
  have freshG : ∀ a ∈ G, a ∉ A ++ C ++ F2 := fun a ha z => by
    obtain ⟨h4, h5⟩ := inO a z
    rcases mv.own a ha with q | q
    · exact h5 q
    · obtain ⟨_, w⟩ := own a h4
      rcases w with ⟨xs, w⟩ | ⟨Cc, dx, fs, w⟩ <;> rw [q] at w <;> cases w
  refine ⟨A ++ (G ++ C) ++ F2, ⟨⟨_, F2, q4 W' d' G lt (fun b hb => stay b (List.mem_append_left _ hb)) r, by rw [hm]; exact RL_keep lt μ (fun b hb => stay b (List.mem_append_right _ hb)) h2, rfl⟩, ?_, fun a ha => ?_, ok'⟩, ⟨fun a o e h => mv.keep a o e fun z => h (inB a z), mv.fr, fun a h => ?_, fun a ha => ?_, mv.m⟩⟩
  · refine (pm G).nodup_iff.mpr (List.nodup_append.mpr ⟨ndG, ndB.2.1, fun a ha b hb z => ?_⟩)
    subst z
    exact freshG a ha hb
  · rcases List.mem_append.mp ((pm G).mem_iff.mp ha) with z | z
    · exact ownG a z
    · obtain ⟨h4, h5⟩ := inO a z
      obtain ⟨w1, w2⟩ := own a h4
      refine ⟨fun z' => ?_, by rw [stay a z]; exact w2⟩
      rcases mv.nf a z' with q | q | q
      · exact w1 q
      · rcases w2 with ⟨xs, w⟩ | ⟨Cc, dx, fs, w⟩ <;> rw [q] at w <;> cases w
      · exact h5 q
  · rcases mv.nf a h with q | q | q
    · exact .inl q
    · exact .inr (.inl q)
    · exact .inr (.inr (inB a q))
  · rcases List.mem_append.mp ((pm G).mem_iff.mp ha) with z | z
    · rcases mv.own a z with q | q
      · exact .inl (inB a q)
      · exact .inr q
    · exact .inl (inO a z).1
section
variable {X : Cx} {ob : List Nat} {Wx : WX} {e : Expr} {q : FQ} {pos : Pos}
/-! ### x.append(e), x the name of an own list -/
def fApp (i : Nat) (q : FQ) : FS := fun ρ μ => match ρ[i]? with
  | some (.ml ds) => (q ρ μ).bind fun d => if data d = true ∧ ds.length ≤ LIM then some (.nx (ρ.set i (.ml (ds ++ [d]))) μ) else none
  | _ => none
theorem ps1_app {i : Nat} {x : Str} {px apos cpos : Pos} (hcall : ∀ te : TE, PE X e te → PE X (.Call (.Attribute (.Name x px) "append" apos) [e] [] cpos) (tBM X.K "list" rAppend (tVar i) (tCons te tNil))) (he : PQ X e q)
    (hsw : swapsWith (.Call (.Attribute (.Name x px) "append" apos) [e] [] cpos) none pos.line X.env = pure false := by rfl) : PS1 X ob Wx (.Expr (.Call (.Attribute (.Name x px) "append" apos) [e] [] cpos) pos) (fApp i q) := by
  obtain ⟨te, p, k⟩ := he
  refine ⟨_, ps_expr (hcall te p) hsw, fun E σ W ρ μ F S o ho h => ?_⟩
  unfold fApp at ho
  split at ho
  case h_2 => cases ho
  case h_1 ds heq =>
    obtain ⟨d, e1, ho⟩ := bind_some ho
    by_cases hd : data d = true ∧ ds.length ≤ LIM
    case neg => rw [if_neg hd] at ho; cases ho
    rw [if_pos hd] at ho
    cases ho
    obtain ⟨v, B, q1, ⟨a, vs, F', rfl, h2, h3, hB⟩, _⟩ := S.lens heq (fun z => nomatch z)
    refine ⟨.ref a, q1, .inl ⟨rfl, vs, Evl.sq_of h2⟩, ?_⟩
    refine k σ W ρ μ F S d e1 _ fun y W1 G x1 r1 => ?_
    have z := R_data d hd.1 r1
    subst z
    have S1 := S.ext x1
    obtain ⟨v, B, q2, ⟨a2, vs2, F2, e2, h4, h5, hB2⟩, inF, ndB, next⟩ := S1.lens heq (fun z => nomatch z)
    rw [q1] at q2
    cases q2
    cases e2
    rw [x1.ex _ _ h2] at h4
    cases h4
    have ha : Own W1 a := S1.own a (inF a (by rw [hB2]; exact List.mem_cons_self ..))
    have lt : Lt W1 ⟨upd W1.H a (.lst (vs ++ [y])), W1.Fr, W1.m⟩ := Lt.upd_lst (x1.ex _ _ h2) ha.1
    have nd2 := List.nodup_cons.mp (hB2 ▸ ndB)
    obtain ⟨F3, S3, mv3⟩ := next ⟨upd W1.H a (.lst (vs ++ [y])), W1.Fr, W1.m⟩ (.ml (ds ++ [d])) (a :: F2) (fun b hb => by
        show upd W1.H a _ b ≠ none
        by_cases z : b = a
        · rw [z, upd_same]
          exact fun z => nomatch z
        · rw [upd_ne z]
          exact x1.ok b hb) rfl
      ⟨fun b o hb nb => by
        show upd W1.H a _ b = some o
        rw [upd_ne fun z => nb (by rw [z, hB2]; exact List.mem_cons_self ..)]
        exact hb, fun _ h => h, fun _ h => .inl h, fun b hb => .inl (by rw [hB2]; exact hb), ⟨[], (List.append_nil _).symm⟩⟩
      ⟨a, vs ++ [y], F2, rfl, upd_same, by
        have k1 : RL X.K ⟨upd W1.H a (.lst (vs ++ [y])), W1.Fr, W1.m⟩ ds vs F2 := RL_keep lt ds (fun b hb => by
          show upd W1.H a _ b = W1.H b
          exact upd_ne fun z => nd2.1 (z ▸ hb)) h5
        have k2 : RL X.K ⟨upd W1.H a (.lst (vs ++ [y])), W1.Fr, W1.m⟩ [d] [y] [] := ⟨y, [], [], [], rfl, R_lt lt d r1, ⟨rfl, rfl⟩, rfl⟩
        have z := RL_app k1 k2
        rw [List.append_nil] at z
        exact z, rfl⟩ (hB2 ▸ ndB) (fun b hb => by
        by_cases z : b = a
        · subst z
          exact ⟨ha.1, .inl ⟨_, upd_same⟩⟩
        · obtain ⟨w1, w2⟩ := S1.own b (inF b (by rw [hB2]; exact hb))
          refine ⟨w1, ?_⟩
          show (∃ xs, upd W1.H a _ b = _) ∨ ∃ C dx fs, upd W1.H a _ b = _
          rw [upd_ne z]
          exact w2)
    have lv : vs.length = ds.length := RL_len h3
    refine ⟨a, vs, y, rfl, rfl, x1.ex _ _ h2, lim_lt (by omega), ?_⟩
    exact h σ _ F3 S3 (x1.mvr.trans mv3) Kept.refl
end
/-! ### a quiet def -/
def runQ (N n : Nat) (f : FS) (ds : List D) : Option D := match f (ds ++ List.replicate (N - n) .un) [] with
  | some (.rt d _ _) => if data d = true then some d else none
  | some (.nx _ _) => some .non
  | _ => none
theorem RS_start {K : PySem.W.Frag} {W : Wd} : ∀ {ds : List D} {vs : List V} (m : Nat), RL K W ds vs [] → RS K W (ds ++ List.replicate m .un) (vs.map some ++ List.replicate m none) []
  | [], vs, m, r => by
    rw [r.1]
    show RS K W (List.replicate m .un) (List.replicate m none) []
    induction m with
    | zero => exact ⟨rfl, rfl⟩
    | succ m ih => exact ⟨none, List.replicate m none, [], [], rfl, rfl, ih, rfl⟩
  | d :: ds, vs, m, r => by
    obtain ⟨v, vs', F1, F2, h1, h2, h3, h4⟩ := r
    obtain ⟨rfl, rfl⟩ := List.append_eq_nil_iff.mp h4.symm
    rw [h1]
    exact ⟨some v, vs'.map some ++ List.replicate m none, [], [], rfl, R1_of h2, RS_start m h3, rfl⟩
theorem Mv.nilQ {W W' : Wd} {G : List Addr} (m : Mv W W' [] G) (ok : WOk W') (hm : W.m = []) : Ext W ⟨W'.H, W'.Fr, []⟩ :=
  ⟨fun a o e => m.keep a o e (fun z => nomatch z), m.fr, fun a e => (m.nf a e).elim .inl (fun z => z.elim .inr (fun z => nomatch z)), hm.symm, ok⟩
theorem fnq_def {P : Program} {w : World} {K : PySem.W.Frag} {mg : Str → Option Value} {base : Heap} {nm qual : Str} {params : Arguments} {body : List Stmt} {scope : Scope} {dvs0 : List V} {kws : List (Str × V)} {fa : Addr} {fd : FuncData} {N ps : List Str} {k n : Nat} {f : FS} {run : List D → Option D}
    (F : FunD K nm qual params body scope dvs0 kws fa fd) (Sc : FnScope N ps scope) (hn : ps.length = n)
    (h : ∀ (cdv : Value) (A : Around) (outer : List Env) (s : Shared) (H : Hp) (E : XK), Room k (A.deeper (envOfC qual scope s.heap.objs.size fa cdv)) → PSS (cxOf (L2.CX P w) P w K mg base N qual scope fa cdv A outer s H E) [] (fun _ _ _ _ => False) body f)
    (hr : ∀ ds d, run ds = some d → runQ N.length n f ds = some d) : FnOk P w K mg base (L2.CX P w) (k + 1) fa fd ps (spQ K n run) := by
  refine F.ok Sc (fun vs H Q E q => ?_) (fun cdv A outer s H vs Q E hroom q => ?_)
  · obtain ⟨W, ds, d, _, _, _, r, _, hl, _⟩ := q
    rw [RL_len r, hl, hn]
  · obtain ⟨W, ds, d, hH, hWm, ok, r, hdat, hl, hrun, hdd2, q⟩ := q
    subst hH
    obtain ⟨ts, p, kk⟩ := h cdv A outer s W.H E hroom
    refine ⟨ts, p, ?_⟩
    have lv : vs.length = n := by rw [RL_len r, hl]
    have e0 : L2.start N vs = vs.map some ++ List.replicate (N.length - n) none := by
      unfold L2.start
      rw [lv]
    rw [e0]
    have S : Sta K W (vs.map some ++ List.replicate (N.length - n) none) (ds ++ List.replicate (N.length - n) .un) [] [] := ⟨⟨[], [], RS_start _ r, by rw [hWm]; exact ⟨rfl, rfl⟩, rfl⟩, List.nodup_nil, (fun _ h => nomatch h), ok⟩
    have hq := hr ds d hrun
    unfold runQ at hq
    have noM : ∀ {σ' : L2.St} {W' : Wd} {ρ' μ' : List D} {F' : List Addr}, Sta K W' σ' ρ' μ' F' → True := fun _ => trivial
    cases e1 : f (ds ++ List.replicate (N.length - n) .un) [] with
    | none => rw [e1] at hq; cases hq
    | some o =>
      rw [e1] at hq
      refine kk _ _ W _ [] [] S o e1 ?_
      cases o with
      | nx ρ' μ' =>
        cases hq
        intro σ' W' F' S' mv kp
        refine q .non ⟨W'.H, W'.Fr, []⟩ ?_ ⟨rfl, rfl⟩
        exact mv.nilQ S'.ok hWm
      | rt d' ρ' μ' =>
        have hq2 : (if data d' = true then some d' else none) = some d := hq
        by_cases hd' : data d' = true
        case neg => rw [if_neg hd'] at hq2; cases hq2
        rw [if_pos hd'] at hq2
        cases hq2
        intro v σ' W' G F' rv S' nd own mv kp
        have z := R_data d hd' rv
        subst z
        refine q v ⟨W'.H, W'.Fr, []⟩ ?_ (R_m d hd' rv)
        exact mv.nilQ S'.ok hWm
      | _ => cases hq
theorem okq_def {P : Program} {w : World} {K : PySem.W.Frag} {mg : Str → Option Value} {base : Heap} {x nm qual : Str} {params : Arguments} {body : List Stmt} {scope : Scope} {dvs0 : List V} {kws : List (Str × V)} {fa : Addr} {fd : FuncData} {N ps : List Str} {k n : Nat} {dd : List D} {dvs : List V} {us : List Value} {f : FS} {run : List D → Option D}
    (F : FunD K nm qual params body scope dvs0 kws fa fd) (Sc : FnScope N ps scope) (hn : ps.length = n) (hb : Binds K fd ps us) (hv : Vals dvs us) (hdd : ∀ W : Wd, RL K W dd dvs []) (hdt : dataL dd = true) (hm : mg x = some (.ref fa))
    (h : ∀ (cdv : Value) (A : Around) (outer : List Env) (s : Shared) (H : Hp) (E : XK), Room k (A.deeper (envOfC qual scope s.heap.objs.size fa cdv)) → PSS (cxOf (L2.CX P w) P w K mg base N qual scope fa cdv A outer s H E) [] (fun _ _ _ _ => False) body f)
    (hr : ∀ ds d, run ds = some d → runQ N.length n f ds = some d) : OkQ P w K mg base x (k + 1) n dd run :=
  ⟨fa, fd, ps, dvs, us, fnq_def F Sc hn h hr, hb, hv, hdd, hdt, hm, F.kp⟩
/-! ### what the module's names stand for -/
theorem gld_str {K : PySem.W.Frag} {mg : Str → Option Value} {x : Str} {s : String} (h : ∃ t, mg x = some (.str (Str.ofString s) t)) : GlD K mg x (.str (ofS s)) := by
  obtain ⟨t, h⟩ := h
  exact ⟨.str (Str.ofString s), _, h, ⟨t, rfl⟩, fun W => ⟨congrArg V.str (tr_ofS s), rfl⟩⟩
/-- a written value of the top -/
def dvD : He.Dv → Option D
  | .int i => some (.int i)
  | .bl b => some (.bl b)
  | .non => some .non
  | _ => none
theorem gld_tup {K : PySem.W.Frag} {mg : Str → Option Value} {x : Str} {vs : List He.Dv} {ds : List D} (h : mg x = some (.ref (He.ga K x))) (ht : He.tupB K x vs = true) (hr : ∀ W : Wd, RL K W ds (vs.map (He.Dv.v K)) []) : GlD K mg x (.tup ds) :=
  ⟨.ref (He.ga K x), _, h, rfl, fun W => ⟨_, _, rfl, He.tupB_ok ht W.H, hr W⟩⟩
theorem rl_int {K : PySem.W.Frag} {W : Wd} {i : Int} {ds : List D} {vs : List V} (h : RL K W ds vs []) : RL K W (.int i :: ds) (.int i :: vs) [] := ⟨_, _, [], [], rfl, ⟨rfl, rfl⟩, h, rfl⟩
theorem rl_str {K : PySem.W.Frag} {W : Wd} {s : String} {ds : List D} {vs : List V} (h : RL K W ds vs []) : RL K W (.str (ofS s) :: ds) (.str (Str.ofString s) :: vs) [] := ⟨_, _, [], [], rfl, ⟨congrArg V.str (tr_ofS s), rfl⟩, h, rfl⟩
/-- the law at its script -/
theorem law_sp {K : PySem.W.Frag} {run : List D → Option D} {H : Hp} {a : Addr} {ns : List Int} {E : XK} (hS : SqL K H a (ns.map V.int)) (hr : run [.lst (ns.map D.int)] = some (.bl true)) : spQ K 1 run [.ref a] H (fun v _ => v = .bl true) E := by
  have rl : ∀ (W : Wd) (l : List Int), RL K W (l.map D.int) (l.map V.int) [] := fun W l => by
    induction l with
    | nil => exact ⟨rfl, rfl⟩
    | cons i l ih => exact rl_int ih
  have dl : ∀ l : List Int, dataL (l.map D.int) = true := fun l => by
    induction l with
    | nil => rfl
    | cons i l ih => exact Bool.and_eq_true_iff.mpr ⟨rfl, ih⟩
  refine ⟨⟨H, fun b => H b ≠ none, []⟩, [.lst (ns.map D.int)], .bl true, rfl, rfl, fun b h => h, ⟨.ref a, [], [], [], rfl, ⟨a, _, rfl, ?_, rl _ ns, rfl⟩, ⟨rfl, rfl⟩, rfl⟩, Bool.and_eq_true_iff.mpr ⟨dl ns, rfl⟩, rfl, hr, rfl, fun v W' x r => r.1⟩
  rcases hS with h | h
  · refine .inl ⟨h, ?_⟩
    rcases h with h | ⟨o, h⟩
    · show H a ≠ none
      rw [h]
      exact fun z => nomatch z
    · show H a ≠ none
      rw [h]
      exact fun z => nomatch z
  · exact .inr (.inr h)
/-- any world's exceptions -/
def CXw : CXT := fun o H s E e s' => ∃ (P : Program) (w : World), L2.CX P w o H s E e s'
theorem cx_wide {P : Program} {w : World} {K : PySem.W.Frag} {mg : Str → Option Value} {base : Heap} {k : Nat} {f : Addr} {fd : FuncData} {ps : List Str} {sp : Sp} (F : FnOk P w K mg base (L2.CX P w) k f fd ps sp) : FnOk P w K mg base CXw k f fd ps sp :=
  ⟨F.len, fun A outer s H args us vs Q E hr e0 hb hv hs => codeAny_mono (F.run A outer s H args us vs Q E hr e0 hb hv hs) fun r s' q => by
    cases r with
    | error e => exact ⟨P, w, q⟩
    | ok fl => cases fl <;> exact q⟩
theorem cxw_none {o : List Env} {H : Hp} {s : Shared} {e : Value} {s' : Shared} (h : CXw o H s (fun _ _ _ => False) e s') : False := by
  obtain ⟨_, _, _, _, _, _, _, _, _, _, _, _, _, _, z⟩ := h
  exact z.elim
end Fw
/-! # reckoning mirrors: outermost first -/
namespace Fw
open PySem PySem.Spec PyProof.Rows L2
def seqK (o : Option SO) (g : FS) : Option SO := o.bind fun o => match o with
  | .nx ρ' μ' => g ρ' μ'
  | o => some o
theorem fSeq_eq (f g : FS) (x0 : D) (ρ μ : List D) : fSeq f g (x0 :: ρ) μ = seqK (f (x0 :: ρ) μ) g := rfl
theorem seqK_nx (ρ μ : List D) (g : FS) : seqK (some (.nx ρ μ)) g = g ρ μ := rfl
theorem seqK_rt (d : D) (ρ μ : List D) (g : FS) : seqK (some (.rt d ρ μ)) g = some (.rt d ρ μ) := rfl
theorem seqK_ex (c : Str) (fs : List (Str × D)) (ρ μ : List D) (g : FS) : seqK (some (.ex c fs ρ μ)) g = some (.ex c fs ρ μ) := rfl
/-- the end of a turn -/
def turnK (g : D → List D → Option (List D)) (b : FS) (ds : List D) (o : Option SO) : Option SO := o.bind fun o => match o with
  | .nx ρ2 μ2 => forL g b ρ2 μ2 ds
  | .ct ρ2 μ2 => forL g b ρ2 μ2 ds
  | .bk ρ2 μ2 => some (.nx ρ2 μ2)
  | o => some o
theorem forL_nil (g : D → List D → Option (List D)) (b : FS) (ρ μ : List D) : forL g b ρ μ [] = some (.nx ρ μ) := rfl
theorem forL_cons (g : D → List D → Option (List D)) (b : FS) (ρ μ : List D) (d : D) (ds : List D) : forL g b ρ μ (d :: ds) = (g d ρ).bind fun ρ1 => turnK g b ds (b ρ1 μ) := rfl
theorem turnK_nx (g : D → List D → Option (List D)) (b : FS) (ds ρ μ : List D) : turnK g b ds (some (.nx ρ μ)) = forL g b ρ μ ds := rfl
theorem turnK_rt (g : D → List D → Option (List D)) (b : FS) (ds : List D) (d : D) (ρ μ : List D) : turnK g b ds (some (.rt d ρ μ)) = some (.rt d ρ μ) := rfl
/-- one turn that goes on -/
theorem forL_turn {g : D → List D → Option (List D)} {b : FS} {ρ μ ρ1 ρ2 μ2 : List D} {d : D} {ds : List D} (h1 : g d ρ = some ρ1) (h2 : b ρ1 μ = some (.nx ρ2 μ2)) : forL g b ρ μ (d :: ds) = forL g b ρ2 μ2 ds := by
  rw [forL_cons, h1]
  show turnK g b ds (b ρ1 μ) = _
  rw [h2]
  rfl
/-- a loop all of whose turns go on, I kept -/
theorem forL_all {g : D → List D → Option (List D)} {b : FS} {μ : List D} {I : List D → Prop} : ∀ (ds : List D) (ρ : List D), I ρ → (∀ d ∈ ds, ∀ ρ, I ρ → ∃ ρ1 ρ2, g d ρ = some ρ1 ∧ b ρ1 μ = some (.nx ρ2 μ) ∧ I ρ2) → ∃ ρ', forL g b ρ μ ds = some (.nx ρ' μ) ∧ I ρ'
  | [], ρ, h, _ => ⟨ρ, rfl, h⟩
  | d :: ds, ρ, h, k => by
    obtain ⟨ρ1, ρ2, h1, h2, h3⟩ := k d (List.mem_cons_self ..) ρ h
    obtain ⟨ρ', h4, h5⟩ := forL_all ds ρ2 h3 fun d hd => k d (List.mem_cons_of_mem _ hd)
    exact ⟨ρ', by rw [forL_turn h1 h2, h4], h5⟩
/-- the def's end -/
def endK (o : Option SO) : Option D := match o with
  | some (.rt d _ _) => if data d = true then some d else none
  | some (.nx _ _) => some .non
  | _ => none
theorem runQ_eq (N n : Nat) (f : FS) (ds : List D) : runQ N n f ds = endK (f (ds ++ List.replicate (N - n) .un) []) := by
  unfold runQ endK
  cases f (ds ++ List.replicate (N - n) .un) [] with
  | none => rfl
  | some o => cases o <;> rfl
theorem endK_rt (d : D) (ρ μ : List D) : endK (some (.rt d ρ μ)) = if data d = true then some d else none := rfl
theorem endK_nx (ρ μ : List D) : endK (some (.nx ρ μ)) = some .non := rfl
/-! ### the pieces by value -/
def varK (o : Option D) : Option D := match o with
  | some .un => none
  | o => o
theorem qVar_zero (d : D) (ρ μ : List D) : qVar 0 (d :: ρ) μ = varK (some d) := by cases d <;> rfl
theorem qVar_succ (i : Nat) (d : D) (ρ μ : List D) : qVar (i + 1) (d :: ρ) μ = qVar i ρ μ := rfl
theorem varK_int (i : Int) : varK (some (.int i)) = some (.int i) := rfl
theorem varK_str (i : List Nat) : varK (some (.str i)) = some (.str i) := rfl
theorem varK_bl (i : Bool) : varK (some (.bl i)) = some (.bl i) := rfl
theorem varK_non : varK (some .non) = some .non := rfl
theorem varK_tup (i : List D) : varK (some (.tup i)) = some (.tup i) := rfl
theorem varK_lst (i : List D) : varK (some (.lst i)) = some (.lst i) := rfl
theorem varK_ml (i : List D) : varK (some (.ml i)) = some (.ml i) := rfl
def blK (o : Option D) : Option Bool := match o with
  | some (.bl b) => some b
  | _ => none
theorem qB_eq (f : FQ) (x0 : D) (ρ μ : List D) : qB f (x0 :: ρ) μ = blK (f (x0 :: ρ) μ) := rfl
theorem blK_bl (b : Bool) : blK (some (.bl b)) = some b := rfl
def andK (o : Option D) (r : Option D) : Option D := match o with
  | some (.bl true) => r
  | some (.bl false) => some (.bl false)
  | _ => none
def orK (o : Option D) (r : Option D) : Option D := match o with
  | some (.bl false) => r
  | some (.bl true) => some (.bl true)
  | _ => none
theorem qAnd_eq (f g : FQ) (x0 : D) (ρ μ : List D) : qAnd f g (x0 :: ρ) μ = andK (f (x0 :: ρ) μ) (g (x0 :: ρ) μ) := rfl
theorem qOr_eq (f g : FQ) (x0 : D) (ρ μ : List D) : qOr f g (x0 :: ρ) μ = orK (f (x0 :: ρ) μ) (g (x0 :: ρ) μ) := rfl
theorem andK_t (r : Option D) : andK (some (.bl true)) r = r := rfl
theorem andK_f (r : Option D) : andK (some (.bl false)) r = some (.bl false) := rfl
theorem orK_f (r : Option D) : orK (some (.bl false)) r = r := rfl
theorem orK_t (r : Option D) : orK (some (.bl true)) r = some (.bl true) := rfl
theorem andK_b (b c : Bool) : andK (some (.bl b)) (some (.bl c)) = some (.bl (b && c)) := by cases b <;> rfl
theorem orK_b (b c : Bool) : orK (some (.bl b)) (some (.bl c)) = some (.bl (b || c)) := by cases b <;> rfl
def notK (o : Option D) : Option D := match o with
  | some (.bl b) => some (.bl (!b))
  | _ => none
theorem qNot_eq (f : FQ) (x0 : D) (ρ μ : List D) : qNot f (x0 :: ρ) μ = notK (f (x0 :: ρ) μ) := rfl
theorem notK_b (b : Bool) : notK (some (.bl b)) = some (.bl (!b)) := rfl
/-- a chain of two comparisons -/
def chK (o : Option D) (r : Option D) : Option D := match o with
  | some (.bl true) => r
  | some (.bl false) => some (.bl false)
  | _ => none
theorem q3_eq (o o' : D → D → Option D) (f g h : FQ) (x0 : D) (ρ μ : List D) : q3 o o' f g h (x0 :: ρ) μ = (f (x0 :: ρ) μ).bind fun x => (g (x0 :: ρ) μ).bind fun y => andK (o x y) ((h (x0 :: ρ) μ).bind fun z => o' y z) := rfl
def appK (i : Nat) (ρ μ : List D) (q : FQ) (o : Option D) : Option SO := match o with
  | some (.ml ds) => (q ρ μ).bind fun d => if data d = true ∧ ds.length ≤ LIM then some (.nx (ρ.set i (.ml (ds ++ [d]))) μ) else none
  | _ => none
theorem fApp_eq (i : Nat) (q : FQ) (x0 : D) (ρ μ : List D) : fApp i q (x0 :: ρ) μ = appK i (x0 :: ρ) μ q (x0 :: ρ)[i]? := by
  unfold fApp appK
  rfl
theorem appK_ml (i : Nat) (ρ μ : List D) (q : FQ) (ds : List D) : appK i ρ μ q (some (.ml ds)) = (q ρ μ).bind fun d => if data d = true ∧ ds.length ≤ LIM then some (.nx (ρ.set i (.ml (ds ++ [d]))) μ) else none := rfl
def fzK (i : Nat) (ρ : List D) (o : Option D) : List D := match o with
  | some (.ml ds) => if dataL ds = true then ρ.set i (.lst ds) else ρ
  | _ => ρ
theorem fFz_eq (i : Nat) (f : FS) (x0 : D) (ρ μ : List D) : fFz i f (x0 :: ρ) μ = f (fzK i (x0 :: ρ) (x0 :: ρ)[i]?) μ := rfl
theorem fzK_ml (i : Nat) (ρ ds : List D) : fzK i ρ (some (.ml ds)) = if dataL ds = true then ρ.set i (.lst ds) else ρ := rfl
def rgK (o : Option D) : Option (List D) := match o with
  | some (.int j) => if small62 j = true then some (rangeD 0 j) else none
  | _ => none
theorem aR1_eq (f : FQ) (x0 : D) (ρ μ : List D) : aR1 f (x0 :: ρ) μ = rgK (f (x0 :: ρ) μ) := rfl
theorem rgK_int (j : Int) : rgK (some (.int j)) = if small62 j = true then some (rangeD 0 j) else none := rfl
def rg2K (x y : D) : Option (List D) := match x, y with
  | .int i, .int j => if small62 i = true ∧ small62 j = true then some (rangeD i j) else none
  | _, _ => none
theorem aR2_eq (f g : FQ) (x0 : D) (ρ μ : List D) : aR2 f g (x0 :: ρ) μ = (f (x0 :: ρ) μ).bind fun x => (g (x0 :: ρ) μ).bind fun y => rg2K x y := by
  unfold aR2
  cases f (x0 :: ρ) μ with
  | none => rfl
  | some x =>
    cases g (x0 :: ρ) μ with
    | none => cases x <;> rfl
    | some y => cases x <;> cases y <;> rfl
theorem rg2K_int (i j : Int) : rg2K (.int i) (.int j) = if small62 i = true ∧ small62 j = true then some (rangeD i j) else none := rfl
def osK (o : Option D) : Option (Option Int) := match o with
  | some (.int i) => some (some i)
  | _ => none
theorem oSome_eq (f : FQ) (x0 : D) (ρ μ : List D) : oSome f (x0 :: ρ) μ = osK (f (x0 :: ρ) μ) := rfl
theorem osK_int (i : Int) : osK (some (.int i)) = some (some i) := rfl
def m1K (o : List Nat → List D → Option D) (x : Option D) (r : Option D) : Option D := match x with
  | some (.str s) => r.bind fun d => o s [d]
  | _ => none
theorem qM1_eq (o : List Nat → List D → Option D) (f g : FQ) (x0 : D) (ρ μ : List D) : qM1 o f g (x0 :: ρ) μ = m1K o (f (x0 :: ρ) μ) (g (x0 :: ρ) μ) := rfl
theorem m1K_str (o : List Nat → List D → Option D) (s : List Nat) (d : D) : m1K o (some (.str s)) (some d) = o s [d] := rfl
def m0K (o : List Nat → List D → Option D) (x : Option D) : Option D := match x with
  | some (.str s) => o s []
  | _ => none
theorem qM0_eq (o : List Nat → List D → Option D) (f : FQ) (x0 : D) (ρ μ : List D) : qM0 o f (x0 :: ρ) μ = m0K o (f (x0 :: ρ) μ) := rfl
theorem m0K_str (o : List Nat → List D → Option D) (s : List Nat) : m0K o (some (.str s)) = o s [] := rfl
/-! ### operators at written kinds -/
theorem dAdd_int (i j : Int) : dAdd (.int i) (.int j) = some (.int (i + j)) := rfl
theorem dAdd_str (a b : List Nat) : dAdd (.str a) (.str b) = if a.length + b.length ≤ LIM then some (.str (a ++ b)) else none := rfl
theorem dAdd_tup (a b : List D) : dAdd (.tup a) (.tup b) = if a.length + b.length ≤ LIM ∧ dataL a = true ∧ dataL b = true then some (.tup (a ++ b)) else none := rfl
theorem dAdd_lst (a b : List D) : dAdd (.lst a) (.lst b) = if a.length + b.length ≤ LIM then some (.lst (a ++ b)) else none := rfl
theorem dAdd_mlst (a b : List D) : dAdd (.ml a) (.lst b) = if dataL a = true then (if a.length + b.length ≤ LIM then some (.lst (a ++ b)) else none) else none := by
  show ((if dataL a = true then some a else none).bind _) = _
  by_cases h : dataL a = true
  · rw [if_pos h, if_pos h]
    rfl
  · rw [if_neg h, if_neg h]
    rfl
theorem dInt_int (C : Int → Int → Bool) (g : Int → Int → D) (i j : Int) : dInt C g (.int i) (.int j) = if C i j = true then some (g i j) else none := rfl
theorem eqDB_atom {x y : D} {u v : V} (h1 : atom x = some u) (h2 : atom y = some v) (h3 : scal u v = true) : eqDB x y = some (decide (u = v)) := by
  unfold eqDB
  rw [h1, h2]
  exact if_pos h3
theorem dEq_int (i j : Int) : dEq (.int i) (.int j) = some (.bl (decide (i = j))) := by
  unfold dEq
  rw [eqDB_atom rfl rfl rfl]
  exact congrArg (fun b => some (D.bl b)) (by rw [dec_int]; exact (decide_eq_decide.mpr Iff.rfl ▸ rfl))
theorem dNe_int (i j : Int) : dNe (.int i) (.int j) = some (.bl (!decide (i = j))) := by
  unfold dNe
  rw [eqDB_atom rfl rfl rfl]
  exact congrArg (fun b => some (D.bl !b)) (by rw [dec_int]; exact (decide_eq_decide.mpr Iff.rfl ▸ rfl))
theorem dec_tr (a b : List Nat) : decide (V.str (tr a) = V.str (tr b)) = decide (a = b) := by
  by_cases h : a = b
  · subst h
    rw [decide_eq_true rfl, decide_eq_true rfl]
  · rw [decide_eq_false h, decide_eq_false]
    exact fun z => h (tr_inj (V.str.inj z))
theorem dEq_str (a b : List Nat) : dEq (.str a) (.str b) = some (.bl (decide (a = b))) := by
  unfold dEq
  rw [eqDB_atom rfl rfl rfl, dec_tr]
  rfl
theorem dNe_str (a b : List Nat) : dNe (.str a) (.str b) = some (.bl (!decide (a = b))) := by
  unfold dNe
  rw [eqDB_atom rfl rfl rfl, dec_tr]
  rfl
theorem dEq_bl (a b : Bool) : dEq (.bl a) (.bl b) = some (.bl (a == b)) := by cases a <;> cases b <;> rfl
theorem dNe_bl (a b : Bool) : dNe (.bl a) (.bl b) = some (.bl (a != b)) := by cases a <;> cases b <;> rfl
theorem dLt_int (i j : Int) : dLt (.int i) (.int j) = some (.bl (decide (i < j))) := rfl
theorem dLe_int (i j : Int) : dLe (.int i) (.int j) = some (.bl (decide (i ≤ j))) := rfl
theorem dGt_int (i j : Int) : dGt (.int i) (.int j) = some (.bl (decide (j < i))) := rfl
theorem dGe_int (i j : Int) : dGe (.int i) (.int j) = some (.bl (decide (j ≤ i))) := rfl
theorem dLe_str (a b : List Nat) : dLe (.str a) (.str b) = some (.bl (!decide (b < a))) := rfl
theorem dLen_str (s : List Nat) : dLen (.str s) = if s.length ≤ LIM then some (.int s.length) else none := rfl
theorem dLen_lst (s : List D) : dLen (.lst s) = some (.int s.length) := rfl
theorem dLen_ml (s : List D) : dLen (.ml s) = some (.int s.length) := rfl
theorem dLen_tup (s : List D) : dLen (.tup s) = some (.int s.length) := rfl
theorem dIx_lst (ds : List D) (i : Int) : dIx (.lst ds) (.int i) = ixAt ds i := rfl
theorem dIx_ml (ds : List D) (i : Int) : dIx (.ml ds) (.int i) = ixAt ds i := rfl
theorem dIx_tup (ds : List D) (i : Int) : dIx (.tup ds) (.int i) = ixAt ds i := rfl
theorem dIx_str (s : List Nat) (i : Int) : dIx (.str s) (.int i) = if s.length ≤ LIM then (ixAt s i).map fun c => .str [c] else none := rfl
theorem o1_eq (g : D → Option D) (d : D) : o1 g [d] = g d := rfl
theorem o2_eq (g : D → D → Option D) (d e : D) : o2 g [d, e] = g d e := rfl
theorem oStr_eq (h : List Nat → List Nat → D) (s t : List Nat) : oStr h s [.str t] = some (h s t) := rfl
theorem itemsF_lst (ds : List D) : itemsF (.lst ds) = some ds := rfl
theorem itemsF_str (s : List Nat) : itemsF (.str s) = some (s.map fun c => .str [c]) := rfl
theorem itemsF_tup (ds : List D) : itemsF (.tup ds) = if dataL ds = true then some ds else none := rfl
theorem dSl_str (s : List Nat) (lo hi : Option Int) : dSl (.str s) lo hi = if s.length ≤ LIM then some (.str (cut s lo hi)) else none := rfl
theorem dSl_lst (ds : List D) (lo hi : Option Int) : dSl (.lst ds) lo hi = some (.lst (cut ds lo hi)) := rfl
theorem dSl_tup (ds : List D) (lo hi : Option Int) : dSl (.tup ds) lo hi = if dataL ds = true then some (.tup (cut ds lo hi)) else none := rfl
/-- up to n -/
theorem cut_take {α : Type} (xs : List α) (n : Nat) : cut xs none (some (n : Int)) = xs.take n := by
  unfold cut
  rw [HT.sIx_none, HT.sIx_nat, List.drop_zero, Nat.sub_zero]
  by_cases h : n ≤ xs.length
  · rw [Nat.min_eq_left h]
  · rw [Nat.min_eq_right (by omega), List.take_of_length_le (by omega), List.take_of_length_le (by omega)]
theorem cut_drop {α : Type} (xs : List α) (n : Nat) : cut xs (some (n : Int)) none = xs.drop n := by
  unfold cut
  rw [HT.sIx_none, HT.sIx_nat]
  by_cases h : n ≤ xs.length
  · rw [Nat.min_eq_left h, List.take_of_length_le (by rw [List.length_drop]; omega)]
  · rw [Nat.min_eq_right (by omega), Nat.sub_self, List.take_zero, List.drop_eq_nil_of_le (by omega)]
theorem ixAt_nat {α : Type} (xs : List α) (i : Nat) : ixAt xs (i : Int) = xs[i]? := by
  unfold ixAt
  rw [if_pos (by omega), Int.toNat_natCast]
theorem ixAt_pos {α : Type} {xs : List α} {i : Int} (h : 0 ≤ i) : ixAt xs i = xs[i.toNat]? := by
  unfold ixAt
  rw [if_pos h]
theorem dataL_ints : ∀ l : List Int, dataL (l.map D.int) = true
  | [] => rfl
  | _ :: l => Bool.and_eq_true_iff.mpr ⟨rfl, dataL_ints l⟩
theorem dataL_strs : ∀ l : List (List Nat), dataL (l.map D.str) = true
  | [] => rfl
  | _ :: l => Bool.and_eq_true_iff.mpr ⟨rfl, dataL_strs l⟩
/-! ### all others, at a list of slots that is seen -/
section
variable (x0 : D) (ρ μ : List D)
theorem qC_eq (d : D) : qC d (x0 :: ρ) μ = some d := rfl
theorem q2_eq (o : D → D → Option D) (f g : FQ) : q2 o f g (x0 :: ρ) μ = (f (x0 :: ρ) μ).bind fun x => (g (x0 :: ρ) μ).bind fun y => o x y := rfl
theorem qIf_eq (t : FB) (f g : FQ) : qIf t f g (x0 :: ρ) μ = (t (x0 :: ρ) μ).bind fun x => if x = true then f (x0 :: ρ) μ else g (x0 :: ρ) μ := rfl
theorem qTup_eq (k : FA) : qTup k (x0 :: ρ) μ = (k (x0 :: ρ) μ).bind fun ds => if ds.length ≤ 100 then some (.tup ds) else none := rfl
theorem qN_eq (k : FA) : qN k (x0 :: ρ) μ = (k (x0 :: ρ) μ).map D.lst := rfl
theorem qSl_eq (f : FQ) (lo hi : FO) : qSl f lo hi (x0 :: ρ) μ = (f (x0 :: ρ) μ).bind fun x => (lo (x0 :: ρ) μ).bind fun l => (hi (x0 :: ρ) μ).bind fun h => dSl x l h := rfl
theorem oNone_eq : oNone (x0 :: ρ) μ = some none := rfl
theorem qCall_eq (o : List D → Option D) (k : FA) : qCall o k (x0 :: ρ) μ = (k (x0 :: ρ) μ).bind o := rfl
theorem qRun_eq (n : Nat) (dd : List D) (run : List D → Option D) (k : FA) : qRun n dd run k (x0 :: ρ) μ = (k (x0 :: ρ) μ).bind fun ds => if dataL ds = true ∧ (ds ++ dd).length = n then (run (ds ++ dd)).bind fun d => if data d = true then some d else none else none := rfl
theorem qIsi_eq (T : String) (f : FQ) : qIsi T f (x0 :: ρ) μ = (f (x0 :: ρ) μ).bind fun d => (tyN d).bind fun n => (kitB n T).map D.bl := rfl
theorem aNil_eq : aNil (x0 :: ρ) μ = some [] := rfl
theorem aCons_eq (f : FQ) (k : FA) : aCons f k (x0 :: ρ) μ = (f (x0 :: ρ) μ).bind fun d => (k (x0 :: ρ) μ).map fun ds => d :: ds := rfl
theorem aData_eq (k : FA) : aData k (x0 :: ρ) μ = (k (x0 :: ρ) μ).bind fun ds => if dataL ds = true ∧ ds.length ≤ 100 then some ds else none := rfl
theorem aF_eq (f : FQ) : aF f (x0 :: ρ) μ = (f (x0 :: ρ) μ).bind itemsF := rfl
theorem aQ_eq (f : FQ) : aQ f (x0 :: ρ) μ = (f (x0 :: ρ) μ).bind itemsQ := rfl
theorem bAnd_eq (t u : FB) : bAnd t u (x0 :: ρ) μ = (t (x0 :: ρ) μ).bind fun x => if x = true then u (x0 :: ρ) μ else some false := rfl
theorem bOr_eq (t u : FB) : bOr t u (x0 :: ρ) μ = (t (x0 :: ρ) μ).bind fun x => if x = true then some true else u (x0 :: ρ) μ := rfl
theorem bNot_eq (t : FB) : bNot t (x0 :: ρ) μ = (t (x0 :: ρ) μ).map not := rfl
theorem fNext_eq : fNext (x0 :: ρ) μ = some (.nx (x0 :: ρ) μ) := rfl
theorem fSet_eq (i : Nat) (q : FQ) : fSet i q (x0 :: ρ) μ = (q (x0 :: ρ) μ).bind fun d => if data d = true then some (.nx ((x0 :: ρ).set i d) μ) else none := rfl
theorem fSetN_eq (i : Nat) (k : FA) : fSetN i k (x0 :: ρ) μ = (k (x0 :: ρ) μ).map fun ds => .nx ((x0 :: ρ).set i (.ml ds)) μ := rfl
theorem fSetT_eq (gt : D → List D → Option (List D)) (q : FQ) : fSetT gt q (x0 :: ρ) μ = (q (x0 :: ρ) μ).bind fun d => if data d = true then (gt d (x0 :: ρ)).map fun ρ' => .nx ρ' μ else none := rfl
theorem fIf_eq (t : FB) (f g : FS) : fIf t f g (x0 :: ρ) μ = (t (x0 :: ρ) μ).bind fun b => if b = true then f (x0 :: ρ) μ else g (x0 :: ρ) μ := rfl
theorem fRet_eq (q : FQ) : fRet q (x0 :: ρ) μ = (q (x0 :: ρ) μ).bind fun d => if data d = true then some (.rt d (x0 :: ρ) μ) else none := rfl
theorem fRetN_eq : fRetN (x0 :: ρ) μ = some (.rt .non (x0 :: ρ) μ) := rfl
theorem fFor_eq (it : FA) (g : D → List D → Option (List D)) (b : FS) : fFor it g b (x0 :: ρ) μ = (it (x0 :: ρ) μ).bind fun ds => forL g b (x0 :: ρ) μ ds := rfl
theorem fAug_eq (i : Nat) (o : D → D → Option D) (q : FQ) : fAug i o q (x0 :: ρ) μ = (qVar i (x0 :: ρ) μ).bind fun x => (q (x0 :: ρ) μ).bind fun y => (o x y).bind fun d => if data x = true ∧ data d = true then some (.nx ((x0 :: ρ).set i d) μ) else none := rfl
theorem tgN_eq (i : Nat) (d : D) : tgN i d (x0 :: ρ) = if data d = true then some ((x0 :: ρ).set i d) else none := rfl
theorem tgT_eq (is : List Nat) (ds : List D) : tgT is (.tup ds) (x0 :: ρ) = tgs is ds (x0 :: ρ) := rfl
theorem tgs_cons (i : Nat) (is : List Nat) (d : D) (ds : List D) : tgs (i :: is) (d :: ds) ρ = (tgN i d ρ).bind fun ρ' => tgs is ds ρ' := rfl
theorem tgs_nil : tgs [] [] ρ = some ρ := rfl
end
theorem cMul_r {i j : Int} (h1 : -18446744073709551616 < j) (h2 : j < 18446744073709551616) : cMul i j = true := decide_eq_true (.inr ⟨h1, h2⟩)
theorem cMul_l {i j : Int} (h1 : -18446744073709551616 < i) (h2 : i < 18446744073709551616) : cMul i j = true := decide_eq_true (.inl ⟨h1, h2⟩)
theorem small62_of {i : Int} (h1 : -4611686018427387904 ≤ i) (h2 : i < 4611686018427387904) : small62 i = true := decide_eq_true ⟨h1, h2⟩
theorem tyN_NoneType : tyN .non = some "NoneType" := rfl
theorem tyN_bool (b : Bool) : tyN (.bl b) = some "bool" := rfl
theorem tyN_int (b : Int) : tyN (.int b) = some "int" := rfl
theorem tyN_str (b : List Nat) : tyN (.str b) = some "str" := rfl
theorem tyN_list (b : List D) : tyN (.lst b) = some "list" := rfl
theorem tyN_tuple (b : List D) : tyN (.tup b) = some "tuple" := rfl
theorem tyN_ml (b : List D) : tyN (.ml b) = some "list" := rfl
theorem kitB_NoneType_bool : kitB "NoneType" "bool" = some false := by decide +kernel
theorem kitB_NoneType_int : kitB "NoneType" "int" = some false := by decide +kernel
theorem kitB_NoneType_str : kitB "NoneType" "str" = some false := by decide +kernel
theorem kitB_NoneType_list : kitB "NoneType" "list" = some false := by decide +kernel
theorem kitB_NoneType_tuple : kitB "NoneType" "tuple" = some false := by decide +kernel
theorem kitB_bool_bool : kitB "bool" "bool" = some true := by decide +kernel
theorem kitB_bool_int : kitB "bool" "int" = some true := by decide +kernel
theorem kitB_bool_str : kitB "bool" "str" = some false := by decide +kernel
theorem kitB_bool_list : kitB "bool" "list" = some false := by decide +kernel
theorem kitB_bool_tuple : kitB "bool" "tuple" = some false := by decide +kernel
theorem kitB_int_bool : kitB "int" "bool" = some false := by decide +kernel
theorem kitB_int_int : kitB "int" "int" = some true := by decide +kernel
theorem kitB_int_str : kitB "int" "str" = some false := by decide +kernel
theorem kitB_int_list : kitB "int" "list" = some false := by decide +kernel
theorem kitB_int_tuple : kitB "int" "tuple" = some false := by decide +kernel
theorem kitB_str_bool : kitB "str" "bool" = some false := by decide +kernel
theorem kitB_str_int : kitB "str" "int" = some false := by decide +kernel
theorem kitB_str_str : kitB "str" "str" = some true := by decide +kernel
theorem kitB_str_list : kitB "str" "list" = some false := by decide +kernel
theorem kitB_str_tuple : kitB "str" "tuple" = some false := by decide +kernel
theorem kitB_list_bool : kitB "list" "bool" = some false := by decide +kernel
theorem kitB_list_int : kitB "list" "int" = some false := by decide +kernel
theorem kitB_list_str : kitB "list" "str" = some false := by decide +kernel
theorem kitB_list_list : kitB "list" "list" = some true := by decide +kernel
theorem kitB_list_tuple : kitB "list" "tuple" = some false := by decide +kernel
theorem kitB_tuple_bool : kitB "tuple" "bool" = some false := by decide +kernel
theorem kitB_tuple_int : kitB "tuple" "int" = some false := by decide +kernel
theorem kitB_tuple_str : kitB "tuple" "str" = some false := by decide +kernel
theorem kitB_tuple_list : kitB "tuple" "list" = some false := by decide +kernel
theorem kitB_tuple_tuple : kitB "tuple" "tuple" = some true := by decide +kernel
end Fw
namespace G
open PySem PySem.Spec PyProof.Rows L2 Fw
def top (i : Nat) : Stmt := PySem.Challenge.pw_framepost_k01_signs_and_figures.main.body.getD i (.Pass ⟨0, 0, 0, 0⟩)
def g_END_NAMES : D := .tup [.str (ofS "length"), .str (ofS "pieces"), .str (ofS "parts"), .str (ofS "rest")]
def g_FIGURES : D := .str (ofS "0123456789abcdef")
def g_USUAL : D := .tup [.int 8, .int 12, .int 40, .int 12, .int 400, .int 12, .int 6]
abbrev s_figures_of : Stmt := top 6
abbrev D_figures_of : He.DefD := ⟨("figures_of", none), "figures_of", "figures_of", defArgs s_figures_of, defBody s_figures_of, defScope s_figures_of, [], []⟩
abbrev s__law_figures : Stmt := top 12
abbrev D__law_figures : He.DefD := ⟨("_law_figures", none), "_law_figures", "_law_figures", defArgs s__law_figures, defBody s__law_figures, defScope s__law_figures, [], []⟩
abbrev s__law_number : Stmt := top 11
abbrev D__law_number : He.DefD := ⟨("_law_number", none), "_law_number", "_law_number", defArgs s__law_number, defBody s__law_number, defScope s__law_number, [], []⟩
abbrev s__law_sign : Stmt := top 9
abbrev D__law_sign : He.DefD := ⟨("_law_sign", none), "_law_sign", "_law_sign", defArgs s__law_sign, defBody s__law_sign, defScope s__law_sign, [], []⟩
abbrev s_is_plain : Stmt := top 5
abbrev D_is_plain : He.DefD := ⟨("is_plain", none), "is_plain", "is_plain", defArgs s_is_plain, defBody s_is_plain, defScope s_is_plain, [], []⟩
abbrev s_is_small : Stmt := top 4
abbrev D_is_small : He.DefD := ⟨("is_small", none), "is_small", "is_small", defArgs s_is_small, defBody s_is_small, defScope s_is_small, [], []⟩
abbrev s__law_signs : Stmt := top 10
abbrev D__law_signs : He.DefD := ⟨("_law_signs", none), "_law_signs", "_law_signs", defArgs s__law_signs, defBody s__law_signs, defScope s__law_signs, [], []⟩
abbrev s__law_stream : Stmt := top 8
abbrev D__law_stream : He.DefD := ⟨("_law_stream", none), "_law_stream", "_law_stream", defArgs s__law_stream, defBody s__law_stream, defScope s__law_stream, [], []⟩
abbrev s_law : Stmt := top 13
abbrev D_law : He.DefD := ⟨("law", none), "law", "law", defArgs s_law, defBody s_law, defScope s_law, [], []⟩
def fuel_figures_of_1 : List D → List D → Nat := fun ρ _ => match ρ with | .int n :: _ => n.natAbs + 1 | _ => 1
def f_figures_of : FS :=
  fSeq (fSet 2 (qC (.str (ofS ""))))
    (fSeq (fWh fuel_figures_of_1 (qB (q2 dGe (qVar 0) (qVar 1))) (fSeq (fSetT (tgT [0, 3]) (qCall (o2 dDivmod) (aCons (qVar 0) (aCons (qVar 1) (aNil)))))
    (fSet 2 (q2 dAdd (q2 dIx (qC g_FIGURES) (qVar 3)) (qVar 2)))))
    (fRet (q2 dAdd (q2 dIx (qC g_FIGURES) (qVar 0)) (qVar 2))))
def r_figures_of : List D → Option D := runQ 4 2 f_figures_of
def f__law_figures : FS :=
  fSeq (fSet 2 (qRun 2 [] r_figures_of (aCons (qVar 0) (aCons (qVar 1) (aNil)))))
    (fSeq (fIf (bOr (bNot (qB (qIsi "str" (qVar 2)))) (bOr (qB (q2 dEq (qVar 2) (qC (.str (ofS ""))))) (bAnd (qB (q2 dGt (qCall (o1 dLen) (aCons (qVar 2) (aNil))) (qC (.int 1)))) (qB (q2 dEq (q2 dIx (qVar 2) (qC (.int 0))) (qC (.str (ofS "0")))))))) (fRet (qC (.bl false))) (fNext))
    (fSeq (fSet 3 (qC (.int 0)))
    (fSeq (fFor (aF (qVar 2)) (tgN 4) (fSeq (fSet 5 (qM1 (oStr fun s t => .int (Txt.find (tr s) (tr t))) (qC (.str (ofS "0123456789abcdef"))) (qVar 4)))
    (fSeq (fIf (bOr (qB (q2 dLt (qVar 5) (qC (.int 0)))) (qB (q2 dGe (qVar 5) (qVar 1)))) (fRet (qC (.bl false))) (fNext))
    (fSet 3 (q2 dAdd (q2 dMul (qVar 3) (qVar 1)) (qVar 5))))))
    (fRet (q2 dEq (qVar 3) (qVar 0))))))
def r__law_figures : List D → Option D := runQ 6 2 f__law_figures
def f__law_number : FS :=
  fSeq (fSet 2 (q2 dIx (qN (aData (aCons (qC (.int 10)) (aCons (qC (.int 16)) (aNil))))) (q2 dMod (qVar 0) (qC (.int 2)))))
    (fSeq (fSet 3 (q2 dMod (qVar 1) (q2 dPow (qC (.int 10)) (qC (.int 40)))))
    (fSeq (fIf (qB (q2 dEq (q2 dMod (qVar 0) (qC (.int 3))) (qC (.int 0)))) (fSeq (fSet 3 (qC (.int 1)))
    (fSeq (fFor (aR1 (q2 dMod (q2 dFdiv (qVar 0) (qC (.int 6))) (qC (.int 40)))) (tgN 4) (fSet 3 (q2 dMul (qVar 3) (qVar 2))))
    (fSet 3 (q2 dSub (qVar 3) (q2 dMod (q2 dFdiv (qVar 0) (qC (.int 240))) (qC (.int 2))))))) (fNext))
    (fRet (qTup (aCons (q2 dMod (qVar 3) (q2 dPow (qC (.int 10)) (qC (.int 40)))) (aCons (qVar 2) (aNil)))))))
def r__law_number : List D → Option D := runQ 5 2 f__law_number
def f__law_sign : FS :=
  fSeq (fSet 1 (qC (.str (ofS " !\"#$&'()*+,-./0123456789:;<=>?@ABCDEFGHIJKLMNOPQRSTUVWXYZ[\\]^_`"))))
    (fSeq (fSet 1 (q2 dAdd (qVar 1) (qC (.str (ofS "abcdefghijklmnopqrstuvwxyz{|}~\n")))))
    (fRet (q2 dIx (qVar 1) (q2 dMod (qVar 0) (qC (.int 95))))))
def r__law_sign : List D → Option D := runQ 2 1 f__law_sign
def f_is_plain : FS :=
  fRet (qOr (q2 dEq (qVar 0) (qC (.str (ofS "\n")))) (qAnd (q2 dEq (qCall (o1 dLen) (aCons (qVar 0) (aNil))) (qC (.int 1))) (q3 dLe dLe (qC (.str (ofS " "))) (qVar 0) (qC (.str (ofS "~"))))))
def r_is_plain : List D → Option D := runQ 1 1 f_is_plain
def f_is_small : FS :=
  fRet (qAnd (q2 dEq (qCall (o1 dLen) (aCons (qVar 0) (aNil))) (qC (.int 1))) (q3 dLe dLe (qC (.str (ofS "a"))) (qVar 0) (qC (.str (ofS "z")))))
def r_is_small : List D → Option D := runQ 1 1 f_is_small
def f__law_signs : FS :=
  fSeq (fSet 2 (qRun 1 [] r_is_small (aCons (qVar 0) (aNil))))
    (fSeq (fSet 3 (qRun 1 [] r_is_plain (aCons (qVar 0) (aNil))))
    (fSeq (fIf (bOr (bNot (qB (qIsi "bool" (qVar 2)))) (bNot (qB (qIsi "bool" (qVar 3))))) (fRet (qC (.bl false))) (fNext))
    (fSeq (fSet 4 (qC (.str (ofS "abcdefghijklmnopqrstuvwxyz"))))
    (fRet (qAnd (q2 dEq (qVar 3) (qVar 1)) (q2 dEq (qVar 2) (qAnd (qVar 1) (q2 dIn (qVar 0) (qVar 4)))))))))
def r__law_signs : List D → Option D := runQ 5 2 f__law_signs
def f__law_stream : FS :=
  fSeq (fSetN 2 (aData (aNil)))
    (fSeq (fSet 3 (q2 dMod (q2 dMul (q2 dAdd (qVar 0) (qC (.int 1))) (qC (.int 48271))) (qC (.int 2147483647))))
    (fSeq (fFor (aR1 (qVar 1)) (tgN 4) (fSeq (fSet 3 (q2 dMod (q2 dMul (q2 dAdd (q2 dAdd (qVar 3) (q2 dMul (qC (.int 7919)) (qVar 4))) (qC (.int 1))) (q2 dAdd (q2 dFdiv (qVar 3) (qC (.int 1009))) (qC (.int 69621)))) (qC (.int 2147483647))))
    (fApp 2 (qVar 3))))
    (fFz 2 (fRet (qVar 2)))))
def r__law_stream : List D → Option D := runQ 5 2 f__law_stream
def f_law : FS :=
  fSeq (fIf (bOr (qB (q2 dNe (qC g_USUAL) (qTup (aCons (qC (.int 8)) (aCons (qC (.int 12)) (aCons (qC (.int 40)) (aCons (qC (.int 12)) (aCons (qC (.int 400)) (aCons (qC (.int 12)) (aCons (qC (.int 6)) (aNil))))))))))) (qB (q2 dNe (qC g_END_NAMES) (qTup (aCons (qC (.str (ofS "length"))) (aCons (qC (.str (ofS "pieces"))) (aCons (qC (.str (ofS "parts"))) (aCons (qC (.str (ofS "rest"))) (aNil))))))))) (fRet (qC (.bl false))) (fNext))
    (fSeq (fFor (aF (qSl (q2 dAdd (qVar 0) (qN (aData (aCons (qC (.int 0)) (aCons (qC (.int 1)) (aCons (qC (.int 2)) (aNil))))))) oNone (oSome (qC (.int 40))))) (tgN 1) (fSeq (fSet 2 (qRun 2 [] r__law_stream (aCons (qVar 1) (aCons (qC (.int 6)) (aNil)))))
    (fSeq (fSet 3 (qRun 1 [] r__law_sign (aCons (q2 dIx (qVar 2) (qC (.int 0))) (aNil))))
    (fSeq (fIf (bOr (bNot (qB (qRun 2 [] r__law_signs (aCons (qVar 3) (aCons (qC (.bl true)) (aNil)))))) (bNot (qB (qRun 2 [] r__law_signs (aCons (q2 dAdd (qRun 1 [] r__law_sign (aCons (q2 dIx (qVar 2) (qC (.int 1))) (aNil))) (qRun 1 [] r__law_sign (aCons (q2 dIx (qVar 2) (qC (.int 2))) (aNil)))) (aCons (qC (.bl false)) (aNil))))))) (fRet (qC (.bl false))) (fNext))
    (fSeq (fSetT (tgT [4, 5]) (qRun 2 [] r__law_number (aCons (q2 dIx (qVar 2) (qC (.int 3))) (aCons (qVar 1) (aNil)))))
    (fIf (bOr (bNot (qB (qRun 2 [] r__law_figures (aCons (qVar 4) (aCons (qVar 5) (aNil)))))) (bNot (qB (qRun 2 [] r__law_figures (aCons (q2 dMod (q2 dIx (qVar 2) (qC (.int 4))) (qC (.int 40))) (aCons (q2 dIx (qN (aData (aCons (qC (.int 10)) (aCons (qC (.int 16)) (aNil))))) (q2 dMod (q2 dIx (qVar 2) (qC (.int 5))) (qC (.int 2)))) (aNil))))))) (fRet (qC (.bl false))) (fNext)))))))
    (fRet (qAnd (qRun 2 [] r__law_signs (aCons (qC (.str (ofS ""))) (aCons (qC (.bl false)) (aNil)))) (qRun 2 [] r__law_signs (aCons (qC (.str (ofS "\t"))) (aCons (qC (.bl false)) (aNil)))))))
def r_law : List D → Option D := runQ 6 1 f_law
/-- what the top has left -/
structure Tx (P : Program) (w : World) (K : PySem.W.Frag) (mg : Str → Option Value) (base : Heap) : Prop where
  b_bool : mg "bool" = none
  b_divmod : mg "divmod" = none
  b_isinstance : mg "isinstance" = none
  b_len : mg "len" = none
  b_range : mg "range" = none
  b_str : mg "str" = none
  g_END_NAMES : GlD K mg "END_NAMES" g_END_NAMES
  g_FIGURES : GlD K mg "FIGURES" g_FIGURES
  g_USUAL : GlD K mg "USUAL" g_USUAL
  d_figures_of : ∃ fd, FunD K "figures_of" "figures_of" (defArgs s_figures_of) (defBody s_figures_of) (defScope s_figures_of) [] [] (He.ga K "figures_of") fd
  m_figures_of : mg "figures_of" = some (.ref (He.ga K "figures_of"))
  d__law_figures : ∃ fd, FunD K "_law_figures" "_law_figures" (defArgs s__law_figures) (defBody s__law_figures) (defScope s__law_figures) [] [] (He.ga K "_law_figures") fd
  m__law_figures : mg "_law_figures" = some (.ref (He.ga K "_law_figures"))
  d__law_number : ∃ fd, FunD K "_law_number" "_law_number" (defArgs s__law_number) (defBody s__law_number) (defScope s__law_number) [] [] (He.ga K "_law_number") fd
  m__law_number : mg "_law_number" = some (.ref (He.ga K "_law_number"))
  d__law_sign : ∃ fd, FunD K "_law_sign" "_law_sign" (defArgs s__law_sign) (defBody s__law_sign) (defScope s__law_sign) [] [] (He.ga K "_law_sign") fd
  m__law_sign : mg "_law_sign" = some (.ref (He.ga K "_law_sign"))
  d_is_plain : ∃ fd, FunD K "is_plain" "is_plain" (defArgs s_is_plain) (defBody s_is_plain) (defScope s_is_plain) [] [] (He.ga K "is_plain") fd
  m_is_plain : mg "is_plain" = some (.ref (He.ga K "is_plain"))
  d_is_small : ∃ fd, FunD K "is_small" "is_small" (defArgs s_is_small) (defBody s_is_small) (defScope s_is_small) [] [] (He.ga K "is_small") fd
  m_is_small : mg "is_small" = some (.ref (He.ga K "is_small"))
  d__law_signs : ∃ fd, FunD K "_law_signs" "_law_signs" (defArgs s__law_signs) (defBody s__law_signs) (defScope s__law_signs) [] [] (He.ga K "_law_signs") fd
  m__law_signs : mg "_law_signs" = some (.ref (He.ga K "_law_signs"))
  d__law_stream : ∃ fd, FunD K "_law_stream" "_law_stream" (defArgs s__law_stream) (defBody s__law_stream) (defScope s__law_stream) [] [] (He.ga K "_law_stream") fd
  m__law_stream : mg "_law_stream" = some (.ref (He.ga K "_law_stream"))
  d_law : ∃ fd, FunD K "law" "law" (defArgs s_law) (defBody s_law) (defScope s_law) [] [] (He.ga K "law") fd
  m_law : mg "law" = some (.ref (He.ga K "law"))
section
variable {P : Program} {w : World} {K : PySem.W.Frag} {mg : Str → Option Value} {base : Heap}
theorem sc_figures_of : FnScope ["number", "base", "text", "rest"] ["number", "base"] (defScope s_figures_of) := ⟨rfl, rfl, rfl, by decide +kernel, rfl, by decide +kernel, by decide +kernel⟩
theorem pss_figures_of (T : Tx P w K mg base) {fa : Addr} {cdv : Value} {A : Around} {outer : List Env} {s : Shared} {H : Hp} {E : XK} (hr : Room 0 (A.deeper (envOfC "figures_of" (defScope s_figures_of) s.heap.objs.size fa cdv))) :
    PSS (cxOf (L2.CX P w) P w K mg base ["number", "base", "text", "rest"] "figures_of" (defScope s_figures_of) fa cdv A outer s H E) [] (fun _ _ _ _ => False) (defBody s_figures_of) f_figures_of :=
  (pss_cons' (ps1_set (i := 2) sc_figures_of.nd rfl (by first | exact Or.inl rfl | exact Or.inr rfl) (pq_str ""))
      (pss_cons' (ps1_while fuel_figures_of_1 (passes_of rfl) (pb_cmp opd_ge (pq_var 0 (pv 0)) (pq_var 1 (pv 1)) (nomark _)) (pss_cons' (ps1_setT (pq_callB cd_divmod T.b_divmod (by decide +kernel) (paq_cons (pq_var 0 (pv 0)) (paq_cons (pq_var 1 (pv 1)) paq_nil))) (pgd_tup (vs := [0, 3]) (is := [0, 3]) rfl (pgs_cons (pg_name (i := 0) sc_figures_of.nd rfl (by first | exact Or.inl rfl | exact Or.inr rfl)) (pgs_cons (pg_name (i := 3) sc_figures_of.nd rfl (by first | exact Or.inl rfl | exact Or.inr rfl)) pgs_nil)) (by decide)))
      (pss_one' (ps1_set (i := 2) sc_figures_of.nd rfl (by first | exact Or.inl rfl | exact Or.inr rfl) (pq_op opd_add (pq_ix (pq_glob T.g_FIGURES) (pq_var 3 (pv 3))) (pq_var 2 (pv 2)))))))
      (pss_one' (ps1_ret (pq_op opd_add (pq_ix (pq_glob T.g_FIGURES) (pq_var 0 (pv 0))) (pq_var 2 (pv 2)))))))
theorem ok_figures_of (T : Tx P w K mg base) : OkQ P w K mg base "figures_of" 1 2 [] r_figures_of := by
  obtain ⟨fd, F⟩ := T.d_figures_of
  exact okq_def F sc_figures_of rfl (F.bindsN fun _ _ _ _ _ _ us hl => match us, hl with | [_, _], _ => rfl) .nil (fun _ => ⟨rfl, rfl⟩) rfl T.m_figures_of (fun cdv A outer s H E hr => pss_figures_of T hr) fun _ _ h => h
theorem sc__law_figures : FnScope ["_law_number_here", "_law_base", "_law_found", "_law_back", "_law_sign_here", "_law_at"] ["_law_number_here", "_law_base"] (defScope s__law_figures) := ⟨rfl, rfl, rfl, by decide +kernel, rfl, by decide +kernel, by decide +kernel⟩
theorem pss__law_figures (T : Tx P w K mg base) {fa : Addr} {cdv : Value} {A : Around} {outer : List Env} {s : Shared} {H : Hp} {E : XK} (hr : Room 1 (A.deeper (envOfC "_law_figures" (defScope s__law_figures) s.heap.objs.size fa cdv))) :
    PSS (cxOf (L2.CX P w) P w K mg base ["_law_number_here", "_law_base", "_law_found", "_law_back", "_law_sign_here", "_law_at"] "_law_figures" (defScope s__law_figures) fa cdv A outer s H E) [] (fun _ _ _ _ => False) (defBody s__law_figures) f__law_figures :=
  (pss_cons' (ps1_set (i := 2) sc__law_figures.nd rfl (by first | exact Or.inl rfl | exact Or.inr rfl) (pq_call (ok_figures_of T) (hr.mono (by decide)) (paq_cons (pq_var 0 (pv 0)) (paq_cons (pq_var 1 (pv 1)) paq_nil))))
      (pss_cons' (ps1_if (PWB.pb (pwb_or (pb_not (pb_val (pq_isi (pq_var 2 (pv 2)) T.b_isinstance T.b_str (by decide +kernel)))) (pwb_or (pb_cmp (opd_eq hr) (pq_var 2 (pv 2)) (pq_str "") (nomark _)) (pw1_or (PWB.pb (pwb_and (pb_cmp opd_gt (pq_callB cd_len T.b_len (by decide +kernel) (paq_cons (pq_var 2 (pv 2)) paq_nil)) pq_int (nomark _)) (pw1_and (pb_cmp (opd_eq hr) (pq_ix (pq_var 2 (pv 2)) pq_int) (pq_str "0") (nomark _))))))))) (pss_one' (ps1_ret pq_bl)) pss_nil')
      (pss_cons' (ps1_set (i := 3) sc__law_figures.nd rfl (by first | exact Or.inl rfl | exact Or.inr rfl) pq_int)
      (pss_cons' (ps1_for (passes_of rfl) rfl (pif_any (pq_var 2 (pv 2))) (pgd_name (vs := [4]) (pg_name (i := 4) sc__law_figures.nd rfl (by first | exact Or.inl rfl | exact Or.inr rfl))) (pss_cons' (ps1_set (i := 5) sc__law_figures.nd rfl (by first | exact Or.inl rfl | exact Or.inr rfl) (pq_m1 mtd_find PySem.F.slot_str_find PySem.F.type_str_find (pq_str "0123456789abcdef") (pq_var 4 (pv 4))))
      (pss_cons' (ps1_if (PWB.pb (pwb_or (pb_cmp opd_lt (pq_var 5 (pv 5)) pq_int (nomark _)) (pw1_or (pb_cmp opd_ge (pq_var 5 (pv 5)) (pq_var 1 (pv 1)) (nomark _))))) (pss_one' (ps1_ret pq_bl)) pss_nil')
      (pss_one' (ps1_set (i := 3) sc__law_figures.nd rfl (by first | exact Or.inl rfl | exact Or.inr rfl) (pq_op opd_add (pq_op opd_mul (pq_var 3 (pv 3)) (pq_var 1 (pv 1))) (pq_var 5 (pv 5))))))))
      (pss_one' (ps1_ret (pq_cmp (opd_eq hr) (pq_var 3 (pv 3)) (pq_var 0 (pv 0)) (nomark _))))))))
theorem ok__law_figures (T : Tx P w K mg base) : OkQ P w K mg base "_law_figures" 2 2 [] r__law_figures := by
  obtain ⟨fd, F⟩ := T.d__law_figures
  exact okq_def F sc__law_figures rfl (F.bindsN fun _ _ _ _ _ _ us hl => match us, hl with | [_, _], _ => rfl) .nil (fun _ => ⟨rfl, rfl⟩) rfl T.m__law_figures (fun cdv A outer s H E hr => pss__law_figures T hr) fun _ _ h => h
theorem sc__law_number : FnScope ["_law_x", "_law_cell", "_law_base", "_law_number_here", "_law_k"] ["_law_x", "_law_cell"] (defScope s__law_number) := ⟨rfl, rfl, rfl, by decide +kernel, rfl, by decide +kernel, by decide +kernel⟩
theorem pss__law_number (T : Tx P w K mg base) {fa : Addr} {cdv : Value} {A : Around} {outer : List Env} {s : Shared} {H : Hp} {E : XK} (hr : Room 0 (A.deeper (envOfC "_law_number" (defScope s__law_number) s.heap.objs.size fa cdv))) :
    PSS (cxOf (L2.CX P w) P w K mg base ["_law_x", "_law_cell", "_law_base", "_law_number_here", "_law_k"] "_law_number" (defScope s__law_number) fa cdv A outer s H E) [] (fun _ _ _ _ => False) (defBody s__law_number) f__law_number :=
  (pss_cons' (ps1_set (i := 2) sc__law_number.nd rfl (by first | exact Or.inl rfl | exact Or.inr rfl) (pq_ix (PN.pq (pn_lst (paq_cons pq_int (paq_cons pq_int paq_nil)))) (pq_op opd_mod (pq_var 0 (pv 0)) pq_int)))
      (pss_cons' (ps1_set (i := 3) sc__law_number.nd rfl (by first | exact Or.inl rfl | exact Or.inr rfl) (pq_op opd_mod (pq_var 1 (pv 1)) (pq_op opd_pow pq_int pq_int)))
      (pss_cons' (ps1_if (pb_cmp (opd_eq hr) (pq_op opd_mod (pq_var 0 (pv 0)) pq_int) pq_int (nomark _)) (pss_cons' (ps1_set (i := 3) sc__law_number.nd rfl (by first | exact Or.inl rfl | exact Or.inr rfl) pq_int)
      (pss_cons' (ps1_for (passes_of rfl) rfl (pif_range1 (pq_op opd_mod (pq_op opd_fdiv (pq_var 0 (pv 0)) pq_int) pq_int) T.b_range) (pgd_name (vs := [4]) (pg_name (i := 4) sc__law_number.nd rfl (by first | exact Or.inl rfl | exact Or.inr rfl))) (pss_one' (ps1_set (i := 3) sc__law_number.nd rfl (by first | exact Or.inl rfl | exact Or.inr rfl) (pq_op opd_mul (pq_var 3 (pv 3)) (pq_var 2 (pv 2))))))
      (pss_one' (ps1_set (i := 3) sc__law_number.nd rfl (by first | exact Or.inl rfl | exact Or.inr rfl) (pq_op opd_sub (pq_var 3 (pv 3)) (pq_op opd_mod (pq_op opd_fdiv (pq_var 0 (pv 0)) pq_int) pq_int)))))) pss_nil')
      (pss_one' (ps1_ret (pq_tup (paq_cons (pq_op opd_mod (pq_var 3 (pv 3)) (pq_op opd_pow pq_int pq_int)) (paq_cons (pq_var 2 (pv 2)) paq_nil))))))))
theorem ok__law_number (T : Tx P w K mg base) : OkQ P w K mg base "_law_number" 1 2 [] r__law_number := by
  obtain ⟨fd, F⟩ := T.d__law_number
  exact okq_def F sc__law_number rfl (F.bindsN fun _ _ _ _ _ _ us hl => match us, hl with | [_, _], _ => rfl) .nil (fun _ => ⟨rfl, rfl⟩) rfl T.m__law_number (fun cdv A outer s H E hr => pss__law_number T hr) fun _ _ h => h
theorem sc__law_sign : FnScope ["_law_x", "_law_some"] ["_law_x"] (defScope s__law_sign) := ⟨rfl, rfl, rfl, by decide +kernel, rfl, by decide +kernel, by decide +kernel⟩
theorem pss__law_sign (T : Tx P w K mg base) {fa : Addr} {cdv : Value} {A : Around} {outer : List Env} {s : Shared} {H : Hp} {E : XK} (hr : Room 0 (A.deeper (envOfC "_law_sign" (defScope s__law_sign) s.heap.objs.size fa cdv))) :
    PSS (cxOf (L2.CX P w) P w K mg base ["_law_x", "_law_some"] "_law_sign" (defScope s__law_sign) fa cdv A outer s H E) [] (fun _ _ _ _ => False) (defBody s__law_sign) f__law_sign :=
  (pss_cons' (ps1_set (i := 1) sc__law_sign.nd rfl (by first | exact Or.inl rfl | exact Or.inr rfl) (pq_str " !\"#$&'()*+,-./0123456789:;<=>?@ABCDEFGHIJKLMNOPQRSTUVWXYZ[\\]^_`"))
      (pss_cons' (ps1_set (i := 1) sc__law_sign.nd rfl (by first | exact Or.inl rfl | exact Or.inr rfl) (pq_op opd_add (pq_var 1 (pv 1)) (pq_str "abcdefghijklmnopqrstuvwxyz{|}~\n")))
      (pss_one' (ps1_ret (pq_ix (pq_var 1 (pv 1)) (pq_op opd_mod (pq_var 0 (pv 0)) pq_int))))))
theorem ok__law_sign (T : Tx P w K mg base) : OkQ P w K mg base "_law_sign" 1 1 [] r__law_sign := by
  obtain ⟨fd, F⟩ := T.d__law_sign
  exact okq_def F sc__law_sign rfl (F.bindsN fun _ _ _ _ _ _ us hl => match us, hl with | [_], _ => rfl) .nil (fun _ => ⟨rfl, rfl⟩) rfl T.m__law_sign (fun cdv A outer s H E hr => pss__law_sign T hr) fun _ _ h => h
theorem sc_is_plain : FnScope ["sign"] ["sign"] (defScope s_is_plain) := ⟨rfl, rfl, rfl, by decide +kernel, rfl, by decide +kernel, by decide +kernel⟩
theorem pss_is_plain (T : Tx P w K mg base) {fa : Addr} {cdv : Value} {A : Around} {outer : List Env} {s : Shared} {H : Hp} {E : XK} (hr : Room 0 (A.deeper (envOfC "is_plain" (defScope s_is_plain) s.heap.objs.size fa cdv))) :
    PSS (cxOf (L2.CX P w) P w K mg base ["sign"] "is_plain" (defScope s_is_plain) fa cdv A outer s H E) [] (fun _ _ _ _ => False) (defBody s_is_plain) f_is_plain :=
  (pss_one' (ps1_ret (pq_or (pq_cmp (opd_eq hr) (pq_var 0 (pv 0)) (pq_str "\n") (nomark _)) (pq_one (pq_and (pq_cmp (opd_eq hr) (pq_callB cd_len T.b_len (by decide +kernel) (paq_cons (pq_var 0 (pv 0)) paq_nil)) pq_int (nomark _)) (pq_one (pq_chain opd_le opd_le (pq_str " ") (pq_var 0 (pv 0)) (pq_str "~"))))))))
theorem ok_is_plain (T : Tx P w K mg base) : OkQ P w K mg base "is_plain" 1 1 [] r_is_plain := by
  obtain ⟨fd, F⟩ := T.d_is_plain
  exact okq_def F sc_is_plain rfl (F.bindsN fun _ _ _ _ _ _ us hl => match us, hl with | [_], _ => rfl) .nil (fun _ => ⟨rfl, rfl⟩) rfl T.m_is_plain (fun cdv A outer s H E hr => pss_is_plain T hr) fun _ _ h => h
theorem sc_is_small : FnScope ["sign"] ["sign"] (defScope s_is_small) := ⟨rfl, rfl, rfl, by decide +kernel, rfl, by decide +kernel, by decide +kernel⟩
theorem pss_is_small (T : Tx P w K mg base) {fa : Addr} {cdv : Value} {A : Around} {outer : List Env} {s : Shared} {H : Hp} {E : XK} (hr : Room 0 (A.deeper (envOfC "is_small" (defScope s_is_small) s.heap.objs.size fa cdv))) :
    PSS (cxOf (L2.CX P w) P w K mg base ["sign"] "is_small" (defScope s_is_small) fa cdv A outer s H E) [] (fun _ _ _ _ => False) (defBody s_is_small) f_is_small :=
  (pss_one' (ps1_ret (pq_and (pq_cmp (opd_eq hr) (pq_callB cd_len T.b_len (by decide +kernel) (paq_cons (pq_var 0 (pv 0)) paq_nil)) pq_int (nomark _)) (pq_one (pq_chain opd_le opd_le (pq_str "a") (pq_var 0 (pv 0)) (pq_str "z"))))))
theorem ok_is_small (T : Tx P w K mg base) : OkQ P w K mg base "is_small" 1 1 [] r_is_small := by
  obtain ⟨fd, F⟩ := T.d_is_small
  exact okq_def F sc_is_small rfl (F.bindsN fun _ _ _ _ _ _ us hl => match us, hl with | [_], _ => rfl) .nil (fun _ => ⟨rfl, rfl⟩) rfl T.m_is_small (fun cdv A outer s H E hr => pss_is_small T hr) fun _ _ h => h
theorem sc__law_signs : FnScope ["_law_text", "_law_plain", "_law_small", "_law_found", "_law_letters"] ["_law_text", "_law_plain"] (defScope s__law_signs) := ⟨rfl, rfl, rfl, by decide +kernel, rfl, by decide +kernel, by decide +kernel⟩
theorem pss__law_signs (T : Tx P w K mg base) {fa : Addr} {cdv : Value} {A : Around} {outer : List Env} {s : Shared} {H : Hp} {E : XK} (hr : Room 1 (A.deeper (envOfC "_law_signs" (defScope s__law_signs) s.heap.objs.size fa cdv))) :
    PSS (cxOf (L2.CX P w) P w K mg base ["_law_text", "_law_plain", "_law_small", "_law_found", "_law_letters"] "_law_signs" (defScope s__law_signs) fa cdv A outer s H E) [] (fun _ _ _ _ => False) (defBody s__law_signs) f__law_signs :=
  (pss_cons' (ps1_set (i := 2) sc__law_signs.nd rfl (by first | exact Or.inl rfl | exact Or.inr rfl) (pq_call (ok_is_small T) (hr.mono (by decide)) (paq_cons (pq_var 0 (pv 0)) paq_nil)))
      (pss_cons' (ps1_set (i := 3) sc__law_signs.nd rfl (by first | exact Or.inl rfl | exact Or.inr rfl) (pq_call (ok_is_plain T) (hr.mono (by decide)) (paq_cons (pq_var 0 (pv 0)) paq_nil)))
      (pss_cons' (ps1_if (PWB.pb (pwb_or (pb_not (pb_val (pq_isi (pq_var 2 (pv 2)) T.b_isinstance T.b_bool (by decide +kernel)))) (pw1_or (pb_not (pb_val (pq_isi (pq_var 3 (pv 3)) T.b_isinstance T.b_bool (by decide +kernel))))))) (pss_one' (ps1_ret pq_bl)) pss_nil')
      (pss_cons' (ps1_set (i := 4) sc__law_signs.nd rfl (by first | exact Or.inl rfl | exact Or.inr rfl) (pq_str "abcdefghijklmnopqrstuvwxyz"))
      (pss_one' (ps1_ret (pq_and (pq_cmp (opd_eq hr) (pq_var 3 (pv 3)) (pq_var 1 (pv 1)) (nomark _)) (pq_one (pq_cmp (opd_eq hr) (pq_var 2 (pv 2)) (pq_and (pq_var 1 (pv 1)) (pq_one (pq_cmp opd_in (pq_var 0 (pv 0)) (pq_var 4 (pv 4)) (by rfl)))) (nomark _))))))))))
theorem ok__law_signs (T : Tx P w K mg base) : OkQ P w K mg base "_law_signs" 2 2 [] r__law_signs := by
  obtain ⟨fd, F⟩ := T.d__law_signs
  exact okq_def F sc__law_signs rfl (F.bindsN fun _ _ _ _ _ _ us hl => match us, hl with | [_, _], _ => rfl) .nil (fun _ => ⟨rfl, rfl⟩) rfl T.m__law_signs (fun cdv A outer s H E hr => pss__law_signs T hr) fun _ _ h => h
theorem sc__law_stream : FnScope ["_law_cell", "_law_many", "_law_found", "_law_number_here", "_law_k"] ["_law_cell", "_law_many"] (defScope s__law_stream) := ⟨rfl, rfl, rfl, by decide +kernel, rfl, by decide +kernel, by decide +kernel⟩
theorem pss__law_stream (T : Tx P w K mg base) {fa : Addr} {cdv : Value} {A : Around} {outer : List Env} {s : Shared} {H : Hp} {E : XK} (hr : Room 0 (A.deeper (envOfC "_law_stream" (defScope s__law_stream) s.heap.objs.size fa cdv))) :
    PSS (cxOf (L2.CX P w) P w K mg base ["_law_cell", "_law_many", "_law_found", "_law_number_here", "_law_k"] "_law_stream" (defScope s__law_stream) fa cdv A outer s H E) [] (fun _ _ _ _ => False) (defBody s__law_stream) f__law_stream :=
  (pss_cons' (ps1_setN (i := 2) sc__law_stream.nd rfl (by first | exact Or.inl rfl | exact Or.inr rfl) (pn_lst paq_nil))
      (pss_cons' (ps1_set (i := 3) sc__law_stream.nd rfl (by first | exact Or.inl rfl | exact Or.inr rfl) (pq_op opd_mod (pq_op opd_mul (pq_op opd_add (pq_var 0 (pv 0)) pq_int) pq_int) pq_int))
      (pss_cons' (ps1_for (passes_of rfl) rfl (pif_range1 (pq_var 1 (pv 1)) T.b_range) (pgd_name (vs := [4]) (pg_name (i := 4) sc__law_stream.nd rfl (by first | exact Or.inl rfl | exact Or.inr rfl))) (pss_cons' (ps1_set (i := 3) sc__law_stream.nd rfl (by first | exact Or.inl rfl | exact Or.inr rfl) (pq_op opd_mod (pq_op opd_mul (pq_op opd_add (pq_op opd_add (pq_var 3 (pv 3)) (pq_op opd_mul pq_int (pq_var 4 (pv 4)))) pq_int) (pq_op opd_add (pq_op opd_fdiv (pq_var 3 (pv 3)) pq_int) pq_int)) pq_int))
      (pss_one' (ps1_app (fun te p => pe_bm PySem.F.plainAttrs_list PySem.F.slot_list_append PySem.F.type_list_append mt_append (pv 2) (pa_cons p pa_nil)) (pq_var 3 (pv 3))))))
      (pss_one' (ps1_fz 2 (ps1_ret (pq_var 2 (pv 2))))))))
theorem ok__law_stream (T : Tx P w K mg base) : OkQ P w K mg base "_law_stream" 1 2 [] r__law_stream := by
  obtain ⟨fd, F⟩ := T.d__law_stream
  exact okq_def F sc__law_stream rfl (F.bindsN fun _ _ _ _ _ _ us hl => match us, hl with | [_, _], _ => rfl) .nil (fun _ => ⟨rfl, rfl⟩) rfl T.m__law_stream (fun cdv A outer s H E hr => pss__law_stream T hr) fun _ _ h => h
theorem sc_law : FnScope ["_law_script", "_law_cell", "_law_xs", "_law_sign_here", "_law_number_here", "_law_base"] ["_law_script"] (defScope s_law) := ⟨rfl, rfl, rfl, by decide +kernel, rfl, by decide +kernel, by decide +kernel⟩
theorem pss_law (T : Tx P w K mg base) {fa : Addr} {cdv : Value} {A : Around} {outer : List Env} {s : Shared} {H : Hp} {E : XK} (hr : Room 2 (A.deeper (envOfC "law" (defScope s_law) s.heap.objs.size fa cdv))) :
    PSS (cxOf (L2.CX P w) P w K mg base ["_law_script", "_law_cell", "_law_xs", "_law_sign_here", "_law_number_here", "_law_base"] "law" (defScope s_law) fa cdv A outer s H E) [] (fun _ _ _ _ => False) (defBody s_law) f_law :=
  (pss_cons' (ps1_if (PWB.pb (pwb_or (pb_cmp (opd_ne hr) (pq_glob T.g_USUAL) (pq_tup (paq_cons pq_int (paq_cons pq_int (paq_cons pq_int (paq_cons pq_int (paq_cons pq_int (paq_cons pq_int (paq_cons pq_int paq_nil)))))))) (nomark _)) (pw1_or (pb_cmp (opd_ne hr) (pq_glob T.g_END_NAMES) (pq_tup (paq_cons (pq_str "length") (paq_cons (pq_str "pieces") (paq_cons (pq_str "parts") (paq_cons (pq_str "rest") paq_nil))))) (nomark _))))) (pss_one' (ps1_ret pq_bl)) pss_nil')
      (pss_cons' (ps1_for (passes_of rfl) rfl (pif_any (pq_sl (pq_op opd_add (pq_var 0 (pv 0)) (PN.pq (pn_lst (paq_cons pq_int (paq_cons pq_int (paq_cons pq_int paq_nil)))))) poq_none (poq_some pq_int))) (pgd_name (vs := [1]) (pg_name (i := 1) sc_law.nd rfl (by first | exact Or.inl rfl | exact Or.inr rfl))) (pss_cons' (ps1_set (i := 2) sc_law.nd rfl (by first | exact Or.inl rfl | exact Or.inr rfl) (pq_call (ok__law_stream T) (hr.mono (by decide)) (paq_cons (pq_var 1 (pv 1)) (paq_cons pq_int paq_nil))))
      (pss_cons' (ps1_set (i := 3) sc_law.nd rfl (by first | exact Or.inl rfl | exact Or.inr rfl) (pq_call (ok__law_sign T) (hr.mono (by decide)) (paq_cons (pq_ix (pq_var 2 (pv 2)) pq_int) paq_nil)))
      (pss_cons' (ps1_if (PWB.pb (pwb_or (pb_not (pb_val (pq_call (ok__law_signs T) (hr.mono (by decide)) (paq_cons (pq_var 3 (pv 3)) (paq_cons pq_bl paq_nil))))) (pw1_or (pb_not (pb_val (pq_call (ok__law_signs T) (hr.mono (by decide)) (paq_cons (pq_op opd_add (pq_call (ok__law_sign T) (hr.mono (by decide)) (paq_cons (pq_ix (pq_var 2 (pv 2)) pq_int) paq_nil)) (pq_call (ok__law_sign T) (hr.mono (by decide)) (paq_cons (pq_ix (pq_var 2 (pv 2)) pq_int) paq_nil))) (paq_cons pq_bl paq_nil)))))))) (pss_one' (ps1_ret pq_bl)) pss_nil')
      (pss_cons' (ps1_setT (pq_call (ok__law_number T) (hr.mono (by decide)) (paq_cons (pq_ix (pq_var 2 (pv 2)) pq_int) (paq_cons (pq_var 1 (pv 1)) paq_nil))) (pgd_tup (vs := [4, 5]) (is := [4, 5]) rfl (pgs_cons (pg_name (i := 4) sc_law.nd rfl (by first | exact Or.inl rfl | exact Or.inr rfl)) (pgs_cons (pg_name (i := 5) sc_law.nd rfl (by first | exact Or.inl rfl | exact Or.inr rfl)) pgs_nil)) (by decide)))
      (pss_one' (ps1_if (PWB.pb (pwb_or (pb_not (pb_val (pq_call (ok__law_figures T) (hr.mono (by decide)) (paq_cons (pq_var 4 (pv 4)) (paq_cons (pq_var 5 (pv 5)) paq_nil))))) (pw1_or (pb_not (pb_val (pq_call (ok__law_figures T) (hr.mono (by decide)) (paq_cons (pq_op opd_mod (pq_ix (pq_var 2 (pv 2)) pq_int) pq_int) (paq_cons (pq_ix (PN.pq (pn_lst (paq_cons pq_int (paq_cons pq_int paq_nil)))) (pq_op opd_mod (pq_ix (pq_var 2 (pv 2)) pq_int) pq_int)) paq_nil)))))))) (pss_one' (ps1_ret pq_bl)) pss_nil')))))))
      (pss_one' (ps1_ret (pq_and (pq_call (ok__law_signs T) (hr.mono (by decide)) (paq_cons (pq_str "") (paq_cons pq_bl paq_nil))) (pq_one (pq_call (ok__law_signs T) (hr.mono (by decide)) (paq_cons (pq_str "\t") (paq_cons pq_bl paq_nil)))))))))
theorem fn_law (T : Tx P w K mg base) {fd : FuncData} (F : FunD K "law" "law" (defArgs s_law) (defBody s_law) (defScope s_law) [] [] (He.ga K "law") fd) : FnOk P w K mg base (L2.CX P w) 3 (He.ga K "law") fd ["_law_script"] (spQ K 1 r_law) :=
  fnq_def F sc_law rfl (fun cdv A outer s H E hr => pss_law T hr) fun _ _ h => h
end
def fn : List He.DefD := [D_figures_of, D__law_figures, D__law_number, D__law_sign, D_is_plain, D_is_small, D__law_signs, D__law_stream, D_law]
def fa : List He.Fa := [.free "bool", .free "divmod", .free "isinstance", .free "len", .free "range", .free "str", .glo "END_NAMES", .str "FIGURES" "0123456789abcdef", .glo "USUAL", .glo "figures_of", .glo "_law_figures", .glo "_law_number", .glo "_law_sign", .glo "is_plain", .glo "is_small", .glo "_law_signs", .glo "_law_stream", .glo "law"]
def ex (K : PySem.W.Frag) : Bool := He.tupB K "END_NAMES" [.str "length", .str "pieces", .str "parts", .str "rest"] && He.tupB K "USUAL" [.int 8, .int 12, .int 40, .int 12, .int 400, .int 12, .int 6]
abbrev hk : PySem.W.Hook := He.hookX 4 fa fn [] [] ex
theorem facts {P : Program} {w : World} {K : PySem.W.Frag} {h : Heap} {mg : Str → Option Value} {base : Heap} (X : K.In h) (G : h.Ns mainGlobals mg) (c : He.SaysX fa fn [] [] ex w h K) : Tx P w K mg base := by
  have cd : He.SaysD fa fn K := c.t.d
  have ce : ex K = true := c.more
  unfold ex at ce
  simp only [Bool.and_eq_true] at ce
  obtain ⟨e_END_NAMES, e_USUAL⟩ := ce
  exact {
    b_bool := He.free_ok X G (cd.fact 0 (f := .free "bool") rfl)
    b_divmod := He.free_ok X G (cd.fact 1 (f := .free "divmod") rfl)
    b_isinstance := He.free_ok X G (cd.fact 2 (f := .free "isinstance") rfl)
    b_len := He.free_ok X G (cd.fact 3 (f := .free "len") rfl)
    b_range := He.free_ok X G (cd.fact 4 (f := .free "range") rfl)
    b_str := He.free_ok X G (cd.fact 5 (f := .free "str") rfl)
    g_END_NAMES := gld_tup (He.glo_ok X G (cd.fact 6 (f := .glo "END_NAMES") rfl)) e_END_NAMES (fun W => (rl_str (rl_str (rl_str (rl_str ⟨rfl, rfl⟩)))))
    g_FIGURES := gld_str (He.str_ok X G (cd.fact 7 (f := .str "FIGURES" "0123456789abcdef") rfl))
    g_USUAL := gld_tup (He.glo_ok X G (cd.fact 8 (f := .glo "USUAL") rfl)) e_USUAL (fun W => (rl_int (rl_int (rl_int (rl_int (rl_int (rl_int (rl_int ⟨rfl, rfl⟩))))))))
    m_figures_of := He.glo_ok X G (cd.fact 9 (f := .glo "figures_of") rfl)
    d_figures_of := cd.def_ 0 (d := D_figures_of) rfl
    m__law_figures := He.glo_ok X G (cd.fact 10 (f := .glo "_law_figures") rfl)
    d__law_figures := cd.def_ 1 (d := D__law_figures) rfl
    m__law_number := He.glo_ok X G (cd.fact 11 (f := .glo "_law_number") rfl)
    d__law_number := cd.def_ 2 (d := D__law_number) rfl
    m__law_sign := He.glo_ok X G (cd.fact 12 (f := .glo "_law_sign") rfl)
    d__law_sign := cd.def_ 3 (d := D__law_sign) rfl
    m_is_plain := He.glo_ok X G (cd.fact 13 (f := .glo "is_plain") rfl)
    d_is_plain := cd.def_ 4 (d := D_is_plain) rfl
    m_is_small := He.glo_ok X G (cd.fact 14 (f := .glo "is_small") rfl)
    d_is_small := cd.def_ 5 (d := D_is_small) rfl
    m__law_signs := He.glo_ok X G (cd.fact 15 (f := .glo "_law_signs") rfl)
    d__law_signs := cd.def_ 6 (d := D__law_signs) rfl
    m__law_stream := He.glo_ok X G (cd.fact 16 (f := .glo "_law_stream") rfl)
    d__law_stream := cd.def_ 7 (d := D__law_stream) rfl
    m_law := He.glo_ok X G (cd.fact 17 (f := .glo "law") rfl)
    d_law := cd.def_ 8 (d := D_law) rfl
  }
abbrev R : PySem.W.OpenRow := PySem.W.OpenLaw.row PySem.Challenge.rw_framepost_k01_signs_and_figures
def ob (s : PySem.W.SharedT) : He.AlX := He.obsX 4 fa fn [] [] ex (HandSHeadRun.getT s)
theorem ob_eq (s : PySem.W.SharedT) : ob s = hk.obs s.abs := He.obsX_eq (HandSHeadRun.getT_eq s)
end G
namespace G
open PySem PySem.Spec PyProof.Rows L2 Fw
local macro_rules | `(tactic| walk_at "fx") => `(tactic| simp -implicitDefEqProofs only [runQ_eq, fSeq_eq, seqK_nx, seqK_rt, seqK_ex, forL_nil, forL_cons, turnK_nx, turnK_rt, endK_rt, endK_nx, qVar_zero, qVar_succ, varK_int, varK_str, varK_bl, varK_non, varK_tup, varK_lst, varK_ml, qB_eq, blK_bl, qAnd_eq, qOr_eq, andK_t, andK_f, orK_t, orK_f, andK_b, orK_b, qNot_eq, notK_b, q3_eq,
  fApp_eq, appK_ml, fFz_eq, fzK_ml, aR1_eq, rgK_int, aR2_eq, rg2K_int, oSome_eq, osK_int, oNone_eq, qM1_eq, m1K_str, qM0_eq, m0K_str, dAdd_int, dAdd_str, dAdd_tup, dAdd_lst, dAdd_mlst, dInt_int, dEq_int, dNe_int, dEq_str, dNe_str, dEq_bl, dNe_bl, dLt_int, dLe_int, dGt_int, dGe_int, dLe_str, dLen_str, dLen_lst, dLen_ml, dLen_tup, dIx_lst, dIx_ml, dIx_tup, dIx_str, o1_eq, o2_eq, oStr_eq, itemsF_lst, itemsF_str, itemsF_tup,
  dSl_str, dSl_lst, dSl_tup, qC_eq, q2_eq, qIf_eq, qTup_eq, qN_eq, qSl_eq, qCall_eq, qRun_eq, qIsi_eq, aNil_eq, aCons_eq, aData_eq, aF_eq, aQ_eq, bAnd_eq, bOr_eq, bNot_eq, fNext_eq, fSet_eq, fSetN_eq, fSetT_eq, fIf_eq, fRet_eq, fRetN_eq, fFor_eq, fAug_eq, tgN_eq, tgT_eq, tgs_cons, tgs_nil,
  Option.bind_some, Option.map_some, Option.bind_none, Option.map_none, List.getElem?_cons_zero, List.getElem?_cons_succ, List.set_cons_zero, List.set_cons_succ, List.cons_append, List.nil_append, List.append_nil, List.length_cons, List.length_nil, List.replicate_zero, List.replicate_succ, data, dataL, dataL_ints, dataL_strs, Bool.and_true, Bool.true_and, Bool.and_self, Bool.not_true, Bool.not_false, and_self, and_true, true_and, eq_self, ↓reduceIte, Bool.false_eq_true, Nat.reduceAdd, Nat.reduceSub, Nat.reduceLeDiff, Int.reduceLT, Int.reduceLE, decide_true, decide_false, cMul_r, cMul_l, small62_of, Int.reduceNeg, tyN_NoneType, tyN_bool, tyN_int, tyN_str, tyN_list, tyN_tuple, tyN_ml, kitB_NoneType_bool, kitB_NoneType_int, kitB_NoneType_str, kitB_NoneType_list, kitB_NoneType_tuple, kitB_bool_bool, kitB_bool_int, kitB_bool_str, kitB_bool_list, kitB_bool_tuple, kitB_int_bool, kitB_int_int, kitB_int_str, kitB_int_list, kitB_int_tuple, kitB_str_bool, kitB_str_int, kitB_str_str, kitB_str_list, kitB_str_tuple, kitB_list_bool, kitB_list_int, kitB_list_str, kitB_list_list, kitB_list_tuple, kitB_tuple_bool, kitB_tuple_int, kitB_tuple_str, kitB_tuple_list, kitB_tuple_tuple])
local macro_rules | `(tactic| walk_at "fxh") => `(tactic| simp -implicitDefEqProofs only [runQ_eq, fSeq_eq, seqK_nx, seqK_rt, seqK_ex, forL_nil, forL_cons, turnK_nx, turnK_rt, endK_rt, endK_nx, qVar_zero, qVar_succ, varK_int, varK_str, varK_bl, varK_non, varK_tup, varK_lst, varK_ml, qB_eq, blK_bl, qAnd_eq, qOr_eq, andK_t, andK_f, orK_t, orK_f, andK_b, orK_b, qNot_eq, notK_b, q3_eq,
  fApp_eq, appK_ml, fFz_eq, fzK_ml, aR1_eq, rgK_int, aR2_eq, rg2K_int, oSome_eq, osK_int, oNone_eq, qM1_eq, m1K_str, qM0_eq, m0K_str, dAdd_int, dAdd_str, dAdd_tup, dAdd_lst, dAdd_mlst, dInt_int, dEq_int, dNe_int, dEq_str, dNe_str, dEq_bl, dNe_bl, dLt_int, dLe_int, dGt_int, dGe_int, dLe_str, dLen_str, dLen_lst, dLen_ml, dLen_tup, dIx_lst, dIx_ml, dIx_tup, dIx_str, o1_eq, o2_eq, oStr_eq, itemsF_lst, itemsF_str, itemsF_tup,
  dSl_str, dSl_lst, dSl_tup, qC_eq, q2_eq, qIf_eq, qTup_eq, qN_eq, qSl_eq, qCall_eq, qRun_eq, qIsi_eq, aNil_eq, aCons_eq, aData_eq, aF_eq, aQ_eq, bAnd_eq, bOr_eq, bNot_eq, fNext_eq, fSet_eq, fSetN_eq, fSetT_eq, fIf_eq, fRet_eq, fRetN_eq, fFor_eq, fAug_eq, tgN_eq, tgT_eq, tgs_cons, tgs_nil,
  Option.bind_some, Option.map_some, Option.bind_none, Option.map_none, List.getElem?_cons_zero, List.getElem?_cons_succ, List.set_cons_zero, List.set_cons_succ, List.cons_append, List.nil_append, List.append_nil, List.length_cons, List.length_nil, List.replicate_zero, List.replicate_succ, data, dataL, dataL_ints, dataL_strs, Bool.and_true, Bool.true_and, Bool.and_self, Bool.not_true, Bool.not_false, and_self, and_true, true_and, eq_self, ↓reduceIte, Bool.false_eq_true, Nat.reduceAdd, Nat.reduceSub, Nat.reduceLeDiff, Int.reduceLT, Int.reduceLE, decide_true, decide_false, cMul_r, cMul_l, small62_of, Int.reduceNeg, tyN_NoneType, tyN_bool, tyN_int, tyN_str, tyN_list, tyN_tuple, tyN_ml, kitB_NoneType_bool, kitB_NoneType_int, kitB_NoneType_str, kitB_NoneType_list, kitB_NoneType_tuple, kitB_bool_bool, kitB_bool_int, kitB_bool_str, kitB_bool_list, kitB_bool_tuple, kitB_int_bool, kitB_int_int, kitB_int_str, kitB_int_list, kitB_int_tuple, kitB_str_bool, kitB_str_int, kitB_str_str, kitB_str_list, kitB_str_tuple, kitB_list_bool, kitB_list_int, kitB_list_str, kitB_list_list, kitB_list_tuple, kitB_tuple_bool, kitB_tuple_int, kitB_tuple_str, kitB_tuple_list, kitB_tuple_tuple, *])
/-! ### the stream of numbers -/
def stp (n k : Int) : Int := (n + 7919 * k + 1) * (n / 1009 + 69621) % 2147483647
theorem stp_lt (n k : Int) : 0 ≤ stp n k ∧ stp n k < 2147483647 := ⟨Int.emod_nonneg _ (by decide), Int.emod_lt_of_pos _ (by decide)⟩
def strm : List Int → Int → List Int
  | [], _ => []
  | k :: ks, n => stp n k :: strm ks (stp n k)
theorem strm_len : ∀ (ks : List Int) (n : Int), (strm ks n).length = ks.length
  | [], _ => rfl
  | k :: ks, n => congrArg Nat.succ (strm_len ks _)
theorem strm_lt : ∀ (ks : List Int) (n : Int), ∀ x ∈ strm ks n, 0 ≤ x ∧ x < 2147483647
  | [], _, x, h => by cases h
  | k :: ks, n, x, h => by
    rcases List.mem_cons.mp h with h | h
    · rw [h]
      exact stp_lt n k
    · exact strm_lt ks _ x h
theorem stream_loop (c m : Int) : ∀ (ks : List Int) (n : Int) (acc : List Int) (y : D), 0 ≤ n → n < 2147483647 → acc.length + ks.length ≤ 1000 → ∃ n' y', forL (tgN 4) (fSeq (fSet 3 (q2 dMod (q2 dMul (q2 dAdd (q2 dAdd (qVar 3) (q2 dMul (qC (.int 7919)) (qVar 4))) (qC (.int 1))) (q2 dAdd (q2 dFdiv (qVar 3) (qC (.int 1009))) (qC (.int 69621)))) (qC (.int 2147483647))))
    (fApp 2 (qVar 3))) [.int c, .int m, .ml (acc.map D.int), .int n, y] [] (ks.map D.int) = some (.nx [.int c, .int m, .ml ((acc ++ strm ks n).map D.int), n', y'] [])
  | [], n, acc, y, _, _, _ => ⟨.int n, y, by simp only [List.map_nil, forL_nil, strm, List.append_nil]⟩
  | k :: ks, n, acc, y, h0, h1, hl => by
    have hm : ∀ i, cMul i (n / 1009 + 69621) = true := fun i => cMul_r (by omega) (by omega)
    have hL : (acc.map D.int).length ≤ LIM := by
      rw [List.length_map]
      exact Nat.le_trans (by omega : acc.length ≤ 1000) (by decide)
    obtain ⟨q1, q2⟩ := stp_lt n k
    obtain ⟨n', y', e⟩ := stream_loop c m ks (stp n k) (acc ++ [stp n k]) (.int k) q1 q2 (by rw [List.length_append]; simp only [List.length_cons, List.length_nil] at hl ⊢; omega)
    refine ⟨n', y', ?_⟩
    rw [List.map_cons]
    refine (forL_turn (ρ1 := [.int c, .int m, .ml (acc.map D.int), .int n, .int k]) (ρ2 := [.int c, .int m, .ml ((acc ++ [stp n k]).map D.int), .int (stp n k), .int k]) (μ2 := []) ?_ ?_).trans ?_
    · rfl
    · walk_at "fxh"
      simp only [List.map_append, List.map_cons, List.map_nil]
      rfl
    · rw [e]
      simp only [strm, List.append_assoc, List.cons_append, List.nil_append]
theorem rangeD_ints (m : Nat) : rangeD 0 (m : Int) = ((List.range m).map fun (i : Nat) => (i : Int)).map D.int := by
  unfold rangeD
  rw [List.map_map, Int.sub_zero, Int.toNat_natCast]
  refine List.map_congr_left fun i _ => ?_
  show D.int (0 + (i : Int)) = D.int (i : Int)
  rw [Int.zero_add]
theorem stream_fin (c : Int) (m : Nat) (hm : m ≤ 500) (xs : List Int) (n' y' : D)
    (e : forL (tgN 4) (fSeq (fSet 3 (q2 dMod (q2 dMul (q2 dAdd (q2 dAdd (qVar 3) (q2 dMul (qC (.int 7919)) (qVar 4))) (qC (.int 1))) (q2 dAdd (q2 dFdiv (qVar 3) (qC (.int 1009))) (qC (.int 69621)))) (qC (.int 2147483647))))
    (fApp 2 (qVar 3))) [.int c, .int (m : Int), .ml [], .int ((c + 1) * 48271 % 2147483647), .un] [] (rangeD 0 (m : Int)) = some (.nx [.int c, .int (m : Int), .ml (xs.map D.int), n', y'] [])) :
    r__law_stream [.int c, .int (m : Int)] = some (.lst (xs.map D.int)) := by
  have h62 : small62 (m : Int) = true := small62_of (by omega) (by omega)
  unfold r__law_stream f__law_stream
  walk_at "fxh"
theorem strm_all (m : Nat) (x : Int) : (strm ((List.range m).map fun (i : Nat) => (i : Int)) x).length = m :=
  (strm_len _ _).trans ((List.length_map _).trans List.length_range)
theorem stream_is (c : Int) (m : Nat) (hm : m ≤ 500) : ∃ xs : List Int, r__law_stream [.int c, .int (m : Int)] = some (.lst (xs.map D.int)) ∧ xs.length = m ∧ ∀ x ∈ xs, 0 ≤ x ∧ x < 2147483647 := by
  have hx0 : 0 ≤ (c + 1) * 48271 % 2147483647 := Int.emod_nonneg _ (by decide)
  have hx1 : (c + 1) * 48271 % 2147483647 < 2147483647 := Int.emod_lt_of_pos _ (by decide)
  have hl : ([] : List Int).length + ((List.range m).map fun (i : Nat) => (i : Int)).length ≤ 1000 := by
    rw [List.length_map, List.length_range, List.length_nil]
    omega
  obtain ⟨n', y', e⟩ := stream_loop c m ((List.range m).map fun (i : Nat) => (i : Int)) _ [] .un hx0 hx1 hl
  rw [← rangeD_ints] at e
  exact ⟨_, stream_fin c m hm _ n' y' e, strm_all m _, strm_lt _ _⟩
/-! ### signs -/
abbrev tabA : List Nat := ofS " !\"#$&'()*+,-./0123456789:;<=>?@ABCDEFGHIJKLMNOPQRSTUVWXYZ[\\]^_`"
abbrev tabB : List Nat := ofS "abcdefghijklmnopqrstuvwxyz{|}~\n"
theorem sign_is (x : Int) : ∃ c, c ∈ tabA ++ tabB ∧ r__law_sign [.int x] = some (.str [c]) := by
  have h1 : tabA.length + tabB.length ≤ LIM := by decide +kernel
  have h2 : (tabA ++ tabB).length ≤ LIM := by decide +kernel
  have h0 : 0 ≤ x % 95 := Int.emod_nonneg _ (by decide)
  have h95 : x % 95 < 95 := Int.emod_lt_of_pos _ (by decide)
  have hl : (x % 95).toNat < (tabA ++ tabB).length := by
    rw [show (tabA ++ tabB).length = 95 from by decide +kernel]
    omega
  have h3 : ixAt (tabA ++ tabB) (x % 95) = some ((tabA ++ tabB)[(x % 95).toNat]'hl) := by
    rw [ixAt_pos h0]
    exact List.getElem?_eq_getElem hl
  have h4 : decide ((0 : Int) < 95) = true := by decide
  refine ⟨_, List.getElem_mem hl, ?_⟩
  unfold r__law_sign f__law_sign
  walk_at "fxh"
theorem signs_one : ∀ c ∈ tabA ++ tabB, r__law_signs [.str [c], .bl true] = some (.bl true) := by
  have h : (tabA ++ tabB).all (fun c => match r__law_signs [.str [c], .bl true] with | some (.bl true) => true | _ => false) = true := by decide +kernel
  intro c hc
  have := List.all_eq_true.mp h c hc
  split at this
  · assumption
  · cases this
theorem small_two (a b : Nat) : r_is_small [.str [a, b]] = some (.bl false) := rfl
theorem plain_two (a b : Nat) : r_is_plain [.str [a, b]] = some (.bl false) := by
  have h : decide ([a, b] = ofS "\n") = false := decide_eq_false (by
    rw [show ofS "\n" = [10] from by decide +kernel]
    intro e
    injection e with _ e
    cases e)
  show endK ((orK (dEq (.str [a, b]) (.str (ofS "\n"))) (some (.bl false))).bind fun d => if data d = true then some (.rt d [.str [a, b]] []) else none) = _
  rw [dEq_str, h]
  rfl
theorem signs_two (a b : Nat) : r__law_signs [.str [a, b], .bl false] = some (.bl true) := by
  have h1 := small_two a b
  have h2 := plain_two a b
  unfold r__law_signs f__law_signs
  walk_at "fxh"
  rfl
theorem signs_none : r__law_signs [.str (ofS ""), .bl false] = some (.bl true) := by kernel_rfl
theorem signs_tab : r__law_signs [.str (ofS "\t"), .bl false] = some (.bl true) := by kernel_rfl
/-! ### figures -/
abbrev figs : List Nat := ofS "0123456789abcdef"
def dig (d : Nat) : Nat := figs.getD d 0
def vfold (b : Nat) (ds : List Nat) (n : Nat) : Nat := ds.foldl (fun v d => v * b + d) n
theorem dig_at {d : Nat} (h : d < 16) : ixAt figs (d : Int) = some (dig d) := by
  rw [ixAt_nat]
  unfold dig
  rw [List.getD_eq_getElem?_getD]
  have : d < figs.length := by
    rw [show figs.length = 16 from by decide +kernel]
    exact h
  rw [List.getElem?_eq_getElem this]
  rfl
def lpT : FB := (qB (q2 dGe (qVar 0) (qVar 1)))
def lpB : FS := (fSeq (fSetT (tgT [0, 3]) (qCall (o2 dDivmod) (aCons (qVar 0) (aCons (qVar 1) (aNil)))))
    (fSet 2 (q2 dAdd (q2 dIx (qC g_FIGURES) (qVar 3)) (qVar 2))))
theorem whL_go (t : FB) (b : FS) (n : Nat) (ρ μ ρ2 μ2 : List D) (h1 : t ρ μ = some true) (h2 : b ρ μ = some (.nx ρ2 μ2)) : whL t b (n + 1) ρ μ = whL t b n ρ2 μ2 := by
  simp only [whL, h1, h2, Option.bind_some, ↓reduceIte]
theorem whL_end (t : FB) (b : FS) (n : Nat) (ρ μ : List D) (h1 : t ρ μ = some false) : whL t b (n + 1) ρ μ = some (.nx ρ μ) := by
  unfold whL
  rw [h1]
  rfl
theorem dInt_mod (i j : Int) : 0 ≤ i → True := fun _ => trivial
theorem dDivmod_nat (n b : Nat) (hb : 0 < b) (hb2 : b < 17) : dDivmod (.int n) (.int b) = some (.tup [.int ((n / b : Nat) : Int), .int ((n % b : Nat) : Int)]) := by
  show (if 0 < (b : Int) ∧ (b : Int) < 1073741824 then some (D.tup [.int ((n : Int) / b), .int ((n : Int) % b)]) else none) = _
  rw [if_pos ⟨by omega, by omega⟩, Int.natCast_ediv, Int.natCast_emod]
theorem figs_loop (b : Nat) (hb : b = 10 ∨ b = 16) (N : Nat) (hN : N < 10 ^ 40) : ∀ (f n : Nat) (ds : List Nat) (y : D), n < f → n * 10 ^ ds.length ≤ N → (ds ≠ [] → 1 ≤ n) → (∀ d ∈ ds, d < b) → vfold b ds n = N →
    ∃ (n' : Nat) (ds' : List Nat) (y' : D), whL lpT lpB f [.int n, .int b, .str (ds.map dig), y] [] = some (.nx [.int n', .int b, .str (ds'.map dig), y'] []) ∧ n' < b ∧ ds'.length < 41 ∧ (ds' ≠ [] → 1 ≤ n') ∧ (∀ d ∈ ds', d < b) ∧ vfold b ds' n' = N
  | 0, n, ds, y, h, _, _, _, _ => absurd h (Nat.not_lt_zero _)
  | f + 1, n, ds, y, h, h1, h2, h3, h4 => by
    have hl : ds.length < 40 + 1 := by
      by_cases e : ds = []
      · rw [e]
        decide
      · have := h2 e
        have h5 : 10 ^ ds.length < 10 ^ 40 := Nat.lt_of_le_of_lt (Nat.le_trans (Nat.le_mul_of_pos_left _ this) h1) hN
        exact Nat.lt_succ_of_lt ((Nat.pow_lt_pow_iff_right (by decide)).mp h5)
    by_cases c : n < b
    · refine ⟨n, ds, y, whL_end _ _ _ _ _ ?_, c, hl, h2, h3, h4⟩
      have hd : decide ((b : Int) ≤ (n : Int)) = false := decide_eq_false (by omega)
      unfold lpT
      walk_at "fxh"
    · have hb0 : 0 < b := by omega
      have hb16 : b < 17 := by omega
      have hm : n % b < b := Nat.mod_lt _ hb0
      have hlt : n / b < n := Nat.div_lt_self (by omega) (by omega)
      have hge : 1 ≤ n / b := (Nat.one_le_div_iff hb0).mpr (by omega)
      have h10 : n / b * 10 ≤ n := by
        have := Nat.div_mul_le_self n b
        rcases hb with rfl | rfl <;> omega
      obtain ⟨n', ds', y', e, k⟩ := figs_loop b hb N hN f (n / b) ((n % b) :: ds) (.int ((n % b : Nat) : Int)) (by omega) (by
        rw [List.length_cons, Nat.pow_succ, Nat.mul_comm (10 ^ ds.length) 10, ← Nat.mul_assoc]
        exact Nat.le_trans (Nat.mul_le_mul_right _ h10) h1) (fun _ => hge) (fun d hd => by
          rcases List.mem_cons.mp hd with hd | hd
          · rw [hd]
            exact hm
          · exact h3 d hd) (by
          rw [← h4]
          show vfold b ds (n / b * b + n % b) = _
          rw [Nat.div_add_mod'])
      refine ⟨n', ds', y', (whL_go _ _ _ _ _ _ _ ?_ ?_).trans e, k⟩
      · have hd : decide ((b : Int) ≤ (n : Int)) = true := decide_eq_true (by omega)
        unfold lpT
        walk_at "fxh"
      · have q1 := dDivmod_nat n b hb0 hb16
        have q2 := dig_at (d := n % b) (by omega)
        have q3 : figs.length ≤ LIM := by decide +kernel
        have q4 : ((n % b : Nat) : Int) = (n % b : Nat) := rfl
        have q5 : [dig (n % b)].length + (ds.map dig).length ≤ LIM := by
          rw [List.length_map]
          refine Nat.le_trans (?_ : _ ≤ 42) (by decide)
          show 1 + ds.length ≤ 42
          omega
        have q6 : dIx g_FIGURES (.int ((n % b : Nat) : Int)) = some (.str [dig (n % b)]) := by
          show (if figs.length ≤ LIM then (ixAt figs ((n % b : Nat) : Int)).map fun c => D.str [c] else none) = _
          rw [if_pos q3, q2]
          rfl
        have q7 : dAdd (.str [dig (n % b)]) (.str (ds.map dig)) = some (.str (((n % b) :: ds).map dig)) := by
          rw [dAdd_str, if_pos q5]
          rfl
        clear q4 q5 e k h4 h3 h2 h1
        unfold lpB
        walk_at "fxh"
theorem figures_is (b n : Nat) (hb : b = 10 ∨ b = 16) (hn : n < 10 ^ 40) : ∃ ds : List Nat, r_figures_of [.int n, .int b] = some (.str (ds.map dig)) ∧ ds ≠ [] ∧ ds.length ≤ 41 ∧ (∀ d ∈ ds, d < b) ∧ (1 < ds.length → ds.head? ≠ some 0) ∧ vfold b ds 0 = n := by
  obtain ⟨n', ds, y, e, h1, h2, h3, h4, h5⟩ := figs_loop b hb n hn (n + 1) n [] .un (by omega) (by rw [List.length_nil, Nat.pow_zero, Nat.mul_one]; exact Nat.le_refl _) (fun h => absurd rfl h) (fun _ h => by cases h) rfl
  have q3 : figs.length ≤ LIM := by decide +kernel
  have q2 := dig_at (d := n') (by omega)
  have q6 : dIx g_FIGURES (.int (n' : Int)) = some (.str [dig n']) := by
    show (if figs.length ≤ LIM then (ixAt figs (n' : Int)).map fun c => D.str [c] else none) = _
    rw [if_pos q3, q2]
    rfl
  have q7 : dAdd (.str [dig n']) (.str (ds.map dig)) = some (.str ((n' :: ds).map dig)) := by
    rw [dAdd_str, if_pos]
    · rfl
    · rw [List.length_map]
      refine Nat.le_trans (?_ : _ ≤ 42) (by decide)
      show 1 + ds.length ≤ 42
      omega
  refine ⟨n' :: ds, ?_, List.cons_ne_nil _ _, by rw [List.length_cons]; omega, ?_, ?_, ?_⟩
  · have e2 : fWh fuel_figures_of_1 lpT lpB [.int n, .int b, .str (ofS ""), .un] [] = some (.nx [.int n', .int b, .str (ds.map dig), y] []) := e
    clear e
    unfold r_figures_of f_figures_of
    unfold lpT lpB at e2
    walk_at "fxh"
  · intro d hd
    rcases List.mem_cons.mp hd with hd | hd
    · rw [hd]
      exact h1
    · exact h4 d hd
  · intro hl e
    have hne : ds ≠ [] := by
      rintro rfl
      simp only [List.length_cons, List.length_nil] at hl
      omega
    have := h3 hne
    injection e with e
    omega
  · show vfold b ds (0 * b + n') = n
    rw [Nat.zero_mul, Nat.zero_add, h5]
/-! ### reading figures back -/
theorem find_dig : ∀ d, d < 16 → Txt.find (tr figs) (tr [dig d]) = (d : Int) := by decide +kernel
theorem dig0 : ∀ d, d < 16 → dig d = 48 → d = 0 := by decide +kernel
def bkB : FS := (fSeq (fSet 5 (qM1 (oStr fun s t => .int (Txt.find (tr s) (tr t))) (qC (.str (ofS "0123456789abcdef"))) (qVar 4)))
    (fSeq (fIf (bOr (qB (q2 dLt (qVar 5) (qC (.int 0)))) (qB (q2 dGe (qVar 5) (qVar 1)))) (fRet (qC (.bl false))) (fNext))
    (fSet 3 (q2 dAdd (q2 dMul (qVar 3) (qVar 1)) (qVar 5)))))
theorem back_loop (b n : Nat) (s : List Nat) (hb : b = 10 ∨ b = 16) : ∀ (ds : List Nat) (v : Nat) (y z : D), (∀ d ∈ ds, d < b) →
    ∃ y' z', forL (tgN 4) bkB [.int n, .int b, .str s, .int v, y, z] [] (ds.map fun d => D.str [dig d]) = some (.nx [.int n, .int b, .str s, .int (vfold b ds v : Nat), y', z'] [])
  | [], v, y, z, _ => ⟨y, z, rfl⟩
  | d :: ds, v, y, z, h => by
    have hd : d < b := h d (List.mem_cons_self ..)
    obtain ⟨y', z', e⟩ := back_loop b n s hb ds (v * b + d) (.str [dig d]) (.int d) fun x hx => h x (List.mem_cons_of_mem _ hx)
    refine ⟨y', z', ?_⟩
    have q1 := find_dig d (by omega)
    have q2 : decide ((d : Int) < 0) = false := decide_eq_false (by omega)
    have q3 : decide ((b : Int) ≤ (d : Int)) = false := decide_eq_false (by omega)
    have q4 : ∀ i : Int, cMul i (b : Int) = true := fun i => cMul_r (by omega) (by omega)
    have q5 : (v : Int) * b + d = ((v * b + d : Nat) : Int) := by rw [Int.natCast_add, Int.natCast_mul]
    rw [List.map_cons]
    refine (forL_turn (ρ1 := [.int n, .int b, .str s, .int v, .str [dig d], z]) (ρ2 := [.int n, .int b, .str s, .int ((v * b + d : Nat) : Int), .str [dig d], .int d]) (μ2 := []) rfl ?_).trans e
    clear e
    unfold bkB
    walk_at "fxh"
theorem figures_ok (b n : Nat) (hb : b = 10 ∨ b = 16) (hn : n < 10 ^ 40) : r__law_figures [.int n, .int b] = some (.bl true) := by
  obtain ⟨ds, e, h1, h2, h3, h4, h5⟩ := figures_is b n hb hn
  obtain ⟨y', z', e2⟩ := back_loop b n (ds.map dig) hb ds 0 .un .un h3
  rw [h5] at e2
  have w1 : decide (ds.map dig = ofS "") = false := decide_eq_false (by
    intro k
    rw [show ofS "" = [] from rfl] at k
    exact h1 (List.map_eq_nil_iff.mp k))
  have w2 : (ds.map dig).length ≤ LIM := by
    rw [List.length_map]
    exact Nat.le_trans h2 (by decide)
  obtain ⟨d, ds', rfl⟩ := List.exists_cons_of_ne_nil h1
  have hd16 : d < 16 := by
    have := h3 d (List.mem_cons_self ..)
    omega
  have w3 : ixAt ((d :: ds').map dig) 0 = some (dig d) := rfl
  have w6 : ((d :: ds').map dig).map (fun c => D.str [c]) = (d :: ds').map (fun d => D.str [dig d]) := by
    rw [List.map_map]
    rfl
  have w8 : decide ((n : Int) = n) = true := decide_eq_true rfl
  rw [← w6] at e2
  unfold bkB at e2
  rw [show ((0 : Nat) : Int) = 0 from rfl] at e2
  by_cases hl : 1 < (d :: ds').length
  · have w4 : decide ((1 : Int) < ((((d :: ds').map dig).length : Nat) : Int)) = true := decide_eq_true (by rw [List.length_map]; omega)
    have w5 : decide ([dig d] = ofS "0") = false := decide_eq_false (by
      rw [show ofS "0" = [48] from by decide +kernel]
      intro k
      injection k with k
      have := dig0 d hd16 k
      exact h4 hl (by rw [this]; rfl))
    clear h3 h4 h1 h2 h5 w6 hl
    generalize (d :: ds').map dig = s at *
    unfold r__law_figures f__law_figures
    walk_at "fxh"
  · have w4 : decide ((1 : Int) < ((((d :: ds').map dig).length : Nat) : Int)) = false := decide_eq_false (by rw [List.length_map]; omega)
    clear h3 h4 h1 h2 h5 w6 hl
    generalize (d :: ds').map dig = s at *
    unfold r__law_figures f__law_figures
    walk_at "fxh"
/-! ### numbers -/
theorem pow_loop (x c b : Int) (hb : b = 10 ∨ b = 16) : ∀ (ds : List D), (∀ d ∈ ds, ∃ i : Int, d = .int i) → ∀ (n : Nat) (y : D), ∃ (n' : Nat) (y' : D), forL (tgN 4) (fSet 3 (q2 dMul (qVar 3) (qVar 2))) [.int x, .int c, .int b, .int n, y] [] ds = some (.nx [.int x, .int c, .int b, .int n', y'] []) ∧ (1 ≤ n → 1 ≤ n')
  | [], _, n, y => ⟨n, y, rfl, id⟩
  | d :: ds, h, n, y => by
    obtain ⟨i, rfl⟩ := h d (List.mem_cons_self ..)
    have hb0 : 0 < b ∧ b < 17 := by omega
    obtain ⟨n', y', e, k⟩ := pow_loop x c b hb ds (fun d hd => h d (List.mem_cons_of_mem _ hd)) (n * b.toNat) (.int i)
    have w1 : ∀ j : Int, cMul j b = true := fun j => cMul_r (by omega) (by omega)
    have w2 : (n : Int) * b = ((n * b.toNat : Nat) : Int) := by
      rw [Int.natCast_mul, Int.toNat_of_nonneg (by omega)]
    refine ⟨n', y', (forL_turn (ρ1 := [.int x, .int c, .int b, .int n, .int i]) (ρ2 := [.int x, .int c, .int b, .int ((n * b.toNat : Nat) : Int), .int i]) (μ2 := []) rfl ?_).trans e, fun h1 => k ?_⟩
    · clear e k
      walk_at "fxh"
    · have : 1 ≤ b.toNat := by omega
      exact Nat.le_trans h1 (Nat.le_mul_of_pos_right _ this)
theorem rangeD_int (i j : Int) : ∀ d ∈ rangeD i j, ∃ k : Int, d = .int k := by
  intro d hd
  unfold rangeD at hd
  obtain ⟨k, _, rfl⟩ := List.mem_map.mp hd
  exact ⟨_, rfl⟩
theorem number_is (x c : Int) (hx : 0 ≤ x) : ∃ (n b : Nat), r__law_number [.int x, .int c] = some (.tup [.int n, .int b]) ∧ n < 10 ^ 40 ∧ (b = 10 ∨ b = 16) := by
  have hb : ∃ b : Nat, ixAt [D.int 10, D.int 16] (x % 2) = some (.int (b : Int)) ∧ (b = 10 ∨ b = 16) := by
    have : x % 2 = 0 ∨ x % 2 = 1 := by omega
    rcases this with e | e <;> rw [e]
    · exact ⟨10, rfl, .inl rfl⟩
    · exact ⟨16, rfl, .inr rfl⟩
  obtain ⟨b, hb1, hb2⟩ := hb
  have w1 : decide ((0 : Int) < 2) = true := by decide
  have w2 : decide ((0 : Int) ≤ 40 ∧ (40 : Int) ≤ 1000 ∧ (10 : Int).natAbs < 18446744073709551616) = true := by decide
  have w3 : decide ((0 : Int) < 10 ^ (40 : Int).toNat) = true := by decide
  have w2' : decide ((10 : Int).natAbs < 18446744073709551616) = true := by decide
  have w4 : decide ((0 : Int) < 3) = true := by decide
  have w5 : decide ((0 : Int) < 6 ∧ (6 : Int) < 1073741824) = true := by decide
  have w6 : decide ((0 : Int) < 40) = true := by decide
  have w7 : decide ((0 : Int) < 240 ∧ (240 : Int) < 1073741824) = true := by decide
  have hm : ∀ j : Int, ∃ n : Nat, j % 10 ^ (40 : Int).toNat = n ∧ n < 10 ^ 40 := fun j => by
    have h1 : 0 ≤ j % 10 ^ (40 : Int).toNat := Int.emod_nonneg _ (by decide)
    have h2 : j % 10 ^ (40 : Int).toNat < 10 ^ (40 : Int).toNat := Int.emod_lt_of_pos _ (by decide)
    refine ⟨(j % 10 ^ (40 : Int).toNat).toNat, (Int.toNat_of_nonneg h1).symm, ?_⟩
    have : ((j % 10 ^ (40 : Int).toNat).toNat : Int) < ((10 ^ 40 : Nat) : Int) := by
      rw [Int.toNat_of_nonneg h1]
      exact h2
    exact Int.ofNat_lt.mp this
  by_cases h3 : x % 3 = 0
  · have w8 : decide (x % 3 = 0) = true := decide_eq_true h3
    have w9 : small62 (x / 6 % 40) = true := small62_of (by omega) (by omega)
    obtain ⟨n', y', e, _⟩ := pow_loop x c b (by omega) (rangeD 0 (x / 6 % 40)) (rangeD_int _ _) 1 .un
    obtain ⟨n, hn1, hn2⟩ := hm ((n' : Int) - x / 240 % 2)
    refine ⟨n, b, ?_, hn2, hb2⟩
    rw [show ((1 : Nat) : Int) = 1 from rfl] at e
    clear hm hn2 hb2 h3 hx
    unfold r__law_number f__law_number
    walk_at "fxh"
  · have w8 : decide (x % 3 = 0) = false := decide_eq_false h3
    obtain ⟨n, hn1, hn2⟩ := hm (c % 10 ^ (40 : Int).toNat)
    refine ⟨n, b, ?_, hn2, hb2⟩
    clear hm hn2 hb2 h3 hx
    unfold r__law_number f__law_number
    walk_at "fxh"
/-! ### the law -/
abbrev lawB : FS := (fSeq (fSet 2 (qRun 2 [] r__law_stream (aCons (qVar 1) (aCons (qC (.int 6)) (aNil)))))
    (fSeq (fSet 3 (qRun 1 [] r__law_sign (aCons (q2 dIx (qVar 2) (qC (.int 0))) (aNil))))
    (fSeq (fIf (bOr (bNot (qB (qRun 2 [] r__law_signs (aCons (qVar 3) (aCons (qC (.bl true)) (aNil)))))) (bNot (qB (qRun 2 [] r__law_signs (aCons (q2 dAdd (qRun 1 [] r__law_sign (aCons (q2 dIx (qVar 2) (qC (.int 1))) (aNil))) (qRun 1 [] r__law_sign (aCons (q2 dIx (qVar 2) (qC (.int 2))) (aNil)))) (aCons (qC (.bl false)) (aNil))))))) (fRet (qC (.bl false))) (fNext))
    (fSeq (fSetT (tgT [4, 5]) (qRun 2 [] r__law_number (aCons (q2 dIx (qVar 2) (qC (.int 3))) (aCons (qVar 1) (aNil)))))
    (fIf (bOr (bNot (qB (qRun 2 [] r__law_figures (aCons (qVar 4) (aCons (qVar 5) (aNil)))))) (bNot (qB (qRun 2 [] r__law_figures (aCons (q2 dMod (q2 dIx (qVar 2) (qC (.int 4))) (qC (.int 40))) (aCons (q2 dIx (qN (aData (aCons (qC (.int 10)) (aCons (qC (.int 16)) (aNil))))) (q2 dMod (q2 dIx (qVar 2) (qC (.int 5))) (qC (.int 2)))) (aNil))))))) (fRet (qC (.bl false))) (fNext))))))
theorem six {xs : List Int} (h : xs.length = 6) : ∃ a b c d e f, xs = [a, b, c, d, e, f] := by
  match xs, h with
  | [a, b, c, d, e, f], _ => exact ⟨a, b, c, d, e, f, rfl⟩
theorem turn_ok (l y2 y3 y4 y5 : D) (hl : data l = true) (c : Int) : ∃ z2 z3 z4 z5, lawB [l, .int c, y2, y3, y4, y5] [] = some (.nx [l, .int c, z2, z3, z4, z5] []) := by
  obtain ⟨xs, e, hx, hp⟩ := stream_is c 6 (by decide)
  obtain ⟨x0, x1, x2, x3, x4, x5, rfl⟩ := six hx
  have p3 : 0 ≤ x3 := (hp x3 (by simp only [List.mem_cons, true_or, or_true])).1
  obtain ⟨c0, m0, s0⟩ := sign_is x0
  obtain ⟨c1, m1, s1⟩ := sign_is x1
  obtain ⟨c2, m2, s2⟩ := sign_is x2
  have t0 := signs_one c0 m0
  have t1 := signs_two c1 c2
  obtain ⟨n, b, e3, hn, hb⟩ := number_is x3 c p3
  have e4 := figures_ok b n hb hn
  have hb2 : ∃ b : Nat, ixAt [D.int 10, D.int 16] (x5 % 2) = some (.int (b : Int)) ∧ (b = 10 ∨ b = 16) := by
    have : x5 % 2 = 0 ∨ x5 % 2 = 1 := by omega
    rcases this with e | e <;> rw [e]
    · exact ⟨10, rfl, .inl rfl⟩
    · exact ⟨16, rfl, .inr rfl⟩
  obtain ⟨b2, e5, hb2⟩ := hb2
  have e6 := figures_ok b2 (x4 % 40).toNat hb2 (Nat.lt_of_lt_of_le (by omega : (x4 % 40).toNat < 40) (by decide))
  rw [Int.toNat_of_nonneg (by omega)] at e6
  have i0 : ixAt ([x0, x1, x2, x3, x4, x5].map D.int) 0 = some (.int x0) := rfl
  have i1 : ixAt ([x0, x1, x2, x3, x4, x5].map D.int) 1 = some (.int x1) := rfl
  have i2 : ixAt ([x0, x1, x2, x3, x4, x5].map D.int) 2 = some (.int x2) := rfl
  have i3 : ixAt ([x0, x1, x2, x3, x4, x5].map D.int) 3 = some (.int x3) := rfl
  have i4 : ixAt ([x0, x1, x2, x3, x4, x5].map D.int) 4 = some (.int x4) := rfl
  have i5 : ixAt ([x0, x1, x2, x3, x4, x5].map D.int) 5 = some (.int x5) := rfl
  have w1 : decide ((0 : Int) < 2) = true := by decide
  have w2 : decide ((0 : Int) < 40) = true := by decide
  have w3 : 2 ≤ LIM := by decide
  refine ⟨.lst ([x0, x1, x2, x3, x4, x5].map D.int), .str [c0], .int n, .int b, ?_⟩
  rw [show ((6 : Nat) : Int) = 6 from rfl] at e
  clear hp hx m0 m1 m2 hn hb hb2 p3
  generalize [x0, x1, x2, x3, x4, x5] = xs at *
  walk_at "fxh"
theorem law_true (ns : List Int) (h : ns.length ≤ 63) : r_law [.lst (ns.map D.int)] = some (.bl true) := by
  have w1 : dNe g_USUAL (.tup [.int 8, .int 12, .int 40, .int 12, .int 400, .int 12, .int 6]) = some (.bl false) := by kernel_rfl
  have w2 : dNe g_END_NAMES (.tup [.str (ofS "length"), .str (ofS "pieces"), .str (ofS "parts"), .str (ofS "rest")]) = some (.bl false) := by kernel_rfl
  have w3 : (ns.map D.int).length + 3 ≤ LIM := by
    rw [List.length_map]
    refine Nat.le_trans (?_ : _ ≤ 66) (by decide)
    show ns.length + 3 ≤ 66
    omega
  have hI : ∀ d ∈ cut (ns.map D.int ++ [D.int 0, D.int 1, D.int 2]) none (some 40), ∃ i : Int, d = .int i := by
    intro d hd
    rw [show (40 : Int) = ((40 : Nat) : Int) from rfl, cut_take] at hd
    have := List.mem_of_mem_take hd
    rcases List.mem_append.mp this with h | h
    · obtain ⟨i, _, rfl⟩ := List.mem_map.mp h
      exact ⟨i, rfl⟩
    · simp only [List.mem_cons, List.not_mem_nil, or_false] at h
      rcases h with rfl | rfl | rfl
      · exact ⟨0, rfl⟩
      · exact ⟨1, rfl⟩
      · exact ⟨2, rfl⟩
  have hd : data (.lst (ns.map D.int)) = true := dataL_ints ns
  obtain ⟨ρ', e, z1, z2, z3, z4, z5, rfl⟩ := forL_all (g := tgN 1) (b := lawB) (μ := []) (I := fun ρ => ∃ z1 z2 z3 z4 z5, ρ = [.lst (ns.map D.int), z1, z2, z3, z4, z5]) _ [.lst (ns.map D.int), .un, .un, .un, .un, .un] ⟨_, _, _, _, _, rfl⟩ (fun d hd ρ hρ => by
    obtain ⟨i, rfl⟩ := hI d hd
    obtain ⟨z1, z2, z3, z4, z5, rfl⟩ := hρ
    obtain ⟨y2, y3, y4, y5, e⟩ := turn_ok (.lst (ns.map D.int)) z2 z3 z4 z5 (dataL_ints ns) i
    exact ⟨_, _, rfl, e, _, _, _, _, _, rfl⟩)
  have s1 := signs_none
  have s2 := signs_tab
  clear hI
  unfold lawB at e
  generalize ns.map D.int = l at *
  unfold r_law f_law
  walk_at "fxh"
end G
namespace G
open PySem PySem.Spec PyProof.Rows L2 Fw
def loose : List PySem.Str := ["FIGURES", "END_NAMES", "USUAL", "is_small", "is_plain", "figures_of", "_law_stream", "_law_sign", "_law_signs", "_law_number", "_law_figures"]
theorem run (w : World) : HandSHeadRun.RunEq R (PySem.W.view R.prog [13]) hk ob 4000 loose w := by
  intro os
  kernel_rfl
end G
open PySem PySem.W PySem.Calls PyProof.Rows
set_option maxRecDepth 100000 in
set_option maxHeartbeats 0 in
theorem PySem.Challenge.cw_framepost_k01_signs_and_figures_holds : PySem.Challenge.rw_framepost_k01_signs_and_figures.Holds := by
  w_on; o_law
  refine HandSHeadRun.head_any (r := OpenLaw.row PySem.Challenge.rw_framepost_k01_signs_and_figures) (q := view (OpenLaw.row PySem.Challenge.rw_framepost_k01_signs_and_figures).prog [13]) (H := G.hk) (ob := G.ob) (M := 4000) (loose := G.loose) (d := HandSHeadRun.topDef (OpenLaw.row PySem.Challenge.rw_framepost_k01_signs_and_figures).prog 13) (kwd := []) G.ob_eq
    (by kernel_rfl) (fun s => by kernel_rfl) G.run (by kernel_rfl) (by kernel_rfl) (by kernel_rfl) (by rfl) (by first | assumption | decide +kernel) (by decide +kernel) ⟨rfl, rfl, rfl, rfl, rfl, by decide +kernel⟩ ?hw ?hc
  case hw => w_witness2
  case hc =>
    refine L2.walk_ofE (l := PySem.Challenge.rw_framepost_k01_signs_and_figures) (n := 63) (k := 3) (x := "_law_script") (CX := Fw.CXw) rfl (by decide) (by kernel_rfl) ⟨rfl, by decide, by decide⟩ ?F (fun _ _ _ _ z => Fw.cxw_none z)
    intro w mg fa h Y G0 hmg0
    obtain ⟨K, KX, c⟩ := Y
    have hmg : mg ("law" : PySem.Str) = some (.ref fa) := by
      have e : (HandSHeadRun.topDef (OpenLaw.row PySem.Challenge.rw_framepost_k01_signs_and_figures).prog 13).name = ("law" : PySem.Str) := by kernel_rfl
      rw [← e]
      exact hmg0
    obtain ⟨fd, F⟩ := (G.facts (P := (PySem.Challenge.rw_framepost_k01_signs_and_figures).prog) (base := h) KX G0 c).d_law
    have em := (G.facts (P := (PySem.Challenge.rw_framepost_k01_signs_and_figures).prog) (base := h) KX G0 c).m_law
    rw [hmg] at em
    cases em
    refine ⟨K, fd, Fw.spQ K 1 G.r_law, KX, fun s u => L2.FunD.bindsA (ps := ["_law_script"]) F (fun _ _ _ _ _ _ us hl => match us, hl with | [_], _ => rfl) s [u] rfl, fun H a ns hl _ hS => Fw.law_sp hS (G.law_true ns hl), fun base hb hn => ?_⟩
    exact Fw.cx_wide (G.fn_law (G.facts (P := (PySem.Challenge.rw_framepost_k01_signs_and_figures).prog) (base := base) KX G0 c) F)
#print axioms PySem.Challenge.cw_framepost_k01_signs_and_figures_holds

