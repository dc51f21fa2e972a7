import PyProof.Rows.All
import Wide.All
import OpenK.AllK
import Wide.FinOn
import HandS.ForMost
import HandS.Exc
import HandS.TryOnly
import HandS.ExcOwn
import HandS.WordsExc
import HandS.Defaults
import HandS.HeadHook1
import HandS.HeadHook2
import HandS.HeadHook4
import HandS.Head2
import HandS.HeadEnd
import HandS.Evl
import HandS.Wide
import HandS.WideBits
import HandS.TupAny
import HandS.IsInst
import HandS.Style
import HandS.StrMore
import HandS.CallSlots
import HandS.Iter
import HandS.Replace
import HandS.ClsMeth
import PySem.Challenge.RW_framepost_k23_words_and_values_read
set_option Elab.async false
set_option linter.all false
set_option maxRecDepth 100000
set_option maxHeartbeats 4000000
/-! # values as trees, worlds, and how a tree stands in the abstract heap -/
namespace Fw
open PySem PySem.Spec PyProof.Rows L2
open Evl (Ex)

/-- a value as a tree: lst a list that nobody changes any more, ml one that one place owns, obj an instance that one place owns, fo an instance that nobody changes meanwhile, ref an instance that is shared, un nothing -/
inductive D where
  | non | bl (b : Bool) | int (i : Int) | str (s : List Nat) | tup (ds : List D) | lst (ds : List D) | ml (ds : List D)
  | obj (c : Str) (ns : List Str) (ds : List D) | fo (c : Str) (ns : List Str) (ds : List D) | ref (k : Nat) | un
abbrev tr (s : List Nat) : Str := ⟨s.toArray⟩
/-- a written text's signs -/
def ofS (s : String) : List Nat := s.toList.map Char.toNat
theorem tr_ofS (s : String) : (Str.ofString s) = tr (ofS s) := Str.ofString_eq_toList s

structure Wd where
  H : Hp
  Fr : Addr → Prop
  m : List Addr
/-- a list that stands still -/
def FzR (W : Wd) (a : Addr) (xs : List V) : Prop := Rd W.H a (.lst xs) ∧ W.Fr a
def FzL (K : PySem.W.Frag) (W : Wd) (a : Addr) (xs : List V) : Prop := FzR W a xs ∨ SqL K (fun _ => none) a xs
theorem FzL.sq {K : PySem.W.Frag} {W : Wd} {a : Addr} {xs : List V} (h : FzL K W a xs) : SqL K W.H a xs := by
  rcases h with h | h
  · exact .inl h.1
  · rcases h with h | h
    · rcases h with h | ⟨_, h⟩ <;> cases h
    · exact .inr h

mutual
def R (K : PySem.W.Frag) (W : Wd) : D → V → List Addr → Prop
  | .non, v, F => v = .non ∧ F = []
  | .bl b, v, F => v = .bl b ∧ F = []
  | .int i, v, F => v = .int i ∧ F = []
  | .str s, v, F => v = .str (tr s) ∧ F = []
  | .tup ds, v, F => ∃ a vs, v = .ref a ∧ SqT K W.H a vs ∧ RL K W ds vs F
  | .lst ds, v, F => ∃ a vs, v = .ref a ∧ FzL K W a vs ∧ RL K W ds vs [] ∧ F = []
  | .ml ds, v, F => ∃ a vs F', v = .ref a ∧ W.H a = some (.lst vs) ∧ RL K W ds vs F' ∧ F = a :: F'
  | .obj c ns ds, v, F => ∃ a dx vs F', v = .ref a ∧ W.H a = some (.ins (He.ga K c) dx (ns.zip vs)) ∧ ns.length = ds.length ∧ RL K W ds vs F' ∧ F = a :: F'
  | .fo c ns ds, v, F => ∃ a dx vs, v = .ref a ∧ W.H a = some (.ins (He.ga K c) dx (ns.zip vs)) ∧ W.Fr a ∧ ns.length = ds.length ∧ RL K W ds vs [] ∧ F = []
  | .ref k, v, F => ∃ a, v = .ref a ∧ W.m[k]? = some a ∧ F = []
  | .un, v, F => False
def RL (K : PySem.W.Frag) (W : Wd) : List D → List V → List Addr → Prop
  | [], vs, F => vs = [] ∧ F = []
  | d :: ds, vs, F => ∃ v vs' F1 F2, vs = v :: vs' ∧ R K W d v F1 ∧ RL K W ds vs' F2 ∧ F = F1 ++ F2
end
/-- a slot -/
def R1 (K : PySem.W.Frag) (W : Wd) : D → Option V → List Addr → Prop
  | .un, _, F => F = []
  | d, o, F => ∃ v, o = some v ∧ R K W d v F
def RS (K : PySem.W.Frag) (W : Wd) : List D → List (Option V) → List Addr → Prop
  | [], σ, F => σ = [] ∧ F = []
  | d :: ds, σ, F => ∃ o σ' F1 F2, σ = o :: σ' ∧ R1 K W d o F1 ∧ RS K W ds σ' F2 ∧ F = F1 ++ F2

def WOk (W : Wd) : Prop := ∀ a, W.Fr a → W.H a ≠ none
/-- a place of its own: a list or an instance that may change -/
def Own (W : Wd) (a : Addr) : Prop := ¬ W.Fr a ∧ ((∃ xs, W.H a = some (.lst xs)) ∨ ∃ C dx fs, W.H a = some (.ins C dx fs))

/-- the world has grown: nothing that was there is other -/
structure Ext (W W' : Wd) : Prop where
  ex : Ex W.H W'.H
  fr : ∀ a, W.Fr a → W'.Fr a
  nf : ∀ a, W'.Fr a → W.Fr a ∨ W.H a = none
  m : W'.m = W.m
  ok : WOk W'
theorem Ext.refl {W : Wd} (h : WOk W) : Ext W W := ⟨Ex.refl _, fun _ h => h, fun _ h => .inl h, rfl, h⟩
theorem Ext.trans {A B C : Wd} (h : Ext A B) (g : Ext B C) : Ext A C :=
  ⟨h.ex.trans g.ex, fun a q => g.fr a (h.fr a q), fun a q => by
    rcases g.nf a q with q | q
    · exact h.nf a q
    · exact .inr (Evl.fresh_back h.ex q), g.m.trans h.m, g.ok⟩

theorem FzR.ext {W W' : Wd} {a : Addr} {xs : List V} (e : Ext W W') (h : FzR W a xs) : FzR W' a xs := ⟨Evl.ex_rd e.ex h.1, e.fr _ h.2⟩
theorem FzL.ext {K : PySem.W.Frag} {W W' : Wd} {a : Addr} {xs : List V} (e : Ext W W') (h : FzL K W a xs) : FzL K W' a xs := h.imp (fun z => z.ext e) id
section
variable {K : PySem.W.Frag} {W W' : Wd}
mutual
theorem R_ext (e : Ext W W') : ∀ (d : D) {v : V} {F : List Addr}, R K W d v F → R K W' d v F
  | .non, _, _, h => h
  | .bl _, _, _, h => h
  | .int _, _, _, h => h
  | .str _, _, _, h => h
  | .tup ds, _, _, h => by
    obtain ⟨a, vs, h1, h2, h3⟩ := h
    exact ⟨a, vs, h1, Evl.ex_t e.ex h2, RL_ext e ds h3⟩
  | .lst ds, _, _, h => by
    obtain ⟨a, vs, h1, h2, h3, h4⟩ := h
    exact ⟨a, vs, h1, h2.ext e, RL_ext e ds h3, h4⟩
  | .ml ds, _, _, h => by
    obtain ⟨a, vs, F', h1, h2, h3, h4⟩ := h
    exact ⟨a, vs, F', h1, e.ex _ _ h2, RL_ext e ds h3, h4⟩
  | .obj c ns ds, _, _, h => by
    obtain ⟨a, dx, vs, F', h1, h2, h3, h4, h5⟩ := h
    exact ⟨a, dx, vs, F', h1, e.ex _ _ h2, h3, RL_ext e ds h4, h5⟩
  | .fo c ns ds, _, _, h => by
    obtain ⟨a, dx, vs, h1, h2, h3, h4, h5, h6⟩ := h
    exact ⟨a, dx, vs, h1, e.ex _ _ h2, e.fr _ h3, h4, RL_ext e ds h5, h6⟩
  | .ref k, _, _, h => by
    obtain ⟨a, h1, h2, h3⟩ := h
    exact ⟨a, h1, by rw [e.m]; exact h2, h3⟩
  | .un, _, _, h => h.elim
theorem RL_ext (e : Ext W W') : ∀ (ds : List D) {vs : List V} {F : List Addr}, RL K W ds vs F → RL K W' ds vs F
  | [], _, _, h => h
  | d :: ds, _, _, h => by
    obtain ⟨v, vs', F1, F2, h1, h2, h3, h4⟩ := h
    exact ⟨v, vs', F1, F2, h1, R_ext e d h2, RL_ext e ds h3, h4⟩
end
theorem R1_iff : ∀ {d : D} {o : Option V} {F : List Addr}, R1 K W d o F ↔ (d = .un ∧ F = []) ∨ (∃ v, o = some v ∧ R K W d v F) := by
  intro d o F
  cases d <;> simp [R1, R]
theorem R1_ext (e : Ext W W') {d : D} {o : Option V} {F : List Addr} (h : R1 K W d o F) : R1 K W' d o F := by
  rw [R1_iff] at h ⊢
  rcases h with h | ⟨v, h1, h2⟩
  · exact .inl h
  · exact .inr ⟨v, h1, R_ext e d h2⟩
theorem RS_ext (e : Ext W W') : ∀ {ds : List D} {σ : List (Option V)} {F : List Addr}, RS K W ds σ F → RS K W' ds σ F
  | [], _, _, h => h
  | d :: ds, _, _, h => by
    obtain ⟨o, σ', F1, F2, h1, h2, h3, h4⟩ := h
    exact ⟨o, σ', F1, F2, h1, R1_ext e h2, RS_ext e h3, h4⟩
theorem Own.ext {a : Addr} (e : Ext W W') (h : Own W a) : Own W' a := by
  obtain ⟨h1, h2⟩ := h
  refine ⟨fun q => ?_, ?_⟩
  · rcases e.nf a q with q | q
    · exact h1 q
    · rcases h2 with ⟨xs, h2⟩ | ⟨C, dx, fs, h2⟩ <;> rw [q] at h2 <;> cases h2
  · rcases h2 with ⟨xs, h2⟩ | ⟨C, dx, fs, h2⟩
    · exact .inl ⟨xs, e.ex _ _ h2⟩
    · exact .inr ⟨C, dx, fs, e.ex _ _ h2⟩
end
/-- the slots and the store stand in the world -/
structure Sta (K : PySem.W.Frag) (W : Wd) (σ : L2.St) (ρ μ : List D) (F : List Addr) : Prop where
  ex : ∃ F1 F2, RS K W ρ σ F1 ∧ RL K W μ (W.m.map V.ref) F2 ∧ F = F1 ++ F2
  nd : F.Nodup
  own : ∀ a ∈ F, Own W a
  ok : WOk W
theorem Sta.ext {K : PySem.W.Frag} {W W' : Wd} {σ : L2.St} {ρ μ : List D} {F : List Addr} (e : Ext W W') (h : Sta K W σ ρ μ F) : Sta K W' σ ρ μ F := by
  obtain ⟨⟨F1, F2, h1, h2, h3⟩, h4, h5, h6⟩ := h
  exact ⟨⟨F1, F2, RS_ext e h1, by rw [e.m]; exact RL_ext e μ h2, h3⟩, h4, fun a ha => (h5 a ha).ext e, e.ok⟩
section
variable {K : PySem.W.Frag} {W W' : Wd}
theorem RS_get : ∀ {ρ : List D} {σ : List (Option V)} {F : List Addr} {i : Nat} {d : D}, RS K W ρ σ F → ρ[i]? = some d → d ≠ .un → ∃ v F1, σ[i]? = some (some v) ∧ R K W d v F1
  | [], _, _, i, d, _, h, _ => by simp at h
  | d0 :: ρ, _, _, 0, d, h, h1, h2 => by
    obtain ⟨o, σ', F1, F2, e1, e2, e3, e4⟩ := h
    have e : d0 = d := Option.some.inj h1
    subst e
    rw [R1_iff] at e2
    rcases e2 with ⟨q, _⟩ | ⟨v, q1, q2⟩
    · exact absurd q h2
    · exact ⟨v, F1, by rw [e1, q1]; rfl, q2⟩
  | d0 :: ρ, _, _, i + 1, d, h, h1, h2 => by
    obtain ⟨o, σ', F1, F2, e1, e2, e3, e4⟩ := h
    obtain ⟨v, F3, q1, q2⟩ := RS_get (i := i) e3 (by simpa using h1) h2
    exact ⟨v, F3, by rw [e1]; simpa using q1, q2⟩
/-! ### data -/
mutual
def data : D → Bool
  | .tup ds => dataL ds
  | .lst ds => dataL ds
  | .ml _ => false
  | .obj _ _ _ => false
  | .fo _ _ _ => false
  | .ref _ => false
  | .un => false
  | _ => true
def dataL : List D → Bool
  | [] => true
  | d :: ds => data d && dataL ds
end
mutual
theorem R_data : ∀ (d : D) {v : V} {F : List Addr}, data d = true → R K W d v F → F = []
  | .non, _, _, _, h => h.2
  | .bl _, _, _, _, h => h.2
  | .int _, _, _, _, h => h.2
  | .str _, _, _, _, h => h.2
  | .tup ds, _, _, q, h => by
    obtain ⟨a, vs, h1, h2, h3⟩ := h
    exact RL_data ds q h3
  | .lst ds, _, _, _, h => by
    obtain ⟨a, vs, h1, h2, h3, h4⟩ := h
    exact h4
  | .ml ds, _, _, q, h => by cases q
  | .obj c ns ds, _, _, q, h => by cases q
  | .fo c ns ds, _, _, q, h => by cases q
  | .ref k, _, _, q, h => by cases q
  | .un, _, _, _, h => h.elim
theorem RL_data : ∀ (ds : List D) {vs : List V} {F : List Addr}, dataL ds = true → RL K W ds vs F → F = []
  | [], _, _, _, h => h.2
  | d :: ds, _, _, q, h => by
    obtain ⟨v, vs', F1, F2, h1, h2, h3, h4⟩ := h
    have q1 : (data d && dataL ds) = true := q
    obtain ⟨qa, qb⟩ := Bool.and_eq_true_iff.mp q1
    rw [h4, R_data d qa h2, RL_data ds qb h3]
    rfl
end
theorem dataL_all : ∀ (ds : List D), dataL ds = ds.all data
  | [] => rfl
  | d :: ds => by
    show (data d && dataL ds) = _
    rw [dataL_all ds, List.all_cons]
/-! ### lists of values -/
theorem RL_len : ∀ {ds : List D} {vs : List V} {F : List Addr}, RL K W ds vs F → vs.length = ds.length
  | [], _, _, h => by rw [h.1] <;> rfl
  | d :: ds, _, _, h => by
    obtain ⟨v, vs', F1, F2, h1, h2, h3, h4⟩ := h
    rw [h1, List.length_cons, List.length_cons, RL_len h3]
theorem RL_get : ∀ {ds : List D} {vs : List V} {F : List Addr} {i : Nat} {d : D}, RL K W ds vs F → ds[i]? = some d → ∃ v F1, vs[i]? = some v ∧ R K W d v F1 ∧ ∀ a ∈ F1, a ∈ F
  | [], _, _, i, d, _, h => by simp at h
  | d0 :: ds, _, _, 0, d, h, h1 => by
    obtain ⟨v, vs', F1, F2, e1, e2, e3, e4⟩ := h
    have e : d0 = d := Option.some.inj h1
    subst e
    exact ⟨v, F1, by rw [e1]; rfl, e2, fun a ha => by rw [e4]; exact List.mem_append_left _ ha⟩
  | d0 :: ds, _, _, i + 1, d, h, h1 => by
    obtain ⟨v, vs', F1, F2, e1, e2, e3, e4⟩ := h
    obtain ⟨u, F3, q1, q2, q3⟩ := RL_get (i := i) e3 (by simpa using h1)
    exact ⟨u, F3, by rw [e1]; simpa using q1, q2, fun a ha => by rw [e4]; exact List.mem_append_right _ (q3 a ha)⟩
theorem RL_app : ∀ {ds es : List D} {vs us : List V} {F G : List Addr}, RL K W ds vs F → RL K W es us G → RL K W (ds ++ es) (vs ++ us) (F ++ G)
  | [], es, _, us, _, G, h, g => by
    rw [h.1, h.2]
    exact g
  | d :: ds, es, _, us, _, G, h, g => by
    obtain ⟨v, vs', F1, F2, e1, e2, e3, e4⟩ := h
    refine ⟨v, vs' ++ us, F1, F2 ++ G, by rw [e1]; rfl, e2, RL_app e3 g, by rw [e4, List.append_assoc]⟩
theorem RL_take : ∀ {ds : List D} {vs : List V} {n : Nat}, RL K W ds vs [] → RL K W (ds.take n) (vs.take n) []
  | [], _, n, h => by
    rw [h.1, List.take_nil, List.take_nil]
    exact ⟨rfl, rfl⟩
  | d :: ds, _, 0, h => by
    rw [List.take_zero, List.take_zero]
    exact ⟨rfl, rfl⟩
  | d :: ds, _, n + 1, h => by
    obtain ⟨v, vs', F1, F2, e1, e2, e3, e4⟩ := h
    obtain ⟨rfl, rfl⟩ := List.append_eq_nil_iff.mp e4.symm
    rw [e1]
    exact ⟨v, vs'.take n, [], [], rfl, e2, RL_take e3, rfl⟩
theorem RL_drop : ∀ {ds : List D} {vs : List V} {n : Nat}, RL K W ds vs [] → RL K W (ds.drop n) (vs.drop n) []
  | [], _, n, h => by
    rw [h.1, List.drop_nil, List.drop_nil]
    exact ⟨rfl, rfl⟩
  | d :: ds, _, 0, h => by
    rw [List.drop_zero, List.drop_zero]
    exact h
  | d :: ds, _, n + 1, h => by
    obtain ⟨v, vs', F1, F2, e1, e2, e3, e4⟩ := h
    obtain ⟨rfl, rfl⟩ := List.append_eq_nil_iff.mp e4.symm
    rw [e1]
    show RL K W (ds.drop n) (vs'.drop n) []
    exact RL_drop (n := n) e3
end
/-! ### the world grows by one -/
section
variable {W : Wd} {p : Addr} {o : HO}
abbrev Wd.put (W : Wd) (p : Addr) (o : HO) : Wd := ⟨upd W.H p o, W.Fr, W.m⟩
abbrev Wd.frz (W : Wd) (p : Addr) (xs : List V) : Wd := ⟨upd W.H p (.lst xs), fun a => W.Fr a ∨ a = p, W.m⟩
theorem Ext.put (ok : WOk W) (hp : W.H p = none) : Ext W (W.put p o) :=
  ⟨Ex.new hp, fun _ h => h, fun _ h => .inl h, rfl, fun a h => by
    show upd W.H p o a ≠ none
    by_cases e : a = p
    · rw [e, upd_same]
      exact fun z => nomatch z
    · rw [upd_ne e]
      exact ok a h⟩
theorem Ext.frz {xs : List V} (ok : WOk W) (hp : W.H p = none) : Ext W (W.frz p xs) :=
  ⟨Ex.new hp, fun _ h => .inl h, fun a h => by
    rcases h with h | h
    · exact .inl h
    · exact .inr (by rw [h]; exact hp), rfl, fun a h => by
    show upd W.H p (.lst xs) a ≠ none
    rcases h with h | h
    · by_cases e : a = p
      · rw [e, upd_same]
        exact fun z => nomatch z
      · rw [upd_ne e]
        exact ok a h
    · rw [h, upd_same]
      exact fun z => nomatch z⟩
theorem R_newT {K : PySem.W.Frag} {ds : List D} {vs : List V} {F : List Addr} (ok : WOk W) (hp : W.H p = none) (h : RL K W ds vs F) : R K (W.put p (.tup vs)) (.tup ds) (.ref p) F :=
  ⟨p, vs, rfl, Evl.st_of upd_same, RL_ext (Ext.put ok hp) ds h⟩
theorem R_newL {K : PySem.W.Frag} {ds : List D} {vs : List V} (ok : WOk W) (hp : W.H p = none) (h : RL K W ds vs []) : R K (W.frz p vs) (.lst ds) (.ref p) [] :=
  ⟨p, vs, rfl, .inl ⟨.inl upd_same, .inr rfl⟩, RL_ext (Ext.frz ok hp) ds h, rfl⟩
end
/-! ### what stands still stays, whatever else is changed -/
structure Lt (W W' : Wd) : Prop where
  tup : ∀ a xs, Rd W.H a (.tup xs) → Rd W'.H a (.tup xs)
  fz : ∀ a xs, FzR W a xs → FzR W' a xs
  fi : ∀ a C dx fs, W.H a = some (.ins C dx fs) → W.Fr a → W'.H a = some (.ins C dx fs) ∧ W'.Fr a
  m : ∀ (k : Nat) (a : Addr), W.m[k]? = some a → W'.m[k]? = some a
theorem Lt.refl {W : Wd} : Lt W W := ⟨fun _ _ h => h, fun _ _ h => h, fun _ _ _ _ h h' => ⟨h, h'⟩, fun _ _ h => h⟩
theorem Lt.trans {A B C : Wd} (h : Lt A B) (g : Lt B C) : Lt A C := ⟨fun a xs q => g.tup a xs (h.tup a xs q), fun a xs q => g.fz a xs (h.fz a xs q), fun a C dx fs q q' => g.fi a C dx fs (h.fi a C dx fs q q').1 (h.fi a C dx fs q q').2, fun k a q => g.m k a (h.m k a q)⟩
theorem Ext.lt {W W' : Wd} (e : Ext W W') : Lt W W' := ⟨fun _ _ h => Evl.ex_rd e.ex h, fun _ _ h => h.ext e, fun _ _ _ _ h h' => ⟨e.ex _ _ h, e.fr _ h'⟩, fun _ _ h => by rw [e.m]; exact h⟩
theorem FzL.lt {K : PySem.W.Frag} {W W' : Wd} {a : Addr} {xs : List V} (e : Lt W W') (h : FzL K W a xs) : FzL K W' a xs := h.imp (fun z => e.fz _ _ z) id
theorem Lt.sqT {K : PySem.W.Frag} {W W' : Wd} {a : Addr} {xs : List V} (e : Lt W W') (h : SqT K W.H a xs) : SqT K W'.H a xs := by
  rcases h with h | h
  · exact .inl (e.tup a xs h)
  · exact .inr h
section
variable {K : PySem.W.Frag} {W W' : Wd}
mutual
theorem R_lt (e : Lt W W') : ∀ (d : D) {v : V}, R K W d v [] → R K W' d v []
  | .non, _, h => h
  | .bl _, _, h => h
  | .int _, _, h => h
  | .str _, _, h => h
  | .tup ds, _, h => by
    obtain ⟨a, vs, h1, h2, h3⟩ := h
    exact ⟨a, vs, h1, e.sqT h2, RL_lt e ds h3⟩
  | .lst ds, _, h => by
    obtain ⟨a, vs, h1, h2, h3, h4⟩ := h
    exact ⟨a, vs, h1, h2.lt e, RL_lt e ds h3, h4⟩
  | .ml ds, _, h => by
    obtain ⟨a, vs, F', h1, h2, h3, h4⟩ := h
    cases h4
  | .obj c ns ds, _, h => by
    obtain ⟨a, dx, vs, F', h1, h2, h3, h4, h5⟩ := h
    cases h5
  | .fo c ns ds, _, h => by
    obtain ⟨a, dx, vs, h1, h2, h3, h4, h5, h6⟩ := h
    obtain ⟨q1, q2⟩ := e.fi _ _ _ _ h2 h3
    exact ⟨a, dx, vs, h1, q1, q2, h4, RL_lt e ds h5, h6⟩
  | .ref k, _, h => by
    obtain ⟨a, h1, h2, h3⟩ := h
    exact ⟨a, h1, e.m _ _ h2, h3⟩
  | .un, _, h => h.elim
theorem RL_lt (e : Lt W W') : ∀ (ds : List D) {vs : List V}, RL K W ds vs [] → RL K W' ds vs []
  | [], _, h => h
  | d :: ds, _, h => by
    obtain ⟨v, vs', F1, F2, h1, h2, h3, h4⟩ := h
    obtain ⟨rfl, rfl⟩ := List.append_eq_nil_iff.mp h4.symm
    exact ⟨v, vs', [], [], h1, R_lt e d h2, RL_lt e ds h3, rfl⟩
end
/-! ### a slot is set -/
theorem RS_len : ∀ {ρ : List D} {σ : List (Option V)} {F : List Addr}, RS K W ρ σ F → σ.length = ρ.length
  | [], _, _, h => by rw [h.1] <;> rfl
  | d :: ρ, _, _, h => by
    obtain ⟨o, σ', F1, F2, e1, e2, e3, e4⟩ := h
    rw [e1, List.length_cons, List.length_cons, RS_len e3]
theorem RS_set {d' : D} {o' : Option V} {G : List Addr} (g : R1 K W d' o' G) : ∀ {ρ : List D} {σ : List (Option V)} {F : List Addr} {i : Nat}, RS K W ρ σ F → i < ρ.length → ∃ A B C, F = A ++ (B ++ C) ∧ RS K W (ρ.set i d') (σ.set i o') (A ++ (G ++ C))
  | [], _, _, i, _, h => by cases h
  | d :: ρ, _, _, 0, h, _ => by
    obtain ⟨o, σ', F1, F2, e1, e2, e3, e4⟩ := h
    exact ⟨[], F1, F2, e4, by rw [e1]; exact ⟨o', σ', G, F2, rfl, g, e3, rfl⟩⟩
  | d :: ρ, _, _, i + 1, h, hl => by
    obtain ⟨o, σ', F1, F2, e1, e2, e3, e4⟩ := h
    obtain ⟨A, B, C, q1, q2⟩ := RS_set g (i := i) e3 (Nat.lt_of_succ_lt_succ hl)
    refine ⟨F1 ++ A, B, C, by rw [e4, q1, List.append_assoc], ?_⟩
    rw [e1]
    exact ⟨o, σ'.set i o', F1, A ++ (G ++ C), rfl, e2, q2, by rw [List.append_assoc]⟩
end
/-- a slot gets what has no place of its own -/
theorem Sta.set {K : PySem.W.Frag} {W : Wd} {σ : L2.St} {ρ μ : List D} {F : List Addr} {i : Nat} {d : D} {o : Option V} (S : Sta K W σ ρ μ F) (g : R1 K W d o []) : ∃ F', Sta K W (σ.set i o) (ρ.set i d) μ F' ∧ ∀ a ∈ F', a ∈ F := by
  obtain ⟨⟨F1, F2, h1, h2, h3⟩, nd, own, ok⟩ := S
  have hl := RS_len h1
  by_cases hi : i < ρ.length
  · obtain ⟨A, B, C, q1, q2⟩ := RS_set g h1 hi
    have e1 : F = A ++ (B ++ C) ++ F2 := by rw [h3, q1]
    have sub : (A ++ ([] ++ C) ++ F2).Sublist F := by
      rw [e1]
      exact List.Sublist.append (List.Sublist.append (List.Sublist.refl A) (List.Sublist.append (List.nil_sublist B) (List.Sublist.refl C))) (List.Sublist.refl F2)
    exact ⟨A ++ ([] ++ C) ++ F2, ⟨⟨_, F2, q2, h2, rfl⟩, nd.sublist sub, fun a ha => own a (sub.subset ha), ok⟩, fun a ha => sub.subset ha⟩
  · rw [List.set_eq_of_length_le (by omega), List.set_eq_of_length_le (by omega)]
    exact ⟨F, ⟨⟨F1, F2, h1, h2, h3⟩, nd, own, ok⟩, fun a ha => ha⟩
/-! ### data do not ask who is shared -/
section
variable {K : PySem.W.Frag} {W : Wd}
mutual
theorem R_m {m : List Addr} : ∀ (d : D) {v : V} {F : List Addr}, data d = true → R K W d v F → R K ⟨W.H, W.Fr, m⟩ d v F
  | .non, _, _, _, h => h
  | .bl _, _, _, _, h => h
  | .int _, _, _, _, h => h
  | .str _, _, _, _, h => h
  | .tup ds, _, _, q, h => by
    obtain ⟨a, vs, h1, h2, h3⟩ := h
    exact ⟨a, vs, h1, h2, RL_m ds q h3⟩
  | .lst ds, _, _, q, h => by
    obtain ⟨a, vs, h1, h2, h3, h4⟩ := h
    exact ⟨a, vs, h1, h2, RL_m ds q h3, h4⟩
  | .ml ds, _, _, q, h => by cases q
  | .obj c ns ds, _, _, q, h => by cases q
  | .fo c ns ds, _, _, q, h => by cases q
  | .ref k, _, _, q, h => by cases q
  | .un, _, _, q, h => by cases q
theorem RL_m {m : List Addr} : ∀ (ds : List D) {vs : List V} {F : List Addr}, dataL ds = true → RL K W ds vs F → RL K ⟨W.H, W.Fr, m⟩ ds vs F
  | [], _, _, _, h => h
  | d :: ds, _, _, q, h => by
    obtain ⟨v, vs', F1, F2, h1, h2, h3, h4⟩ := h
    obtain ⟨qa, qb⟩ := Bool.and_eq_true_iff.mp (show (data d && dataL ds) = true from q)
    exact ⟨v, vs', F1, F2, h1, R_m d qa h2, RL_m ds qb h3, h4⟩
end
end
/-! ### the world moves at F; F' is one's own behind -/
structure Mv (W W' : Wd) (F F' : List Addr) : Prop where
  keep : ∀ a o, W.H a = some o → a ∉ F → W'.H a = some o
  fr : ∀ a, W.Fr a → W'.Fr a
  nf : ∀ a, W'.Fr a → W.Fr a ∨ W.H a = none ∨ a ∈ F
  own : ∀ a ∈ F', a ∈ F ∨ W.H a = none
  m : ∃ l, W'.m = W.m ++ l
theorem Ext.mv {W W' : Wd} {F F' : List Addr} (e : Ext W W') (h : ∀ a ∈ F', a ∈ F) : Mv W W' F F' :=
  ⟨fun a o h _ => e.ex a o h, e.fr, fun a h => (e.nf a h).elim .inl fun z => .inr (.inl z), fun a ha => .inl (h a ha), ⟨[], by rw [e.m, List.append_nil]⟩⟩
theorem Mv.trans {A B C : Wd} {F G I : List Addr} (h : Mv A B F G) (g : Mv B C G I) : Mv A C F I := by
  have back : ∀ a, B.H a = none → A.H a = none ∨ a ∈ F := fun a q => by
    cases e : A.H a with
    | none => exact .inl rfl
    | some o =>
      by_cases hf : a ∈ F
      · exact .inr hf
      · rw [h.keep a o e hf] at q
        cases q
  refine ⟨fun a o e hf => ?_, fun a q => g.fr a (h.fr a q), fun a q => ?_, fun a ha => ?_, ?_⟩
  · refine g.keep a o (h.keep a o e hf) fun z => ?_
    rcases h.own a z with z | z
    · exact hf z
    · rw [e] at z
      cases z
  · rcases g.nf a q with q | q | q
    · exact h.nf a q
    · rcases back a q with q | q
      · exact .inr (.inl q)
      · exact .inr (.inr q)
    · rcases h.own a q with q | q
      · exact .inr (.inr q)
      · exact .inr (.inl q)
  · rcases g.own a ha with q | q
    · exact h.own a q
    · rcases back a q with q | q
      · exact .inr q
      · exact .inl q
  · obtain ⟨l, h⟩ := h.m
    obtain ⟨l', g⟩ := g.m
    exact ⟨l ++ l', by rw [g, h, List.append_assoc]⟩
theorem Mv.lt {W W' : Wd} {F F' : List Addr} (h : Mv W W' F F') (own : ∀ a ∈ F, Own W a) : Lt W W' := by
  have out : ∀ a o, W.H a = some o → (∀ xs, o ≠ .lst xs) → (∀ C dx fs, o ≠ .ins C dx fs) → a ∉ F := fun a o e n1 n2 z => by
    obtain ⟨_, q⟩ := own a z
    rcases q with ⟨xs, q⟩ | ⟨C, dx, fs, q⟩
    · rw [e] at q
      exact n1 xs (Option.some.inj q)
    · rw [e] at q
      exact n2 C dx fs (Option.some.inj q)
  refine ⟨fun a xs r => ?_, fun a xs r => ⟨?_, h.fr a r.2⟩, fun a C dx fs r r' => ⟨h.keep a _ r fun z => (own a z).1 r', h.fr a r'⟩, fun k a e => ?_⟩
  · rcases r with r | ⟨o, r⟩
    · exact .inl (h.keep a _ r (out a _ r (fun _ q => nomatch q) fun _ _ _ q => nomatch q))
    · exact .inr ⟨o, h.keep a _ r (out a _ r (fun _ q => nomatch q) fun _ _ _ q => nomatch q)⟩
  · have nf : a ∉ F := fun z => (own a z).1 r.2
    rcases r.1 with r | ⟨o, r⟩
    · exact .inl (h.keep a _ r nf)
    · exact .inr ⟨o, h.keep a _ r nf⟩
  · obtain ⟨l, q⟩ := h.m
    rw [q, List.getElem?_append_left (List.getElem?_eq_some_iff.mp e).1]
    exact e
/-! ### the same heap, more that stands still -/
section
variable {K : PySem.W.Frag} {W W' : Wd}
mutual
theorem R_same (e : Lt W W') (hH : W'.H = W.H) : ∀ (d : D) {v : V} {F : List Addr}, R K W d v F → R K W' d v F
  | .non, _, _, h => h
  | .bl _, _, _, h => h
  | .int _, _, _, h => h
  | .str _, _, _, h => h
  | .tup ds, _, _, h => by
    obtain ⟨a, vs, h1, h2, h3⟩ := h
    exact ⟨a, vs, h1, e.sqT h2, RL_same e hH ds h3⟩
  | .lst ds, _, _, h => by
    obtain ⟨a, vs, h1, h2, h3, h4⟩ := h
    exact ⟨a, vs, h1, h2.lt e, RL_same e hH ds h3, h4⟩
  | .ml ds, _, _, h => by
    obtain ⟨a, vs, F', h1, h2, h3, h4⟩ := h
    exact ⟨a, vs, F', h1, by rw [hH]; exact h2, RL_same e hH ds h3, h4⟩
  | .obj c ns ds, _, _, h => by
    obtain ⟨a, dx, vs, F', h1, h2, h3, h4, h5⟩ := h
    exact ⟨a, dx, vs, F', h1, by rw [hH]; exact h2, h3, RL_same e hH ds h4, h5⟩
  | .fo c ns ds, _, _, h => by
    obtain ⟨a, dx, vs, h1, h2, h3, h4, h5, h6⟩ := h
    obtain ⟨q1, q2⟩ := e.fi _ _ _ _ h2 h3
    exact ⟨a, dx, vs, h1, q1, q2, h4, RL_same e hH ds h5, h6⟩
  | .ref k, _, _, h => by
    obtain ⟨a, h1, h2, h3⟩ := h
    exact ⟨a, h1, e.m _ _ h2, h3⟩
  | .un, _, _, h => h.elim
theorem RL_same (e : Lt W W') (hH : W'.H = W.H) : ∀ (ds : List D) {vs : List V} {F : List Addr}, RL K W ds vs F → RL K W' ds vs F
  | [], _, _, h => h
  | d :: ds, _, _, h => by
    obtain ⟨v, vs', F1, F2, h1, h2, h3, h4⟩ := h
    exact ⟨v, vs', F1, F2, h1, R_same e hH d h2, RL_same e hH ds h3, h4⟩
end
theorem RS_same (e : Lt W W') (hH : W'.H = W.H) : ∀ {ds : List D} {σ : List (Option V)} {F : List Addr}, RS K W ds σ F → RS K W' ds σ F
  | [], _, _, h => h
  | d :: ds, _, _, h => by
    obtain ⟨o, σ', F1, F2, h1, h2, h3, h4⟩ := h
    refine ⟨o, σ', F1, F2, h1, ?_, RS_same e hH h3, h4⟩
    rw [R1_iff] at h2 ⊢
    rcases h2 with h2 | ⟨v, q1, q2⟩
    · exact .inl h2
    · exact .inr ⟨v, q1, R_same e hH d q2⟩
end
end Fw
/-! # quiet expressions: what they evaluate to, nothing else changed -/
namespace Fw
open PySem PySem.Spec PyProof.Rows L2
open Evl (Ex)

abbrev FQ := List D → List D → Option D
abbrev FB := List D → List D → Option Bool
abbrev FA := List D → List D → Option (List D)

/-- e is quiet: where f tells d, it evaluates to d; the world may only grow -/
def PQ (X : Cx) (e : Expr) (f : FQ) : Prop := ∃ te : TE, PE X e te ∧ ∀ (σ : L2.St) (W : Wd) (ρ μ : List D) (F : List Addr), Sta X.K W σ ρ μ F → ∀ d, f ρ μ = some d →
  ∀ Q : VK, (∀ v W' G, Ext W W' → R X.K W' d v G → Q v W'.H) → te σ W.H Q
def PB (X : Cx) (e : Expr) (f : FB) : Prop := ∃ tt : TT, PT X e tt ∧ ∀ (σ : L2.St) (W : Wd) (ρ μ : List D) (F : List Addr), Sta X.K W σ ρ μ F → ∀ b, f ρ μ = some b →
  ∀ Q : Bool → Hp → Prop, (∀ W', Ext W W' → Q b W'.H) → tt σ W.H Q
def PWB (X : Cx) (e : Expr) (f : FB) : Prop := ∃ tt : TT, PW X e tt ∧ ∀ (σ : L2.St) (W : Wd) (ρ μ : List D) (F : List Addr), Sta X.K W σ ρ μ F → ∀ b, f ρ μ = some b →
  ∀ Q : Bool → Hp → Prop, (∀ W', Ext W W' → Q b W'.H) → tt σ W.H Q
def PAQ (X : Cx) (es : List Expr) (f : FA) : Prop := ∃ ta : TA, PA X es ta ∧ ∀ (σ : L2.St) (W : Wd) (ρ μ : List D) (F : List Addr), Sta X.K W σ ρ μ F → ∀ ds, f ρ μ = some ds →
  ∀ Q : List V → Hp → Prop, (∀ vs W' G, Ext W W' → RL X.K W' ds vs G → Q vs W'.H) → ta σ W.H Q
/-- a new list at p, its items data; nobody else knows it -/
structure NewL (K : PySem.W.Frag) (W W' : Wd) (ds : List D) (p : Addr) : Prop where
  ext : Ext W W'
  new : W.H p = none
  nofr : ¬ W'.Fr p
  at_ : ∃ vs, W'.H p = some (.lst vs) ∧ RL K W' ds vs []
def PN (X : Cx) (e : Expr) (f : FA) : Prop := ∃ te : TE, PE X e te ∧ ∀ (σ : L2.St) (W : Wd) (ρ μ : List D) (F : List Addr), Sta X.K W σ ρ μ F → ∀ ds, f ρ μ = some ds →
  ∀ Q : VK, (∀ p W', NewL X.K W W' ds p → Q (.ref p) W'.H) → te σ W.H Q

section
variable {X : Cx} {e a b c : Expr} {es : List Expr} {f g h : FQ} {pos : Pos}
/-! ### names, constants -/
def qVar (i : Nat) : FQ := fun ρ _ => match ρ[i]? with
  | some .un => none
  | o => o
theorem pq_var (i : Nat) {x : Str} (hp : PE X (.Name x pos) (tVar i)) : PQ X (.Name x pos) (qVar i) := by
  refine ⟨_, hp, fun σ W ρ μ F S d hd Q q => ?_⟩
  obtain ⟨F1, F2, h1, h2, h3⟩ := S.ex
  have hr : ρ[i]? = some d ∧ d ≠ .un := by
    unfold qVar at hd
    cases e : ρ[i]? with
    | none => rw [e] at hd; cases hd
    | some d0 =>
      rw [e] at hd
      cases d0 <;> first
        | (cases hd; done)
        | (have z := Option.some.inj hd; subst z; exact ⟨rfl, fun z => nomatch z⟩)
  obtain ⟨v, G, s1, s2⟩ := RS_get h1 hr.1 hr.2
  exact ⟨v, s1, q v W G (Ext.refl S.ok) s2⟩
def qC (d : D) : FQ := fun _ _ => some d
theorem pq_int {i : Int} {j} : PQ X (.Constant (.int i) j pos) (qC (.int i)) :=
  ⟨_, pe_int, fun σ W ρ μ F S d hd Q q => q _ W [] (Ext.refl S.ok) (by cases hd; exact ⟨rfl, rfl⟩)⟩
theorem pq_bl {i : Bool} {j} : PQ X (.Constant (.bool i) j pos) (qC (.bl i)) :=
  ⟨_, pe_bl, fun σ W ρ μ F S d hd Q q => q _ W [] (Ext.refl S.ok) (by cases hd; exact ⟨rfl, rfl⟩)⟩
theorem pq_non {j} : PQ X (.Constant .none j pos) (qC .non) :=
  ⟨_, pe_non, fun σ W ρ μ F S d hd Q q => q _ W [] (Ext.refl S.ok) (by cases hd; exact ⟨rfl, rfl⟩)⟩
theorem pq_str (x : String) {j} : PQ X (.Constant (.str (Str.ofString x)) j pos) (qC (.str (ofS x))) :=
  ⟨_, pe_str, fun σ W ρ μ F S d hd Q q => q _ W [] (Ext.refl S.ok) (by cases hd; exact ⟨congrArg V.str (tr_ofS x), rfl⟩)⟩
/-- a name of the module: d stands there at every heap -/
def GlD (K : PySem.W.Frag) (mg : Str → Option Value) (x : Str) (d : D) : Prop := ∃ v u, mg x = some u ∧ RelV v u ∧ ∀ W : Wd, R K W d v []
theorem pq_glob {x : Str} {d : D} (G : GlD X.K X.mg x d) (hg : Gl X x := by rfl) (hd : (x == ("__debug__" : Str)) = false := by decide) : PQ X (.Name x pos) (qC d) := by
  obtain ⟨v, u, h1, h2, h3⟩ := G
  exact ⟨_, pe_glob hg h1 h2 hd, fun σ W ρ μ F S d' hd' Q q => q v W [] (Ext.refl S.ok) (by cases hd'; exact h3 W)⟩

/-! ### operators -/
def q2 (o : D → D → Option D) (f g : FQ) : FQ := fun ρ μ => (f ρ μ).bind fun x => (g ρ μ).bind fun y => o x y
def q1 (o : D → Option D) (f : FQ) : FQ := fun ρ μ => (f ρ μ).bind o
theorem bind_some {α β : Type} {o : Option α} {k : α → Option β} {z : β} (h : o.bind k = some z) : ∃ x, o = some x ∧ k x = some z := by
  cases o with
  | none => cases h
  | some x => exact ⟨x, rfl, h⟩
/-- an operator on trees -/
def OpD (X : Cx) (op : Value → Value → Sem Value) (o : D → D → Option D) : Prop := ∃ r : R2, OpR X op r ∧ ∀ (W : Wd) (x y : D) (u v : V) (G1 G2 : List Addr), WOk W → R X.K W x u G1 → R X.K W y v G2 → ∀ d, o x y = some d →
  ∀ Q : VK, (∀ v W' G, Ext W W' → R X.K W' d v G → Q v W'.H) → r u v W.H Q
theorem run2 {ta tb : TE} {r : R2} {o : D → D → Option D}
    (h1 : ∀ (σ : L2.St) (W : Wd) (ρ μ : List D) (F : List Addr), Sta X.K W σ ρ μ F → ∀ d, f ρ μ = some d → ∀ Q : VK, (∀ v W' G, Ext W W' → R X.K W' d v G → Q v W'.H) → ta σ W.H Q)
    (h2 : ∀ (σ : L2.St) (W : Wd) (ρ μ : List D) (F : List Addr), Sta X.K W σ ρ μ F → ∀ d, g ρ μ = some d → ∀ Q : VK, (∀ v W' G, Ext W W' → R X.K W' d v G → Q v W'.H) → tb σ W.H Q)
    (h3 : ∀ (W : Wd) (x y : D) (u v : V) (G1 G2 : List Addr), WOk W → R X.K W x u G1 → R X.K W y v G2 → ∀ d, o x y = some d → ∀ Q : VK, (∀ v W' G, Ext W W' → R X.K W' d v G → Q v W'.H) → r u v W.H Q)
    (σ : L2.St) (W : Wd) (ρ μ : List D) (F : List Addr) (S : Sta X.K W σ ρ μ F) (d : D) (hd : q2 o f g ρ μ = some d) (Q : VK) (q : ∀ v W' G, Ext W W' → R X.K W' d v G → Q v W'.H) : tOp r ta tb σ W.H Q := by
  obtain ⟨x, e1, hd⟩ := bind_some hd
  obtain ⟨y, e2, hd⟩ := bind_some hd
  refine h1 σ W ρ μ F S x e1 _ fun u W1 G1 x1 r1 => ?_
  refine h2 σ W1 ρ μ F (S.ext x1) y e2 _ fun v W2 G2 x2 r2 => ?_
  exact h3 W2 x y u v G1 G2 x2.ok (R_ext x2 x r1) r2 d hd _ fun z W3 G3 x3 r3 => q z W3 G3 ((x1.trans x2).trans x3) r3
theorem pq_op {op : Operator} {o : D → D → Option D} (h : OpD X (binaryOp op) o) (ha : PQ X a f) (hb : PQ X b g) : PQ X (.BinOp a op b pos) (q2 o f g) := by
  obtain ⟨r, hr, h3⟩ := h
  obtain ⟨ta, pa, h1⟩ := ha
  obtain ⟨tb, pb, h2⟩ := hb
  exact ⟨_, pe_op hr pa pb, run2 h1 h2 h3⟩
theorem pq_cmp {op : CmpOp} {o : D → D → Option D} (h : OpD X (compareOp op) o) (ha : PQ X a f) (hb : PQ X b g) (hm : behindInMarks op b = false) : PQ X (.Compare a [op] [b] pos) (q2 o f g) := by
  obtain ⟨r, hr, h3⟩ := h
  obtain ⟨ta, pa, h1⟩ := ha
  obtain ⟨tb, pb, h2⟩ := hb
  exact ⟨_, pe_cmpR hr pa pb hm, run2 h1 h2 h3⟩
/-- a truth out of a value -/
def qB (f : FQ) : FB := fun ρ μ => match f ρ μ with
  | some (.bl b) => some b
  | _ => none
theorem qB_some {f : FQ} {ρ μ : List D} {b : Bool} (h : qB f ρ μ = some b) : f ρ μ = some (.bl b) := by
  unfold qB at h
  cases e : f ρ μ with
  | none => rw [e] at h; cases h
  | some d =>
    rw [e] at h
    cases d <;> first
      | (cases h; done)
      | (have z := Option.some.inj h; subst z; rfl)
theorem pb_val (ha : PQ X a f) (he : ∀ whole, isTrue a X.env whole = (do let v ← whole; standAt a.pos; holding [v] (truthy v)) := by intro _; rfl) : PB X a (qB f) := by
  obtain ⟨ta, pa, h1⟩ := ha
  refine ⟨_, pt_val pa he, fun σ W ρ μ F S b hb Q q => ?_⟩
  refine h1 σ W ρ μ F S _ (qB_some hb) _ fun u W1 G1 x1 r1 => ?_
  exact ⟨b, r1.1, q W1 x1⟩
theorem pb_cmp {op : CmpOp} {o : D → D → Option D} (h : OpD X (compareOp op) o) (ha : PQ X a f) (hb : PQ X b g) (hm : behindInMarks op b = false) : PB X (.Compare a [op] [b] pos) (qB (q2 o f g)) := by
  obtain ⟨r, hr, h3⟩ := h
  obtain ⟨ta, pa, h1⟩ := ha
  obtain ⟨tb, pb, h2⟩ := hb
  refine ⟨_, pt_cmpR hr pa pb hm, fun σ W ρ μ F S b hb Q q => ?_⟩
  refine run2 h1 h2 h3 σ W ρ μ F S _ (qB_some hb) _ fun u W1 G1 x1 r1 => ?_
  exact ⟨b, r1.1, q W1 x1⟩
/-! ### two comparisons in a chain -/
def q3 (o o' : D → D → Option D) (f g h : FQ) : FQ := fun ρ μ => (f ρ μ).bind fun x => (g ρ μ).bind fun y => match o x y with
  | some (.bl true) => (h ρ μ).bind fun z => o' y z
  | some (.bl false) => some (.bl false)
  | _ => none
theorem run3 {op op' : CmpOp} {o o' : D → D → Option D} (H1 : OpD X (compareOp op) o) (H2 : OpD X (compareOp op') o') (ha : PQ X a f) (hb : PQ X b g) (hc : PQ X c h) :
    ∃ r r' ta tb tc, OpR X (compareOp op) r ∧ OpR X (compareOp op') r' ∧ PE X a ta ∧ PE X b tb ∧ PE X c tc ∧
      ∀ (σ : L2.St) (W : Wd) (ρ μ : List D) (F : List Addr), Sta X.K W σ ρ μ F → ∀ d, q3 o o' f g h ρ μ = some d → ∀ Q : VK, (∀ v W' G, Ext W W' → R X.K W' d v G → Q v W'.H) → tChain r r' ta tb tc σ W.H Q := by
  obtain ⟨r, hr, h3⟩ := H1
  obtain ⟨r', hr', h4⟩ := H2
  obtain ⟨ta, pa, h1⟩ := ha
  obtain ⟨tb, pb, h2⟩ := hb
  obtain ⟨tc, pc, h5⟩ := hc
  refine ⟨r, r', ta, tb, tc, hr, hr', pa, pb, pc, fun σ W ρ μ F S d hd Q q => ?_⟩
  obtain ⟨x, e1, hd⟩ := bind_some hd
  obtain ⟨y, e2, hd⟩ := bind_some hd
  refine h1 σ W ρ μ F S x e1 _ fun u W1 G1 x1 r1 => ?_
  refine h2 σ W1 ρ μ F (S.ext x1) y e2 _ fun v W2 G2 x2 r2 => ?_
  cases e3 : o x y with
  | none => rw [e3] at hd; cases hd
  | some k =>
    rw [e3] at hd
    refine h3 W2 x y u v G1 G2 x2.ok (R_ext x2 x r1) r2 k e3 _ fun z W3 G3 x3 r3 => ?_
    cases k with
    | bl t =>
      refine ⟨t, r3.1, ?_⟩
      cases t with
      | true =>
        rw [if_pos rfl]
        obtain ⟨w, e4, hd⟩ := bind_some hd
        refine h5 σ W3 ρ μ F (((S.ext x1).ext x2).ext x3) w e4 _ fun t' W4 G4 x4 r4 => ?_
        exact h4 W4 y w v t' G2 G4 x4.ok (R_ext (x3.trans x4) y r2) r4 d hd _ fun z' W5 G5 x5 r5 => q z' W5 G5 ((((x1.trans x2).trans x3).trans x4).trans x5) r5
      | false =>
        rw [if_neg Bool.false_ne_true]
        cases hd
        exact q _ W3 [] ((x1.trans x2).trans x3) ⟨rfl, rfl⟩
    | _ => cases hd
end
end Fw
/-! # more quiet expressions -/
namespace Fw
open PySem PySem.Spec PyProof.Rows L2
open Evl (Ex)
section
variable {X : Cx} {e a b c : Expr} {es : List Expr} {f g h : FQ} {t u : FB} {pos : Pos}
theorem pq_chain {op op' : CmpOp} {o o' : D → D → Option D} (H1 : OpD X (compareOp op) o) (H2 : OpD X (compareOp op') o') (ha : PQ X a f) (hb : PQ X b g) (hc : PQ X c h)
    (hm : lastMarks [op, op'] [b, c] = false := by with_unfolding_all rfl) : PQ X (.Compare a [op, op'] [b, c] pos) (q3 o o' f g h) := by
  obtain ⟨r, r', ta, tb, tc, hr, hr', pa, pb, pc, k⟩ := run3 H1 H2 ha hb hc
  exact ⟨_, pe_chain hr hr' pa pb pc hm, k⟩
theorem pb_chain {op op' : CmpOp} {o o' : D → D → Option D} (H1 : OpD X (compareOp op) o) (H2 : OpD X (compareOp op') o') (ha : PQ X a f) (hb : PQ X b g) (hc : PQ X c h)
    (hm : lastMarks [op, op'] [b, c] = false := by with_unfolding_all rfl) : PB X (.Compare a [op, op'] [b, c] pos) (qB (q3 o o' f g h)) := by
  obtain ⟨r, r', ta, tb, tc, hr, hr', pa, pb, pc, k⟩ := run3 H1 H2 ha hb hc
  refine ⟨_, pt_chain hr hr' pa pb pc hm, fun σ W ρ μ F S b hb Q q => ?_⟩
  exact k σ W ρ μ F S _ (qB_some hb) _ fun u W1 G1 x1 r1 => ⟨b, r1.1, q W1 x1⟩
/-! ### and, or, not -/
def bAnd (t u : FB) : FB := fun ρ μ => (t ρ μ).bind fun x => if x = true then u ρ μ else some false
def bOr (t u : FB) : FB := fun ρ μ => (t ρ μ).bind fun x => if x = true then some true else u ρ μ
def bNot (t : FB) : FB := fun ρ μ => (t ρ μ).map not
theorem PWB.pb (h : PWB X e t) : PB X e t := by
  obtain ⟨tt, p, k⟩ := h
  exact ⟨tt, p.pt, k⟩
theorem pw1_and (h : PB X a t) : PWB X (.BoolOp .And [a] pos) t := by
  obtain ⟨tt, p, k⟩ := h
  exact ⟨tt, pw_and1 p, k⟩
theorem pw1_or (h : PB X a t) : PWB X (.BoolOp .Or [a] pos) t := by
  obtain ⟨tt, p, k⟩ := h
  exact ⟨tt, pw_or1 p, k⟩
theorem pwb_and (ha : PB X a t) (hb : PWB X (.BoolOp .And (b :: es) pos) u) : PWB X (.BoolOp .And (a :: b :: es) pos) (bAnd t u) := by
  obtain ⟨t1, p1, k1⟩ := ha
  obtain ⟨t2, p2, k2⟩ := hb
  refine ⟨_, pw_and p1 p2, fun σ W ρ μ F S b hb Q q => ?_⟩
  obtain ⟨x, e1, hb⟩ := bind_some hb
  refine k1 σ W ρ μ F S x e1 _ fun W1 x1 => ?_
  cases x with
  | true =>
    rw [if_pos rfl] at hb ⊢
    exact k2 σ W1 ρ μ F (S.ext x1) b hb Q fun W2 x2 => q W2 (x1.trans x2)
  | false =>
    rw [if_neg Bool.false_ne_true] at hb ⊢
    cases hb
    exact q W1 x1
theorem pwb_or (ha : PB X a t) (hb : PWB X (.BoolOp .Or (b :: es) pos) u) : PWB X (.BoolOp .Or (a :: b :: es) pos) (bOr t u) := by
  obtain ⟨t1, p1, k1⟩ := ha
  obtain ⟨t2, p2, k2⟩ := hb
  refine ⟨_, pw_or p1 p2, fun σ W ρ μ F S b hb Q q => ?_⟩
  obtain ⟨x, e1, hb⟩ := bind_some hb
  refine k1 σ W ρ μ F S x e1 _ fun W1 x1 => ?_
  cases x with
  | true =>
    rw [if_pos rfl] at hb ⊢
    cases hb
    exact q W1 x1
  | false =>
    rw [if_neg Bool.false_ne_true] at hb ⊢
    exact k2 σ W1 ρ μ F (S.ext x1) b hb Q fun W2 x2 => q W2 (x1.trans x2)
theorem pb_not (ha : PB X a t) : PB X (.UnaryOp .Not a pos) (bNot t) := by
  obtain ⟨t1, p1, k1⟩ := ha
  refine ⟨_, pt_not p1, fun σ W ρ μ F S b hb Q q => ?_⟩
  unfold bNot at hb
  cases e : t ρ μ with
  | none => rw [e] at hb; cases hb
  | some x =>
    rw [e] at hb
    have z : (!x) = b := Option.some.inj hb
    subst z
    exact k1 σ W ρ μ F S x e _ fun W1 x1 => q W1 x1
/-- as values: the operands before the last are truths -/
def qAnd (f g : FQ) : FQ := fun ρ μ => match f ρ μ with
  | some (.bl true) => g ρ μ
  | some (.bl false) => some (.bl false)
  | _ => none
def qOr (f g : FQ) : FQ := fun ρ μ => match f ρ μ with
  | some (.bl false) => g ρ μ
  | some (.bl true) => some (.bl true)
  | _ => none
def qNot (f : FQ) : FQ := fun ρ μ => match f ρ μ with
  | some (.bl b) => some (.bl (!b))
  | _ => none
theorem pq_one {op} (h : PQ X a f) : PQ X (.BoolOp op [a] pos) f := by
  obtain ⟨t, p, k⟩ := h
  exact ⟨t, pe_one p, k⟩
theorem pq_and (ha : PQ X a f) (hb : PQ X (.BoolOp .And (b :: es) pos) g) : PQ X (.BoolOp .And (a :: b :: es) pos) (qAnd f g) := by
  obtain ⟨t1, p1, k1⟩ := ha
  obtain ⟨t2, p2, k2⟩ := hb
  refine ⟨_, pe_and p1 p2, fun σ W ρ μ F S d hd Q q => ?_⟩
  unfold qAnd at hd
  cases e : f ρ μ with
  | none => rw [e] at hd; cases hd
  | some x =>
    rw [e] at hd
    refine k1 σ W ρ μ F S x e _ fun v W1 G1 x1 r1 => ?_
    cases x with
    | bl c =>
      refine ⟨c, r1.1, ?_⟩
      cases c with
      | true =>
        rw [if_pos rfl]
        exact k2 σ W1 ρ μ F (S.ext x1) d hd Q fun v W2 G x2 r2 => q v W2 G (x1.trans x2) r2
      | false =>
        rw [if_neg Bool.false_ne_true]
        cases hd
        exact q _ W1 [] x1 ⟨rfl, rfl⟩
    | _ => cases hd
theorem pq_or (ha : PQ X a f) (hb : PQ X (.BoolOp .Or (b :: es) pos) g) : PQ X (.BoolOp .Or (a :: b :: es) pos) (qOr f g) := by
  obtain ⟨t1, p1, k1⟩ := ha
  obtain ⟨t2, p2, k2⟩ := hb
  refine ⟨_, pe_or p1 p2, fun σ W ρ μ F S d hd Q q => ?_⟩
  unfold qOr at hd
  cases e : f ρ μ with
  | none => rw [e] at hd; cases hd
  | some x =>
    rw [e] at hd
    refine k1 σ W ρ μ F S x e _ fun v W1 G1 x1 r1 => ?_
    cases x with
    | bl c =>
      refine ⟨c, r1.1, ?_⟩
      cases c with
      | true =>
        rw [if_pos rfl]
        cases hd
        exact q _ W1 [] x1 ⟨rfl, rfl⟩
      | false =>
        rw [if_neg Bool.false_ne_true]
        exact k2 σ W1 ρ μ F (S.ext x1) d hd Q fun v W2 G x2 r2 => q v W2 G (x1.trans x2) r2
    | _ => cases hd
theorem pq_not (ha : PQ X a f) : PQ X (.UnaryOp .Not a pos) (qNot f) := by
  obtain ⟨t1, p1, k1⟩ := ha
  refine ⟨_, pe_not p1, fun σ W ρ μ F S d hd Q q => ?_⟩
  unfold qNot at hd
  cases e : f ρ μ with
  | none => rw [e] at hd; cases hd
  | some x =>
    rw [e] at hd
    refine k1 σ W ρ μ F S x e _ fun v W1 G1 x1 r1 => ?_
    cases x with
    | bl c =>
      cases hd
      exact ⟨c, r1.1, q _ W1 [] x1 ⟨rfl, rfl⟩⟩
    | _ => cases hd
def qIf (t : FB) (f g : FQ) : FQ := fun ρ μ => (t ρ μ).bind fun x => if x = true then f ρ μ else g ρ μ
theorem pq_if (hc : PB X c t) (ha : PQ X a f) (hb : PQ X b g) : PQ X (.IfExp c a b pos) (qIf t f g) := by
  obtain ⟨t0, p0, k0⟩ := hc
  obtain ⟨t1, p1, k1⟩ := ha
  obtain ⟨t2, p2, k2⟩ := hb
  refine ⟨_, pe_ifExp p0 p1 p2, fun σ W ρ μ F S d hd Q q => ?_⟩
  obtain ⟨x, e1, hd⟩ := bind_some hd
  refine k0 σ W ρ μ F S x e1 _ fun W1 x1 => ?_
  cases x with
  | true =>
    rw [if_pos rfl] at hd ⊢
    exact k1 σ W1 ρ μ F (S.ext x1) d hd Q fun v W2 G x2 r2 => q v W2 G (x1.trans x2) r2
  | false =>
    rw [if_neg Bool.false_ne_true] at hd ⊢
    exact k2 σ W1 ρ μ F (S.ext x1) d hd Q fun v W2 G x2 r2 => q v W2 G (x1.trans x2) r2
/-! ### arguments, tuples, lists -/
def aNil : FA := fun _ _ => some []
def aCons (f : FQ) (k : FA) : FA := fun ρ μ => (f ρ μ).bind fun d => (k ρ μ).map fun ds => d :: ds
theorem paq_nil : PAQ X [] aNil := ⟨_, pa_nil, fun σ W ρ μ F S ds hd Q q => by
  cases hd
  exact q [] W [] (Ext.refl S.ok) ⟨rfl, rfl⟩⟩
theorem paq_cons {k : FA} (ha : PQ X e f) (hr : PAQ X es k) (hs : starEach (e :: es) X.env = (false, eval e X.env) :: starEach es X.env := by rfl) : PAQ X (e :: es) (aCons f k) := by
  obtain ⟨t1, p1, k1⟩ := ha
  obtain ⟨t2, p2, k2⟩ := hr
  refine ⟨_, pa_cons p1 p2 hs, fun σ W ρ μ F S ds hd Q q => ?_⟩
  obtain ⟨d, e1, hd⟩ := bind_some hd
  cases e2 : k ρ μ with
  | none => rw [e2] at hd; cases hd
  | some dr =>
    rw [e2] at hd
    cases hd
    refine k1 σ W ρ μ F S d e1 _ fun v W1 G1 x1 r1 => ?_
    refine k2 σ W1 ρ μ F (S.ext x1) dr e2 _ fun vs W2 G2 x2 r2 => ?_
    exact q _ W2 _ (x1.trans x2) ⟨v, vs, G1, G2, rfl, R_ext x2 d r1, r2, rfl⟩
/-- the lengths that are let by -/
def LIM : Nat := 1000000
theorem lim_ok {n : Nat} (h : n ≤ LIM) : n ≤ sizeLine := Nat.le_trans h (by decide)
theorem lim_lt {n : Nat} (h : n ≤ LIM) : n < sizeLine := Nat.lt_of_le_of_lt h (by decide)
def qTup (k : FA) : FQ := fun ρ μ => (k ρ μ).bind fun ds => if ds.length ≤ 100 then some (.tup ds) else none
theorem pq_tup {k : FA} {x1} (h : PAQ X es k) : PQ X (.Tuple es x1 pos) (qTup k) := by
  obtain ⟨t1, p1, k1⟩ := h
  refine ⟨_, pe_tup p1, fun σ W ρ μ F S d hd Q q => ?_⟩
  obtain ⟨ds, e1, hd⟩ := bind_some hd
  by_cases hl : ds.length ≤ 100
  · rw [if_pos hl] at hd
    cases hd
    refine k1 σ W ρ μ F S ds e1 _ fun vs W1 G1 x1 r1 => ⟨by rw [RL_len r1]; exact lim_ok (Nat.le_trans hl (by decide)), fun p hp => ?_⟩
    exact q _ (W1.put p (.tup vs)) G1 (x1.trans (Ext.put x1.ok hp)) (R_newT x1.ok hp r1)
  · rw [if_neg hl] at hd
    cases hd
/-- all of them data -/
def aData (k : FA) : FA := fun ρ μ => (k ρ μ).bind fun ds => if dataL ds = true ∧ ds.length ≤ 100 then some ds else none
theorem pn_lst {k : FA} (h : PAQ X es k) : PN X (.List es pos) (aData k) := by
  obtain ⟨t1, p1, k1⟩ := h
  refine ⟨_, pe_lst p1, fun σ W ρ μ F S d hd Q q => ?_⟩
  obtain ⟨ds, e1, hd⟩ := bind_some hd
  by_cases hl : dataL ds = true ∧ ds.length ≤ 100
  · rw [if_pos hl] at hd
    cases hd
    refine k1 σ W ρ μ F S d e1 _ fun vs W1 G1 x1 r1 => ⟨by rw [RL_len r1]; exact lim_ok (Nat.le_trans hl.2 (by decide)), fun p hp => ?_⟩
    have z := RL_data d hl.1 r1
    subst z
    exact q p (W1.put p (.lst vs)) ⟨x1.trans (Ext.put x1.ok hp), Evl.fresh_back x1.ex hp, fun z => x1.ok p z hp, vs, upd_same, RL_ext (Ext.put x1.ok hp) d r1⟩
  · rw [if_neg hl] at hd
    cases hd
/-- a new list as a value -/
def qN (k : FA) : FQ := fun ρ μ => (k ρ μ).map D.lst
theorem NewL.frz {K : PySem.W.Frag} {W W' : Wd} {ds : List D} {p : Addr} (h : NewL K W W' ds p) : Ext W ⟨W'.H, fun a => W'.Fr a ∨ a = p, W'.m⟩ ∧ R K ⟨W'.H, fun a => W'.Fr a ∨ a = p, W'.m⟩ (.lst ds) (.ref p) [] := by
  obtain ⟨x, new, nofr, vs, h1, h2⟩ := h
  refine ⟨⟨x.ex, fun a q => .inl (x.fr a q), fun a q => ?_, x.m, fun a q => ?_⟩, ?_⟩
  · rcases q with q | q
    · exact x.nf a q
    · exact .inr (by rw [q]; exact new)
  · rcases q with q | q
    · exact x.ok a q
    · show W'.H a ≠ none
      rw [q, h1]
      exact fun z => nomatch z
  · have lt : Lt W' ⟨W'.H, fun a => W'.Fr a ∨ a = p, W'.m⟩ := ⟨fun _ _ z => z, fun _ _ z => ⟨z.1, Or.inl z.2⟩, fun _ _ _ _ z z' => ⟨z, Or.inl z'⟩, fun _ _ z => z⟩
    exact ⟨p, vs, rfl, Or.inl ⟨Or.inl h1, Or.inr rfl⟩, RL_lt lt ds h2, rfl⟩
theorem PN.pq {k : FA} (h : PN X e k) : PQ X e (qN k) := by
  obtain ⟨t1, p1, k1⟩ := h
  refine ⟨_, p1, fun σ W ρ μ F S d hd Q q => ?_⟩
  unfold qN at hd
  cases e1 : k ρ μ with
  | none => rw [e1] at hd; cases hd
  | some ds =>
    rw [e1] at hd
    cases hd
    refine k1 σ W ρ μ F S ds e1 _ fun p W1 n => ?_
    obtain ⟨x, r⟩ := n.frz
    exact q _ ⟨W1.H, fun a => W1.Fr a ∨ a = p, W1.m⟩ [] x r
/-! ### items, slices -/
def IxD (X : Cx) (o : D → D → Option D) : Prop := ∃ r : R2, IxR X r ∧ ∀ (W : Wd) (x y : D) (u v : V) (G1 G2 : List Addr), WOk W → R X.K W x u G1 → R X.K W y v G2 → ∀ d, o x y = some d →
  ∀ Q : VK, (∀ v W' G, Ext W W' → R X.K W' d v G → Q v W'.H) → r u v W.H Q
theorem pq_ixr {o : D → D → Option D} (h : IxD X o) (ha : PQ X a f) (hb : PQ X b g) (hs : PlainIx b) : PQ X (.Subscript a b pos) (q2 o f g) := by
  obtain ⟨r, hr, h3⟩ := h
  obtain ⟨ta, pa, h1⟩ := ha
  obtain ⟨tb, pb, h2⟩ := hb
  exact ⟨_, pe_ix hr pa pb hs, run2 h1 h2 h3⟩
def ixAt {α : Type} (xs : List α) (i : Int) : Option α := if 0 ≤ i then xs[i.toNat]? else if -(xs.length : Int) ≤ i then xs[(i + xs.length).toNat]? else none
theorem ixAt_ok {α : Type} {xs : List α} {i : Int} {x : α} (h : ixAt xs i = some x) : atI xs i = some x := by
  unfold ixAt at h
  unfold atI ixN
  by_cases h0 : 0 ≤ i
  · rw [if_pos h0] at h ⊢
    have hl := (List.getElem?_eq_some_iff.mp h).1
    rw [if_pos (by omega)]
    exact h
  · rw [if_neg h0] at h ⊢
    by_cases h1 : -(xs.length : Int) ≤ i
    · rw [if_pos h1] at h ⊢
      exact h
    · rw [if_neg h1] at h
      cases h
theorem ixAt_map {α β : Type} (f : α → β) (xs : List α) (i : Int) : ixAt (xs.map f) i = (ixAt xs i).map f := by
  unfold ixAt
  rw [List.length_map]
  split
  · rw [List.getElem?_map]
  · split
    · rw [List.getElem?_map]
    · rfl
def dIx : D → D → Option D
  | .tup ds, .int i => ixAt ds i
  | .lst ds, .int i => ixAt ds i
  | .ml ds, .int i => ixAt ds i
  | .str s, .int i => if s.length ≤ LIM then (ixAt s i).map fun c => .str [c] else none
  | _, _ => none
theorem RL_ixAt {K : PySem.W.Frag} {W : Wd} {ds : List D} {vs : List V} {F : List Addr} {i : Int} {d : D} (h : RL K W ds vs F) (e : ixAt ds i = some d) : ∃ v G, atI vs i = some v ∧ R K W d v G := by
  have hl := RL_len h
  unfold ixAt at e
  have key : ∀ j : Nat, ds[j]? = some d → ∃ v G, vs[j]? = some v ∧ R K W d v G := fun j q => by
    obtain ⟨v, G, h1, h2, _⟩ := RL_get h q
    exact ⟨v, G, h1, h2⟩
  split at e
  · obtain ⟨v, G, h1, h2⟩ := key _ e
    refine ⟨v, G, ixAt_ok ?_, h2⟩
    unfold ixAt
    rw [if_pos (by assumption)]
    exact h1
  · split at e
    · obtain ⟨v, G, h1, h2⟩ := key _ e
      refine ⟨v, G, ixAt_ok ?_, h2⟩
      unfold ixAt
      rw [if_neg (by assumption), hl, if_pos (by assumption)]
      exact h1
    · cases e
theorem ixd_all : IxD X dIx := by
  refine ⟨_, ix_seq, fun W x y u v G1 G2 ok r1 r2 d hd Q q => ?_⟩
  cases y with
  | int i =>
    obtain ⟨rfl, _⟩ := r2
    cases x with
    | tup ds =>
      obtain ⟨a, vs, rfl, h2, h3⟩ := r1
      obtain ⟨w, G, e1, e2⟩ := RL_ixAt h3 hd
      exact .inr (.inl ⟨a, vs, i, w, rfl, rfl, h2, e1, q w W G (Ext.refl ok) e2⟩)
    | lst ds =>
      obtain ⟨a, vs, rfl, h2, h3, _⟩ := r1
      obtain ⟨w, G, e1, e2⟩ := RL_ixAt h3 hd
      exact .inl ⟨a, vs, i, w, rfl, rfl, h2.sq, e1, q w W G (Ext.refl ok) e2⟩
    | ml ds =>
      obtain ⟨a, vs, F', rfl, h2, h3, _⟩ := r1
      obtain ⟨w, G, e1, e2⟩ := RL_ixAt h3 hd
      exact .inl ⟨a, vs, i, w, rfl, rfl, Evl.sq_of h2, e1, q w W G (Ext.refl ok) e2⟩
    | str s =>
      obtain ⟨rfl, _⟩ := r1
      have hd2 : (if s.length ≤ LIM then (ixAt s i).map (fun c => D.str [c]) else none) = some d := hd
      by_cases hl : s.length ≤ LIM
      · rw [if_pos hl] at hd2
        cases e : ixAt s i with
        | none => rw [e] at hd2; cases hd2
        | some c =>
          rw [e] at hd2
          cases hd2
          exact .inr (.inr ⟨tr s, i, c, rfl, rfl, (by show s.toArray.size ≤ _; rw [List.size_toArray]; exact lim_ok hl), (by show atI s.toArray.toList i = some c; exact ixAt_ok e), q _ W [] (Ext.refl ok) ⟨rfl, rfl⟩⟩)
      · rw [if_neg hl] at hd2
        cases hd2
    | _ => cases hd
  | _ => cases x <;> cases hd
theorem pq_ix (ha : PQ X a f) (hb : PQ X b g) (hs : PlainIx b := by exact fun _ _ => rfl) : PQ X (.Subscript a b pos) (q2 dIx f g) := pq_ixr ixd_all ha hb hs
end
end Fw
/-! # operators on trees -/
namespace Fw
open PySem PySem.Spec PyProof.Rows L2
open Evl (Ex)
section
variable {X : Cx} {K : PySem.W.Frag}
/-! ### lists and their addresses -/
def asL : D → Option (List D)
  | .lst ds => some ds
  | .ml ds => if dataL ds = true then some ds else none
  | _ => none
theorem R_asL {W : Wd} {d : D} {ds : List D} {v : V} {G : List Addr} (h : asL d = some ds) (r : R K W d v G) : ∃ a vs, v = .ref a ∧ SqL K W.H a vs ∧ RL K W ds vs [] := by
  cases d with
  | lst es =>
    cases h
    obtain ⟨a, vs, h1, h2, h3, _⟩ := r
    exact ⟨a, vs, h1, h2.sq, h3⟩
  | ml es =>
    have h2 : (if dataL es = true then some es else none) = some ds := h
    by_cases hl : dataL es = true
    · rw [if_pos hl] at h2
      cases h2
      obtain ⟨a, vs, F', h1, h2, h3, _⟩ := r
      have z := RL_data ds hl h3
      subst z
      exact ⟨a, vs, h1, Evl.sq_of h2, h3⟩
    · rw [if_neg hl] at h2
      cases h2
  | _ => cases h
/-- list + list, each of them as it can be read -/
def rCatR (K : PySem.W.Frag) : R2 := fun x y H Q => ∃ l b xs zs, x = .ref l ∧ y = .ref b ∧ SqL K H l xs ∧ SqL K H b zs ∧ xs.length + zs.length ≤ sizeLine ∧ ∀ p, H p = none → Q (.ref p) (upd H p (.lst (xs ++ zs)))
theorem op_catR : OpR X (binaryOp .Add) (rCatR X.K) := by
  intro pins s σ H x y v u Q I rx ry h
  obtain ⟨l, b, xs, zs, rfl, rfl, hH, hB, hz, q⟩ := h
  cases rx
  cases ry
  obtain ⟨its, r, ⟨⟨c1, d1, t1, s1⟩, n, e, hc, hd, ht⟩, z⟩ := I.list hH
  obtain ⟨its2, r2, ⟨⟨c2, d2, t2, s2⟩, n2, e2, hc2, hd2, ht2⟩, z2⟩ := I.list hB
  simp only at hc hd ht hc2 hd2 ht2
  subst hc hd ht hc2 hd2 ht2
  have l1 := r.length
  have l2 := r2.length
  have ea : its.toArray ++ its2.toArray = (its ++ its2).toArray := by simp
  refine concat_meets ⟨_, e, rfl⟩ ⟨_, e2, rfl⟩ noFill_list_add seq_list_add PySem.F.slot_list_add PySem.F.entry_list_add (PySem.F.args_list_add_2 _ _) (list_addW l b its.toArray its2.toArray n n2 none none s1 s2 (by rw [List.size_toArray, List.size_toArray]; omega)) ⟨e, e2, ?_⟩
  rw [ea]
  exact ⟨.ref _, _, I.lnew (t' := s.toks) (r.append r2) (by rw [List.length_append]; omega), rfl, q _ I.fresh⟩
/-! ### + -/
def dAdd : D → D → Option D
  | .int i, .int j => some (.int (i + j))
  | .str a, .str b => if a.length + b.length ≤ LIM then some (.str (a ++ b)) else none
  | .tup a, .tup b => if a.length + b.length ≤ LIM ∧ dataL a = true ∧ dataL b = true then some (.tup (a ++ b)) else none
  | x, y => (asL x).bind fun a => (asL y).bind fun b => if a.length + b.length ≤ LIM then some (.lst (a ++ b)) else none
theorem tr_append (a b : List Nat) : tr a ++ tr b = tr (a ++ b) := by
  show Str.append (tr a) (tr b) = tr (a ++ b)
  unfold Str.append
  simp
theorem tr_length (a : List Nat) : (tr a).length = a.length := by
  show a.toArray.size = _
  rw [List.size_toArray]
theorem tr_inj {a b : List Nat} (h : tr a = tr b) : a = b := by
  have z : a.toArray = b.toArray := congrArg Str.cps h
  simpa using z
theorem opd_add : OpD X (binaryOp .Add) dAdd := by
  refine ⟨_, (op_add.or (op_add_str.or (op_catA.or op_catR))), fun W x y u v G1 G2 ok r1 r2 d hd Q q => ?_⟩
  have lists : ∀ {a b : List D}, asL x = some a → asL y = some b → (if a.length + b.length ≤ LIM then some (D.lst (a ++ b)) else none) = some d → rCatR X.K u v W.H Q := fun {a b} e1 e2 hd => by
    obtain ⟨p, vs, rfl, h2, h3⟩ := R_asL e1 r1
    obtain ⟨p', vs', rfl, h2', h3'⟩ := R_asL e2 r2
    by_cases hl : a.length + b.length ≤ LIM
    · rw [if_pos hl] at hd
      cases hd
      refine ⟨p, p', vs, vs', rfl, rfl, h2, h2', by rw [RL_len h3, RL_len h3']; exact lim_ok hl, fun z hz => ?_⟩
      exact q _ (W.frz z (vs ++ vs')) [] (Ext.frz ok hz) (R_newL ok hz (RL_app h3 h3'))
    · rw [if_neg hl] at hd
      cases hd
  have viaL : ((asL x).bind fun a => (asL y).bind fun b => if a.length + b.length ≤ LIM then some (D.lst (a ++ b)) else none) = some d → rCatR X.K u v W.H Q := fun h => by
    obtain ⟨a, e1, h⟩ := bind_some h
    obtain ⟨b, e2, h⟩ := bind_some h
    exact lists e1 e2 h
  cases x with
  | int i =>
    cases y with
    | int j =>
      cases hd
      obtain ⟨rfl, _⟩ := r1
      obtain ⟨rfl, _⟩ := r2
      exact .inl ⟨i, j, rfl, rfl, q _ W [] (Ext.refl ok) ⟨rfl, rfl⟩⟩
    | _ => cases hd
  | str a =>
    cases y with
    | str b =>
      obtain ⟨rfl, _⟩ := r1
      obtain ⟨rfl, _⟩ := r2
      have hd2 : (if a.length + b.length ≤ LIM then some (D.str (a ++ b)) else none) = some d := hd
      by_cases hl : a.length + b.length ≤ LIM
      · rw [if_pos hl] at hd2
        cases hd2
        exact .inr (.inl ⟨tr a, tr b, rfl, rfl, by rw [tr_length, tr_length]; exact lim_ok hl, q _ W [] (Ext.refl ok) ⟨by rw [tr_append], rfl⟩⟩)
      · rw [if_neg hl] at hd2
        cases hd2
    | _ => cases hd
  | tup a =>
    cases y with
    | tup b =>
      have hd2 : (if a.length + b.length ≤ LIM ∧ dataL a = true ∧ dataL b = true then some (D.tup (a ++ b)) else none) = some d := hd
      by_cases hl : a.length + b.length ≤ LIM ∧ dataL a = true ∧ dataL b = true
      · rw [if_pos hl] at hd2
        cases hd2
        obtain ⟨p, vs, rfl, h2, h3⟩ := r1
        obtain ⟨p', vs', rfl, h2', h3'⟩ := r2
        have z1 := RL_data a hl.2.1 h3
        have z2 := RL_data b hl.2.2 h3'
        subst z1
        subst z2
        have ln := RL_len h3
        have ln' := RL_len h3'
        refine .inr (.inr (.inl ⟨p, p', vs, vs', rfl, rfl, h2, h2', by rw [ln, ln']; exact lim_ok hl.1, fun e => ?_, fun e1 e2 => ?_, fun e1 e2 z hz => ?_⟩))
        · have ea : a = [] := by
            rw [e] at ln
            exact List.length_eq_zero_iff.mp ln.symm
          subst ea
          exact q _ W [] (Ext.refl ok) ⟨p', vs', rfl, h2', h3'⟩
        · have eb : b = [] := by
            rw [e2] at ln'
            exact List.length_eq_zero_iff.mp ln'.symm
          subst eb
          rw [List.append_nil] at q
          exact q _ W [] (Ext.refl ok) ⟨p, vs, rfl, h2, h3⟩
        · exact q _ (W.put z (.tup (vs ++ vs'))) [] (Ext.put ok hz) (R_newT ok hz (RL_app h3 h3'))
      · rw [if_neg hl] at hd2
        cases hd2
    | _ => cases hd
  | lst a =>
    have hd2 : ((asL (.lst a)).bind fun a => (asL y).bind fun b => if a.length + b.length ≤ LIM then some (D.lst (a ++ b)) else none) = some d := by cases y <;> exact hd
    exact .inr (.inr (.inr (viaL hd2)))
  | ml a =>
    have hd2 : ((asL (.ml a)).bind fun a => (asL y).bind fun b => if a.length + b.length ≤ LIM then some (D.lst (a ++ b)) else none) = some d := by cases y <;> exact hd
    exact .inr (.inr (.inr (viaL hd2)))
  | _ => cases y <;> cases hd
/-! ### ints -/
def dInt (C : Int → Int → Bool) (g : Int → Int → D) : D → D → Option D
  | .int i, .int j => if C i j = true then some (g i j) else none
  | _, _ => none
theorem opd_int {op : Value → Value → Sem Value} {P : Int → Int → Prop} {f : Int → Int → V} {C : Int → Int → Bool} {g : Int → Int → D} (h : OpR X op (rI P f)) (hc : ∀ i j, C i j = true → P i j) (hg : ∀ (W : Wd) i j, R X.K W (g i j) (f i j) []) : OpD X op (dInt C g) := by
  refine ⟨_, h, fun W x y u v G1 G2 ok r1 r2 d hd Q q => ?_⟩
  cases x with
  | int i =>
    cases y with
    | int j =>
      obtain ⟨rfl, _⟩ := r1
      obtain ⟨rfl, _⟩ := r2
      have hd2 : (if C i j = true then some (g i j) else none) = some d := hd
      by_cases hl : C i j = true
      · rw [if_pos hl] at hd2
        cases hd2
        exact ⟨i, j, rfl, rfl, hc i j hl, q _ W [] (Ext.refl ok) (hg W i j)⟩
      · rw [if_neg hl] at hd2
        cases hd2
    | _ => cases hd
  | _ => cases y <;> cases hd
theorem opd_int0 {op : Value → Value → Sem Value} {f : Int → Int → V} {g : Int → Int → D} (h : OpR X op (rI0 f)) (hg : ∀ (W : Wd) i j, R X.K W (g i j) (f i j) []) : OpD X op (dInt (fun _ _ => true) g) := by
  refine ⟨_, h, fun W x y u v G1 G2 ok r1 r2 d hd Q q => ?_⟩
  cases x with
  | int i =>
    cases y with
    | int j =>
      obtain ⟨rfl, _⟩ := r1
      obtain ⟨rfl, _⟩ := r2
      cases hd
      exact ⟨i, j, rfl, rfl, q _ W [] (Ext.refl ok) (hg W i j)⟩
    | _ => cases hd
  | _ => cases y <;> cases hd
abbrev dSub := dInt (fun _ _ => true) fun i j => .int (i - j)
def cMul (i j : Int) : Bool := decide ((-18446744073709551616 < i ∧ i < 18446744073709551616) ∨ (-18446744073709551616 < j ∧ j < 18446744073709551616))
abbrev dMul := dInt cMul fun i j => .int (i * j)
abbrev dMod := dInt (fun _ j => decide (0 < j)) fun i j => .int (i % j)
abbrev dFdiv := dInt (fun _ j => decide (0 < j ∧ j < 1073741824)) fun i j => .int (i / j)
theorem opd_sub : OpD X (binaryOp .Sub) dSub := opd_int0 op_sub fun _ _ _ => ⟨rfl, rfl⟩
theorem opd_mul : OpD X (binaryOp .Mult) dMul := opd_int op_mul (fun i j h => by
  have z : (-18446744073709551616 < i ∧ i < 18446744073709551616) ∨ (-18446744073709551616 < j ∧ j < 18446744073709551616) := of_decide_eq_true h
  unfold CMul
  omega) fun _ _ _ => ⟨rfl, rfl⟩
theorem opd_mod : OpD X (binaryOp .Mod) dMod := opd_int op_mod (fun i j h => of_decide_eq_true h) fun _ _ _ => ⟨rfl, rfl⟩
theorem opd_fdiv : OpD X (binaryOp .FloorDiv) dFdiv := opd_int op_fdiv (fun i j h => by
  have z : 0 < j ∧ j < 1073741824 := of_decide_eq_true h
  exact z) fun _ _ _ => ⟨rfl, rfl⟩
abbrev dPow := dInt (fun i j => decide (0 ≤ j ∧ j ≤ 1000 ∧ i.natAbs < 18446744073709551616)) fun i j => .int (i ^ j.toNat)
theorem opd_pow : OpD X (binaryOp .Pow) dPow := opd_int op_pow (fun i j h => by
  obtain ⟨h1, h2, h3⟩ := of_decide_eq_true h
  exact ⟨h1, by omega, h3⟩) fun _ _ _ => ⟨rfl, rfl⟩
/-! ### comparisons by order -/
theorem opd_or {op : Value → Value → Sem Value} {o o' : D → D → Option D} (h : OpD X op o) (h' : OpD X op o') : OpD X op (fun x y => match o x y with | some d => some d | none => o' x y) := by
  obtain ⟨r, hr, k⟩ := h
  obtain ⟨r', hr', k'⟩ := h'
  refine ⟨_, hr.or hr', fun W x y u v G1 G2 ok r1 r2 d hd Q q => ?_⟩
  dsimp only at hd
  cases e : o x y with
  | some d0 =>
    rw [e] at hd
    cases hd
    exact .inl (k W x y u v G1 G2 ok r1 r2 _ e Q q)
  | none =>
    rw [e] at hd
    exact .inr (k' W x y u v G1 G2 ok r1 r2 _ hd Q q)
theorem opd_is {op : Value → Value → Sem Value} {o o' : D → D → Option D} (h : OpD X op o) (e : ∀ x y d, o' x y = some d → o x y = some d) : OpD X op o' := by
  obtain ⟨r, hr, k⟩ := h
  exact ⟨r, hr, fun W x y u v G1 G2 ok r1 r2 d hd Q q => k W x y u v G1 G2 ok r1 r2 d (e x y d hd) Q q⟩
/-- both texts -/
def dStr2 (g : List Nat → List Nat → D) : D → D → Option D
  | .str a, .str b => some (g a b)
  | _, _ => none
theorem opd_str2 {op : Value → Value → Sem Value} {f : Str → Str → V} {g : List Nat → List Nat → D} (h : OpR X op (fun x y H Q => ∃ i j, x = .str i ∧ y = .str j ∧ Q (f i j) H)) (hg : ∀ (W : Wd) a b, R X.K W (g a b) (f (tr a) (tr b)) []) : OpD X op (dStr2 g) := by
  refine ⟨_, h, fun W x y u v G1 G2 ok r1 r2 d hd Q q => ?_⟩
  cases x with
  | str i =>
    cases y with
    | str j =>
      obtain ⟨rfl, _⟩ := r1
      obtain ⟨rfl, _⟩ := r2
      cases hd
      exact ⟨_, _, rfl, rfl, q _ W [] (Ext.refl ok) (hg W i j)⟩
    | _ => cases hd
  | _ => cases y <;> cases hd
def dLt : D → D → Option D
  | .int i, .int j => some (.bl (decide (i < j)))
  | .str a, .str b => some (.bl (decide (a < b)))
  | _, _ => none
def dLe : D → D → Option D
  | .int i, .int j => some (.bl (decide (i ≤ j)))
  | .str a, .str b => some (.bl (!decide (b < a)))
  | _, _ => none
def dGt : D → D → Option D
  | .int i, .int j => some (.bl (decide (j < i)))
  | .str a, .str b => some (.bl (decide (b < a)))
  | _, _ => none
def dGe : D → D → Option D
  | .int i, .int j => some (.bl (decide (j ≤ i)))
  | .str a, .str b => some (.bl (!decide (a < b)))
  | _, _ => none
theorem opd_lt : OpD X (compareOp .Lt) dLt := opd_is (opd_or (opd_int0 (g := fun i j => .bl (decide (i < j))) op_lt fun _ _ _ => ⟨rfl, rfl⟩) (opd_str2 (g := fun a b => .bl (decide (a < b))) op_lt_str fun _ _ _ => ⟨rfl, rfl⟩))
  fun x y d h => by cases x <;> cases y <;> first | exact h | cases h
theorem opd_le : OpD X (compareOp .LtE) dLe := opd_is (opd_or (opd_int0 (g := fun i j => .bl (decide (i ≤ j))) op_le fun _ _ _ => ⟨rfl, rfl⟩) (opd_str2 (g := fun a b => .bl (!decide (b < a))) op_le_str fun _ _ _ => ⟨rfl, rfl⟩))
  fun x y d h => by cases x <;> cases y <;> first | exact h | cases h
theorem opd_gt : OpD X (compareOp .Gt) dGt := opd_is (opd_or (opd_int0 (g := fun i j => .bl (decide (j < i))) op_gt fun _ _ _ => ⟨rfl, rfl⟩) (opd_str2 (g := fun a b => .bl (decide (b < a))) op_gt_str fun _ _ _ => ⟨rfl, rfl⟩))
  fun x y d h => by cases x <;> cases y <;> first | exact h | cases h
theorem opd_ge : OpD X (compareOp .GtE) dGe := opd_is (opd_or (opd_int0 (g := fun i j => .bl (decide (j ≤ i))) op_ge fun _ _ _ => ⟨rfl, rfl⟩) (opd_str2 (g := fun a b => .bl (!decide (a < b))) op_ge_str fun _ _ _ => ⟨rfl, rfl⟩))
  fun x y d h => by cases x <;> cases y <;> first | exact h | cases h
/-! ### equality -/
def atom : D → Option V
  | .non => some .non
  | .bl b => some (.bl b)
  | .int i => some (.int i)
  | .str s => some (.str (tr s))
  | _ => none
theorem R_atom {W : Wd} {d : D} {u v : V} {G : List Addr} (h : atom d = some u) (r : R K W d v G) : v = u := by
  cases d <;> first
    | (cases h; exact r.1)
    | cases h
mutual
def toP : D → Option PyData
  | .non => some .none
  | .bl b => some (.bool b)
  | .int i => some (.int i)
  | .str s => some (.str (tr s))
  | .tup ds => (toPL ds).map .tuple
  | .lst ds => (toPL ds).map .list
  | .ml ds => (toPL ds).map .list
  | _ => none
def toPL : List D → Option (List PyData)
  | [] => some []
  | d :: ds => (toP d).bind fun p => (toPL ds).map fun ps => p :: ps
end
theorem map_some {α β : Type} {o : Option α} {k : α → β} {z : β} (h : o.map k = some z) : ∃ x, o = some x ∧ k x = z := by
  cases o with
  | none => cases h
  | some x => exact ⟨x, rfl, Option.some.inj h⟩
mutual
theorem R_dp {W : Wd} : ∀ (d : D) {p : PyData} {v : V} {G : List Addr}, toP d = some p → R K W d v G → Dp K W.H v p
  | .non, _, _, _, h, r => by cases h; rw [r.1]; exact .non
  | .bl b, _, _, _, h, r => by cases h; rw [r.1]; exact .bl b
  | .int i, _, _, _, h, r => by cases h; rw [r.1]; exact .int i
  | .str s, _, _, _, h, r => by cases h; rw [r.1]; exact .str _
  | .tup ds, _, _, _, h, r => by
    obtain ⟨ps, e, z⟩ := map_some h
    obtain ⟨a, vs, h1, h2, h3⟩ := r
    rw [← z, h1]
    exact .tup h2 (RL_dp ds e h3)
  | .lst ds, _, _, _, h, r => by
    obtain ⟨ps, e, z⟩ := map_some h
    obtain ⟨a, vs, h1, h2, h3, _⟩ := r
    rw [← z, h1]
    exact .lst h2.sq (RL_dp ds e h3)
  | .ml ds, _, _, _, h, r => by
    obtain ⟨ps, e, z⟩ := map_some h
    obtain ⟨a, vs, F', h1, h2, h3, _⟩ := r
    rw [← z, h1]
    exact .lst (Evl.sq_of h2) (RL_dp ds e h3)
  | .obj _ _ _, _, _, _, h, _ => by cases h
  | .ref _, _, _, _, h, _ => by cases h
  | .un, _, _, _, h, _ => by cases h
theorem RL_dp {W : Wd} : ∀ (ds : List D) {ps : List PyData} {vs : List V} {G : List Addr}, toPL ds = some ps → RL K W ds vs G → DpAll K W.H vs ps
  | [], _, _, _, h, r => by
    cases h
    rw [r.1]
    exact .nil
  | d :: ds, _, _, _, h, r => by
    obtain ⟨p, e1, h⟩ := bind_some h
    obtain ⟨ps, e2, z⟩ := map_some h
    obtain ⟨v, vs', F1, F2, h1, h2, h3, _⟩ := r
    rw [← z, h1]
    exact .cons (R_dp d e1 h2) (RL_dp ds e2 h3)
end
def eqDB (x y : D) : Option Bool := match atom x, atom y with
  | some u, some v => if scal u v = true then some (decide (u = v)) else none
  | _, _ => (toP x).bind fun p => (toP y).bind fun q => if SeqAt.shaped p = true ∧ SeqAt.shaped q = true then some (PyData.eqv p q) else none
def dEq (x y : D) : Option D := (eqDB x y).map D.bl
def dNe (x y : D) : Option D := (eqDB x y).map fun b => D.bl (!b)
theorem opd_eq {k : Nat} (hr : Room k X.A) : OpD X (compareOp .Eq) dEq := by
  refine ⟨_, op_eq.or (op_eqD hr.units), fun W x y u v G1 G2 ok r1 r2 d hd Q q => ?_⟩
  obtain ⟨b, hb, z⟩ := map_some hd
  subst z
  have alt : ((toP x).bind fun p => (toP y).bind fun q => if SeqAt.shaped p = true ∧ SeqAt.shaped q = true then some (PyData.eqv p q) else none) = some b → rEqD X.K u v W.H Q := fun h => by
    obtain ⟨p, e1, h⟩ := bind_some h
    obtain ⟨p', e2, h⟩ := bind_some h
    by_cases hs : SeqAt.shaped p = true ∧ SeqAt.shaped p' = true
    · rw [if_pos hs] at h
      cases h
      exact ⟨p, p', R_dp x e1 r1, R_dp y e2 r2, hs.1, hs.2, q _ W [] (Ext.refl ok) ⟨rfl, rfl⟩⟩
    · rw [if_neg hs] at h
      cases h
  unfold eqDB at hb
  cases ea : atom x with
  | none => rw [ea] at hb; exact .inr (alt hb)
  | some a =>
    cases ec : atom y with
    | none => rw [ea, ec] at hb; exact .inr (alt hb)
    | some c =>
      rw [ea, ec] at hb
      have hb2 : (if scal a c = true then some (decide (a = c)) else none) = some b := hb
      by_cases hs : scal a c = true
      · rw [if_pos hs] at hb2
        cases hb2
        rw [R_atom ea r1, R_atom ec r2]
        exact .inl ⟨hs, q _ W [] (Ext.refl ok) ⟨rfl, rfl⟩⟩
      · rw [if_neg hs] at hb2
        cases hb2
theorem opd_ne {k : Nat} (hr : Room k X.A) : OpD X (compareOp .NotEq) dNe := by
  refine ⟨_, op_ne.or (op_neD hr.units), fun W x y u v G1 G2 ok r1 r2 d hd Q q => ?_⟩
  obtain ⟨b, hb, z⟩ := map_some hd
  subst z
  have alt : ((toP x).bind fun p => (toP y).bind fun q => if SeqAt.shaped p = true ∧ SeqAt.shaped q = true then some (PyData.eqv p q) else none) = some b → rNeD X.K u v W.H Q := fun h => by
    obtain ⟨p, e1, h⟩ := bind_some h
    obtain ⟨p', e2, h⟩ := bind_some h
    by_cases hs : SeqAt.shaped p = true ∧ SeqAt.shaped p' = true
    · rw [if_pos hs] at h
      cases h
      exact ⟨p, p', R_dp x e1 r1, R_dp y e2 r2, hs.1, hs.2, q _ W [] (Ext.refl ok) ⟨rfl, rfl⟩⟩
    · rw [if_neg hs] at h
      cases h
  unfold eqDB at hb
  cases ea : atom x with
  | none => rw [ea] at hb; exact .inr (alt hb)
  | some a =>
    cases ec : atom y with
    | none => rw [ea, ec] at hb; exact .inr (alt hb)
    | some c =>
      rw [ea, ec] at hb
      have hb2 : (if scal a c = true then some (decide (a = c)) else none) = some b := hb
      by_cases hs : scal a c = true
      · rw [if_pos hs] at hb2
        cases hb2
        rw [R_atom ea r1, R_atom ec r2]
        exact .inl ⟨hs, q _ W [] (Ext.refl ok) ⟨rfl, rfl⟩⟩
      · rw [if_neg hs] at hb2
        cases hb2
/-! ### is None, is a truth -/
def isNonD : D → Bool
  | .non => true
  | _ => false
theorem R_isNon {W : Wd} {d : D} {v : V} {G : List Addr} (r : R K W d v G) : decide (v = .non) = isNonD d := by
  cases d with
  | non => rw [r.1]; exact decide_eq_true rfl
  | bl _ => rw [r.1]; exact decide_eq_false fun z => nomatch z
  | int _ => rw [r.1]; exact decide_eq_false fun z => nomatch z
  | str _ => rw [r.1]; exact decide_eq_false fun z => nomatch z
  | tup _ => obtain ⟨a, vs, rfl, _⟩ := r; exact decide_eq_false fun z => nomatch z
  | lst _ => obtain ⟨a, vs, rfl, _⟩ := r; exact decide_eq_false fun z => nomatch z
  | ml _ => obtain ⟨a, vs, F', rfl, _⟩ := r; exact decide_eq_false fun z => nomatch z
  | obj _ _ _ => obtain ⟨a, dx, vs, F', rfl, _⟩ := r; exact decide_eq_false fun z => nomatch z
  | fo _ _ _ => obtain ⟨a, dx, vs, rfl, _⟩ := r; exact decide_eq_false fun z => nomatch z
  | ref _ => obtain ⟨a, rfl, _⟩ := r; exact decide_eq_false fun z => nomatch z
  | un => exact r.elim
def isDB : D → D → Option Bool
  | x, .non => some (isNonD x)
  | .bl a, .bl b => some (decide (a = b))
  | _, _ => none
def dIs (x y : D) : Option D := (isDB x y).map D.bl
def dIsNot (x y : D) : Option D := (isDB x y).map fun b => D.bl (!b)
end
end Fw
/-! # is, in, slices, built-ins, methods of texts -/
namespace Fw
open PySem PySem.Spec PyProof.Rows L2
open Evl (Ex)
section
variable {X : Cx} {K : PySem.W.Frag}
theorem opd_is_ : OpD X (compareOp .Is) dIs := by
  refine ⟨_, (op_isN (X := X)).or op_isBl, fun W x y u v G1 G2 ok r1 r2 d hd Q q => ?_⟩
  obtain ⟨b, hb, z⟩ := map_some hd
  subst z
  cases y with
  | non =>
    have hb2 : some (isNonD x) = some b := by cases x <;> exact hb
    cases hb2
    refine .inl ⟨r2.1, q _ W [] (Ext.refl ok) ⟨by rw [R_isNon r1], rfl⟩⟩
  | bl c =>
    cases x with
    | bl a =>
      cases hb
      exact .inr ⟨a, c, r1.1, r2.1, q _ W [] (Ext.refl ok) ⟨rfl, rfl⟩⟩
    | _ => cases hb
  | _ => cases x <;> cases hb
theorem opd_isnot : OpD X (compareOp .IsNot) dIsNot := by
  refine ⟨_, (op_notN (X := X)).or op_notBl, fun W x y u v G1 G2 ok r1 r2 d hd Q q => ?_⟩
  obtain ⟨b, hb, z⟩ := map_some hd
  subst z
  cases y with
  | non =>
    have hb2 : some (isNonD x) = some b := by cases x <;> exact hb
    cases hb2
    refine .inl ⟨r2.1, q _ W [] (Ext.refl ok) ⟨by rw [R_isNon r1], rfl⟩⟩
  | bl c =>
    cases x with
    | bl a =>
      cases hb
      exact .inr ⟨a, c, r1.1, r2.1, q _ W [] (Ext.refl ok) ⟨rfl, rfl⟩⟩
    | _ => cases hb
  | _ => cases x <;> cases hb
/-! ### in -/
def atoms : List D → Option (List V)
  | [] => some []
  | d :: ds => (atom d).bind fun u => (atoms ds).map fun us => u :: us
theorem R_atoms {W : Wd} : ∀ {ds : List D} {us vs : List V} {G : List Addr}, atoms ds = some us → RL K W ds vs G → vs = us
  | [], _, _, _, h, r => by
    cases h
    exact r.1
  | d :: ds, _, _, _, h, r => by
    obtain ⟨u, e1, h⟩ := bind_some h
    obtain ⟨us, e2, z⟩ := map_some h
    obtain ⟨v, vs', F1, F2, h1, h2, h3, _⟩ := r
    rw [← z, h1, R_atom e1 h2, R_atoms e2 h3]
theorem flat_atom {d : D} {u : V} (h : atom d = some u) : flatV u = true := by
  cases d <;> first
    | (cases h; rfl)
    | cases h
theorem flat_atoms : ∀ {ds : List D} {us : List V}, atoms ds = some us → us.all flatV = true
  | [], _, h => by
    cases h
    rfl
  | d :: ds, _, h => by
    obtain ⟨u, e1, h⟩ := bind_some h
    obtain ⟨us, e2, z⟩ := map_some h
    rw [← z, List.all_cons, flat_atom e1, flat_atoms e2]
    rfl
/-- the items of a list or a tuple -/
def seqD : D → Option (List D)
  | .lst ds => some ds
  | .ml ds => some ds
  | .tup ds => some ds
  | _ => none
theorem R_seq {W : Wd} {d : D} {ds : List D} {v : V} {G : List Addr} (h : seqD d = some ds) (r : R K W d v G) : ∃ a vs G', v = .ref a ∧ (SqL K W.H a vs ∨ SqT K W.H a vs) ∧ RL K W ds vs G' := by
  cases d with
  | lst es =>
    cases h
    obtain ⟨a, vs, h1, h2, h3, _⟩ := r
    exact ⟨a, vs, _, h1, .inl h2.sq, h3⟩
  | ml es =>
    cases h
    obtain ⟨a, vs, F', h1, h2, h3, _⟩ := r
    exact ⟨a, vs, _, h1, .inl (Evl.sq_of h2), h3⟩
  | tup es =>
    cases h
    obtain ⟨a, vs, h1, h2, h3⟩ := r
    exact ⟨a, vs, _, h1, .inr h2, h3⟩
  | _ => cases h
def inSeq (x y : D) : Option Bool := (seqD y).bind fun ds => (atom x).bind fun u => (atoms ds).map fun us => inV u us
def inDB (x y : D) : Option Bool := match x, y with
  | .str [c], .str z => some (decide (c ∈ z))
  | _, _ => inSeq x y
def dIn (x y : D) : Option D := (inDB x y).map D.bl
def dNotIn (x y : D) : Option D := (inDB x y).map fun b => D.bl (!b)
theorem inSeq_ok {W : Wd} {x y : D} {u v : V} {G1 G2 : List Addr} {b : Bool} (h : inSeq x y = some b) (r1 : R K W x u G1) (r2 : R K W y v G2) :
    ∃ p xs, v = .ref p ∧ (SqL K W.H p xs ∨ SqT K W.H p xs) ∧ flatV u = true ∧ xs.all flatV = true ∧ inV u xs = b := by
  obtain ⟨ds, e1, h⟩ := bind_some h
  obtain ⟨a, e2, h⟩ := bind_some h
  obtain ⟨us, e3, z⟩ := map_some h
  obtain ⟨p, vs, G', h1, h2, h3⟩ := R_seq e1 r2
  have ev := R_atoms e3 h3
  have eu := R_atom e2 r1
  subst ev
  subst eu
  exact ⟨p, vs, h1, h2, flat_atom e2, flat_atoms e3, z⟩
theorem inDB_cases {x y : D} {b : Bool} (h : inDB x y = some b) : (∃ c z, x = .str [c] ∧ y = .str z ∧ decide (c ∈ z) = b) ∨ inSeq x y = some b := by
  unfold inDB at h
  split at h
  · exact .inl ⟨_, _, rfl, rfl, Option.some.inj h⟩
  · exact .inr h
theorem opd_in : OpD X (compareOp .In) dIn := by
  refine ⟨_, (op_in_sign (X := X)).or op_in_seq, fun W x y u v G1 G2 ok r1 r2 d hd Q q => ?_⟩
  obtain ⟨b, hb, z⟩ := map_some hd
  subst z
  rcases inDB_cases hb with ⟨c, z, rfl, rfl, e⟩ | h
  · exact .inl ⟨c, tr z, r1.1, r2.1, q _ W [] (Ext.refl ok) ⟨by rw [← e] <;> rfl, rfl⟩⟩
  · obtain ⟨p, xs, h1, h2, h3, h4, h5⟩ := inSeq_ok h r1 r2
    exact .inr ⟨p, xs, h1, h2, h3, h4, q _ W [] (Ext.refl ok) ⟨by rw [← h5] <;> rfl, rfl⟩⟩
theorem opd_notin : OpD X (compareOp .NotIn) dNotIn := by
  refine ⟨_, (op_notIn_sign (X := X)).or op_notIn_seq, fun W x y u v G1 G2 ok r1 r2 d hd Q q => ?_⟩
  obtain ⟨b, hb, z⟩ := map_some hd
  subst z
  rcases inDB_cases hb with ⟨c, z, rfl, rfl, e⟩ | h
  · exact .inl ⟨c, tr z, r1.1, r2.1, q _ W [] (Ext.refl ok) ⟨by rw [← e] <;> rfl, rfl⟩⟩
  · obtain ⟨p, xs, h1, h2, h3, h4, h5⟩ := inSeq_ok h r1 r2
    exact .inr ⟨p, xs, h1, h2, h3, h4, q _ W [] (Ext.refl ok) ⟨by rw [← h5] <;> rfl, rfl⟩⟩
/-! ### slices -/
abbrev FO := List D → List D → Option (Option Int)
def POQ (X : Cx) (e : Option Expr) (f : FO) : Prop := ∃ to : TO, PO X e to ∧ ∀ (σ : L2.St) (W : Wd) (ρ μ : List D) (F : List Addr), Sta X.K W σ ρ μ F → ∀ o, f ρ μ = some o →
  ∀ Q : Option Int → Hp → Prop, (∀ W', Ext W W' → Q o W'.H) → to σ W.H Q
def oNone : FO := fun _ _ => some none
def oSome (f : FQ) : FO := fun ρ μ => match f ρ μ with
  | some (.int i) => some (some i)
  | _ => none
theorem poq_none : POQ X none oNone := ⟨_, po_none, fun σ W ρ μ F S o ho Q q => by
  cases ho
  exact q W (Ext.refl S.ok)⟩
theorem poq_some {e : Expr} {f : FQ} (h : PQ X e f) : POQ X (some e) (oSome f) := by
  obtain ⟨t1, p1, k1⟩ := h
  refine ⟨_, po_some p1, fun σ W ρ μ F S o ho Q q => ?_⟩
  unfold oSome at ho
  cases e1 : f ρ μ with
  | none => rw [e1] at ho; cases ho
  | some d =>
    rw [e1] at ho
    refine k1 σ W ρ μ F S d e1 _ fun v W1 G1 x1 r1 => ?_
    cases d with
    | int i =>
      cases ho
      exact ⟨i, r1.1, q W1 x1⟩
    | _ => cases ho
def cut {α : Type} (xs : List α) (lo hi : Option Int) : List α := (xs.drop (HT.sIx xs.length 0 lo)).take (HT.sIx xs.length xs.length hi - HT.sIx xs.length 0 lo)
def dSl (x : D) (lo hi : Option Int) : Option D := match x with
  | .str s => if s.length ≤ LIM then some (.str (cut s lo hi)) else none
  | .tup ds => if dataL ds = true then some (.tup (cut ds lo hi)) else none
  | x => (asL x).map fun ds => .lst (cut ds lo hi)
def qSl (f : FQ) (lo hi : FO) : FQ := fun ρ μ => (f ρ μ).bind fun x => (lo ρ μ).bind fun l => (hi ρ μ).bind fun h => dSl x l h
theorem RL_cut {W : Wd} {ds : List D} {vs : List V} {lo hi : Option Int} (h : RL K W ds vs []) : RL K W (cut ds lo hi) (cutV vs lo hi) [] := by
  have hl := RL_len h
  unfold cut cutV
  rw [hl]
  exact RL_take (RL_drop h)
theorem cut_all {α : Type} {xs : List α} {lo hi : Option Int} (h : HT.sIx xs.length 0 lo = 0 ∧ HT.sIx xs.length xs.length hi = xs.length) : cut xs lo hi = xs := by
  unfold cut
  rw [h.1, h.2, List.drop_zero, Nat.sub_zero, List.take_length]
theorem pq_sl {e : Expr} {lo hi : Option Expr} {f : FQ} {l h : FO} {pos p2 : Pos} (he : PQ X e f) (hl : POQ X lo l) (hh : POQ X hi h) : PQ X (.Subscript e (.Slice lo hi none p2) pos) (qSl f l h) := by
  obtain ⟨t1, p1, k1⟩ := he
  obtain ⟨t2, p2', k2⟩ := hl
  obtain ⟨t3, p3, k3⟩ := hh
  refine ⟨_, pe_slice (sl_list.or (sl_tupA.or sl_str)) p1 p2' p3, fun σ W ρ μ F S d hd Q q => ?_⟩
  obtain ⟨x, e1, hd⟩ := bind_some hd
  obtain ⟨li, e2, hd⟩ := bind_some hd
  obtain ⟨hi', e3, hd⟩ := bind_some hd
  refine k1 σ W ρ μ F S x e1 _ fun v W1 G1 x1 r1 => ?_
  refine k2 σ W1 ρ μ F (S.ext x1) li e2 _ fun W2 x2 => ?_
  refine k3 σ W2 ρ μ F ((S.ext x1).ext x2) hi' e3 _ fun W3 x3 => ?_
  have r3 := R_ext (x2.trans x3) x r1
  have x13 := (x1.trans x2).trans x3
  have viaL : ((asL x).map fun ds => D.lst (cut ds li hi')) = some d → rSlL X.K v li hi' W3.H Q := fun hd => by
    obtain ⟨ds, e4, z⟩ := map_some hd
    subst z
    obtain ⟨a, vs, rfl, h2, h3⟩ := R_asL e4 r3
    exact ⟨a, vs, rfl, h2, fun p hp => q _ (W3.frz p (cutV vs li hi')) [] (x13.trans (Ext.frz x3.ok hp)) (R_newL x3.ok hp (RL_cut h3))⟩
  cases x with
  | str s =>
    have hd2 : (if s.length ≤ LIM then some (D.str (cut s li hi')) else none) = some d := hd
    by_cases hl : s.length ≤ LIM
    · rw [if_pos hl] at hd2
      cases hd2
      refine .inr (.inr ⟨tr s, r3.1, by rw [tr_length]; exact lim_ok hl, q _ W3 [] x13 ⟨?_, rfl⟩⟩)
      show V.str (cutS (tr s) li hi') = V.str (tr (cut s li hi'))
      unfold cutS cut
      rw [tr_length]
    · rw [if_neg hl] at hd2
      cases hd2
  | tup ds =>
    have hd2 : (if dataL ds = true then some (D.tup (cut ds li hi')) else none) = some d := hd
    by_cases hl : dataL ds = true
    · rw [if_pos hl] at hd2
      cases hd2
      obtain ⟨a, vs, rfl, h2, h3⟩ := r3
      have z := RL_data ds hl h3
      subst z
      have ln := RL_len h3
      refine .inr (.inl ⟨a, vs, rfl, h2, fun hw => ?_, fun hw p hp => ?_⟩)
      · rw [ln] at hw
        rw [cut_all hw] at q
        exact q _ W3 [] x13 ⟨a, vs, rfl, h2, h3⟩
      · exact q _ (W3.put p (.tup (cutV vs li hi'))) [] (x13.trans (Ext.put x3.ok hp)) (R_newT x3.ok hp (RL_cut h3))
    · rw [if_neg hl] at hd2
      cases hd2
  | lst ds => exact .inl (viaL hd)
  | ml ds => exact .inl (viaL hd)
  | _ => cases hd
/-! ### built-ins -/
def CallD (X : Cx) (f : Value) (o : List D → Option D) : Prop := ∃ r : List V → Hp → VK → Prop, CallR X f r ∧ ∀ (W : Wd) (ds : List D) (vs : List V) (G : List Addr), WOk W → RL X.K W ds vs G → ∀ d, o ds = some d →
  ∀ Q : VK, (∀ v W' G, Ext W W' → R X.K W' d v G → Q v W'.H) → r vs W.H Q
def qCall (o : List D → Option D) (k : FA) : FQ := fun ρ μ => (k ρ μ).bind o
theorem runC {t : TA} {k : FA} {o : List D → Option D} {r : List V → Hp → VK → Prop}
    (k1 : ∀ (σ : L2.St) (W : Wd) (ρ μ : List D) (F : List Addr), Sta X.K W σ ρ μ F → ∀ ds, k ρ μ = some ds → ∀ Q : List V → Hp → Prop, (∀ vs W' G, Ext W W' → RL X.K W' ds vs G → Q vs W'.H) → t σ W.H Q)
    (k2 : ∀ (W : Wd) (ds : List D) (vs : List V) (G : List Addr), WOk W → RL X.K W ds vs G → ∀ d, o ds = some d → ∀ Q : VK, (∀ v W' G, Ext W W' → R X.K W' d v G → Q v W'.H) → r vs W.H Q)
    (σ : L2.St) (W : Wd) (ρ μ : List D) (F : List Addr) (S : Sta X.K W σ ρ μ F) (d : D) (hd : qCall o k ρ μ = some d) (Q : VK) (q : ∀ v W' G, Ext W W' → R X.K W' d v G → Q v W'.H) : tCB r t σ W.H Q := by
  obtain ⟨ds, e1, hd⟩ := bind_some hd
  refine k1 σ W ρ μ F S ds e1 _ fun vs W1 G1 x1 r1 => ?_
  exact k2 W1 ds vs G1 x1.ok r1 d hd _ fun v W2 G2 x2 r2 => q v W2 G2 (x1.trans x2) r2
theorem pq_callB {id : String} {x : Str} {p pos : Pos} {e : Expr} {es : List Expr} {k : FA} {o : List D → Option D} (h : CallD X (.builtin id) o) (hm : X.mg x = none) (hv : bootBuiltins x = some (.builtin id)) (ha : PAQ X (e :: es) k) (hg : Gl X x := by rfl)
    (hn : x ≠ "__name__" := by decide) (hdb : (x == ("__debug__" : Str)) = false := by decide) (he : starEach (e :: es) X.env = (false, eval e X.env) :: starEach es X.env := by rfl) (hpl : (backTo pos (starEach es X.env)).any (·.1) = false := by rfl) : PQ X (.Call (.Name x p) (e :: es) [] pos) (qCall o k) := by
  obtain ⟨r, hr, k2⟩ := h
  obtain ⟨t, pt, k1⟩ := ha
  exact ⟨_, pe_callB hr hg hm hv pt hn hdb he hpl, runC k1 k2⟩
theorem pq_callTy {T : String} {x : Str} {p pos : Pos} {e : Expr} {es : List Expr} {k : FA} {o : List D → Option D} (h : CallD X (.type T) o) (hm : X.mg x = none) (hv : bootBuiltins x = some (.type T)) (ha : PAQ X (e :: es) k) (hg : Gl X x := by rfl)
    (hn : x ≠ "__name__" := by decide) (hdb : (x == ("__debug__" : Str)) = false := by decide) (he : starEach (e :: es) X.env = (false, eval e X.env) :: starEach es X.env := by rfl) (hpl : (backTo pos (starEach es X.env)).any (·.1) = false := by rfl) : PQ X (.Call (.Name x p) (e :: es) [] pos) (qCall o k) := by
  obtain ⟨r, hr, k2⟩ := h
  obtain ⟨t, pt, k1⟩ := ha
  exact ⟨_, pe_callTy hr hg hm hv pt hn hdb he hpl, runC k1 k2⟩
/-- one argument -/
def o1 (g : D → Option D) : List D → Option D
  | [d] => g d
  | _ => none
def o2 (g : D → D → Option D) : List D → Option D
  | [d, e] => g d e
  | _ => none
theorem RL_one {W : Wd} {d : D} {vs : List V} {G : List Addr} (h : RL K W [d] vs G) : ∃ v, vs = [v] ∧ R K W d v G := by
  obtain ⟨v, vs', F1, F2, h1, h2, h3, h4⟩ := h
  obtain ⟨e1, e2⟩ := h3
  rw [h1, e1]
  rw [e2, List.append_nil] at h4
  exact ⟨v, rfl, by rw [h4]; exact h2⟩
theorem RL_two {W : Wd} {d e : D} {vs : List V} {G : List Addr} (h : RL K W [d, e] vs G) : ∃ u v G1 G2, vs = [u, v] ∧ R K W d u G1 ∧ R K W e v G2 := by
  obtain ⟨u, vs', F1, F2, h1, h2, h3, h4⟩ := h
  obtain ⟨v, e1, h5⟩ := RL_one h3
  exact ⟨u, v, F1, F2, by rw [h1, e1], h2, h5⟩
def dLen : D → Option D
  | .str s => if s.length ≤ LIM then some (.int s.length) else none
  | .tup ds => some (.int ds.length)
  | .lst ds => some (.int ds.length)
  | .ml ds => some (.int ds.length)
  | _ => none
theorem cd_len : CallD X (.builtin "len") (o1 dLen) := by
  refine ⟨_, call_len, fun W ds vs G ok r d hd Q q => ?_⟩
  match ds, hd with
  | [x], hd =>
    obtain ⟨v, rfl, r1⟩ := RL_one r
    have hd : dLen x = some d := hd
    cases x with
    | str s =>
      have hd2 : (if s.length ≤ LIM then some (D.int s.length) else none) = some d := hd
      by_cases hl : s.length ≤ LIM
      · rw [if_pos hl] at hd2
        cases hd2
        obtain ⟨rfl, _⟩ := r1
        exact ⟨_, s.length, rfl, ⟨by rw [tr_length]; exact lim_ok hl, (tr_length s).symm⟩, q _ W [] (Ext.refl ok) ⟨rfl, rfl⟩⟩
      · rw [if_neg hl] at hd2
        cases hd2
    | tup es =>
      cases hd
      obtain ⟨a, ws, rfl, h2, h3⟩ := r1
      exact ⟨_, es.length, rfl, .inr ⟨ws, h2, (RL_len h3).symm⟩, q _ W [] (Ext.refl ok) ⟨rfl, rfl⟩⟩
    | lst es =>
      cases hd
      obtain ⟨a, ws, rfl, h2, h3, _⟩ := r1
      exact ⟨_, es.length, rfl, .inl ⟨ws, h2.sq, (RL_len h3).symm⟩, q _ W [] (Ext.refl ok) ⟨rfl, rfl⟩⟩
    | ml es =>
      cases hd
      obtain ⟨a, ws, F', rfl, h2, h3, _⟩ := r1
      exact ⟨_, es.length, rfl, .inl ⟨ws, Evl.sq_of h2, (RL_len h3).symm⟩, q _ W [] (Ext.refl ok) ⟨rfl, rfl⟩⟩
    | _ => cases hd
def boolsD : List D → Option (List Bool)
  | [] => some []
  | .bl b :: ds => (boolsD ds).map fun bs => b :: bs
  | _ => none
theorem R_bools {W : Wd} : ∀ {ds : List D} {bs : List Bool} {vs : List V} {G : List Addr}, boolsD ds = some bs → RL K W ds vs G → vs = bs.map V.bl
  | [], _, _, _, h, r => by
    cases h
    exact r.1
  | d :: ds, bs, _, _, h, r => by
    obtain ⟨v, vs', F1, F2, h1, h2, h3, _⟩ := r
    cases d with
    | bl b =>
      obtain ⟨us, e2, z⟩ := map_some (show (boolsD ds).map (fun bs => b :: bs) = some bs from h)
      rw [← z, h1, h2.1, R_bools e2 h3]
      rfl
    | _ => cases h
def intsD : List D → Option (List Int)
  | [] => some []
  | .int b :: ds => (intsD ds).map fun bs => b :: bs
  | _ => none
theorem R_ints {W : Wd} : ∀ {ds : List D} {bs : List Int} {vs : List V} {G : List Addr}, intsD ds = some bs → RL K W ds vs G → vs = bs.map V.int
  | [], _, _, _, h, r => by
    cases h
    exact r.1
  | d :: ds, bs, _, _, h, r => by
    obtain ⟨v, vs', F1, F2, h1, h2, h3, _⟩ := r
    cases d with
    | int b =>
      obtain ⟨us, e2, z⟩ := map_some (show (intsD ds).map (fun bs => b :: bs) = some bs from h)
      rw [← z, h1, h2.1, R_ints e2 h3]
      rfl
    | _ => cases h
def strsD : List D → Option (List (List Nat))
  | [] => some []
  | .str b :: ds => (strsD ds).map fun bs => b :: bs
  | _ => none
theorem R_strs {W : Wd} : ∀ {ds : List D} {bs : List (List Nat)} {vs : List V} {G : List Addr}, strsD ds = some bs → RL K W ds vs G → vs = (bs.map tr).map V.str
  | [], _, _, _, h, r => by
    cases h
    exact r.1
  | d :: ds, bs, _, _, h, r => by
    obtain ⟨v, vs', F1, F2, h1, h2, h3, _⟩ := r
    cases d with
    | str b =>
      obtain ⟨us, e2, z⟩ := map_some (show (strsD ds).map (fun bs => b :: bs) = some bs from h)
      rw [← z, h1, h2.1, R_strs e2 h3]
      rfl
    | _ => cases h
theorem cd_all (hc : X.calm = true) : CallD X (.builtin "all") (o1 fun x => (asL x).bind fun ds => (boolsD ds).map fun bs => .bl (bs.all id)) := by
  refine ⟨_, cr_all hc, fun W ds vs G ok r d hd Q q => ?_⟩
  match ds, hd with
  | [x], hd =>
    obtain ⟨v, rfl, r1⟩ := RL_one r
    obtain ⟨es, e1, hd⟩ := bind_some (show (asL x).bind (fun ds => (boolsD ds).map fun bs => D.bl (bs.all id)) = some d from hd)
    obtain ⟨bs, e2, z⟩ := map_some hd
    obtain ⟨a, ws, rfl, h2, h3⟩ := R_asL e1 r1
    rw [R_bools e2 h3] at h2
    subst z
    exact ⟨a, bs, rfl, h2, q _ W [] (Ext.refl ok) ⟨rfl, rfl⟩⟩
theorem cd_any (hc : X.calm = true) : CallD X (.builtin "any") (o1 fun x => (asL x).bind fun ds => (boolsD ds).map fun bs => .bl (bs.any id)) := by
  refine ⟨_, cr_any hc, fun W ds vs G ok r d hd Q q => ?_⟩
  match ds, hd with
  | [x], hd =>
    obtain ⟨v, rfl, r1⟩ := RL_one r
    obtain ⟨es, e1, hd⟩ := bind_some (show (asL x).bind (fun ds => (boolsD ds).map fun bs => D.bl (bs.any id)) = some d from hd)
    obtain ⟨bs, e2, z⟩ := map_some hd
    obtain ⟨a, ws, rfl, h2, h3⟩ := R_asL e1 r1
    rw [R_bools e2 h3] at h2
    subst z
    exact ⟨a, bs, rfl, h2, q _ W [] (Ext.refl ok) ⟨rfl, rfl⟩⟩
theorem cd_sum (hc : X.calm = true) : CallD X (.builtin "sum") (o1 fun x => (asL x).bind fun ds => (intsD ds).map fun bs => .int bs.sum) := by
  refine ⟨_, cr_sum hc, fun W ds vs G ok r d hd Q q => ?_⟩
  match ds, hd with
  | [x], hd =>
    obtain ⟨v, rfl, r1⟩ := RL_one r
    obtain ⟨es, e1, hd⟩ := bind_some (show (asL x).bind (fun ds => (intsD ds).map fun bs => D.int bs.sum) = some d from hd)
    obtain ⟨bs, e2, z⟩ := map_some hd
    obtain ⟨a, ws, rfl, h2, h3⟩ := R_asL e1 r1
    rw [R_ints e2 h3] at h2
    subst z
    exact ⟨a, bs, rfl, h2, q _ W [] (Ext.refl ok) ⟨rfl, rfl⟩⟩
/-- tuple(a list | a tuple) -/
def dTuple : D → Option D
  | .tup ds => some (.tup ds)
  | x => (asL x).map .tup
theorem cd_tuple : CallD X (.type "tuple") (o1 dTuple) := by
  refine ⟨_, call_tuple_of, fun W ds vs G ok r d hd Q q => ?_⟩
  match ds, hd with
  | [x], hd =>
    obtain ⟨v, rfl, r1⟩ := RL_one r
    have viaL : (asL x).map D.tup = some d → ∃ p ys, [v] = [.ref p] ∧ ((SqL X.K W.H p ys ∧ ∀ l, W.H l = none → Q (.ref l) (upd W.H l (.tup ys))) ∨ (SqT X.K W.H p ys ∧ Q (.ref p) W.H)) := fun hd => by
      obtain ⟨es, e1, z⟩ := map_some hd
      subst z
      obtain ⟨a, ws, rfl, h2, h3⟩ := R_asL e1 r1
      exact ⟨a, ws, rfl, .inl ⟨h2, fun l hl => q _ (W.put l (.tup ws)) [] (Ext.put ok hl) (R_newT ok hl h3)⟩⟩
    cases x with
    | tup es =>
      cases hd
      obtain ⟨a, ws, rfl, h2, h3⟩ := r1
      exact ⟨a, ws, rfl, .inr ⟨h2, q _ W G (Ext.refl ok) ⟨a, ws, rfl, h2, h3⟩⟩⟩
    | _ => exact viaL hd
theorem cd_str : CallD X (.type "str") (o1 fun x => match x with | .int i => if i.natAbs.log2 < 1920 then some (.str (ofS (toString i))) else none | _ => none) := by
  refine ⟨_, call_str_int, fun W ds vs G ok r d hd Q q => ?_⟩
  match ds, hd with
  | [x], hd =>
    obtain ⟨v, rfl, r1⟩ := RL_one r
    cases x with
    | int i =>
      have hd2 : (if i.natAbs.log2 < 1920 then some (D.str (ofS (toString i))) else none) = some d := hd
      by_cases hl : i.natAbs.log2 < 1920
      · rw [if_pos hl] at hd2
        cases hd2
        obtain ⟨rfl, _⟩ := r1
        exact ⟨i, rfl, hl, q _ W [] (Ext.refl ok) ⟨congrArg V.str (tr_ofS _), rfl⟩⟩
      · rw [if_neg hl] at hd2
        cases hd2
    | _ => cases hd
def dDivmod : D → D → Option D
  | .int i, .int j => if 0 < j ∧ j < 1073741824 then some (.tup [.int (i / j), .int (i % j)]) else none
  | _, _ => none
theorem cd_divmod : CallD X (.builtin "divmod") (o2 dDivmod) := by
  refine ⟨_, call_divmod, fun W ds vs G ok r d hd Q q => ?_⟩
  match ds, hd with
  | [x, y], hd =>
    obtain ⟨u, v, G1, G2, rfl, r1, r2⟩ := RL_two r
    cases x with
    | int i =>
      cases y with
      | int j =>
        have hd2 : (if 0 < j ∧ j < 1073741824 then some (D.tup [.int (i / j), .int (i % j)]) else none) = some d := hd
        by_cases hl : 0 < j ∧ j < 1073741824
        · rw [if_pos hl] at hd2
          cases hd2
          obtain ⟨rfl, _⟩ := r1
          obtain ⟨rfl, _⟩ := r2
          exact ⟨i, j, rfl, hl, fun p hp => q _ (W.put p (.tup [.int (i / j), .int (i % j)])) [] (Ext.put ok hp) (R_newT ok hp ⟨_, _, [], [], rfl, ⟨rfl, rfl⟩, ⟨_, _, [], [], rfl, ⟨rfl, rfl⟩, ⟨rfl, rfl⟩, rfl⟩, rfl⟩)⟩
        · rw [if_neg hl] at hd2
          cases hd2
      | _ => cases hd
    | _ => cases y <;> cases hd
theorem cd_min (hc : X.calm = true) : CallD X (.builtin "min") (o2 fun x y => match x, y with | .int i, .int j => some (.int (if j < i then j else i)) | _, _ => none) := by
  refine ⟨_, call_min2 hc, fun W ds vs G ok r d hd Q q => ?_⟩
  match ds, hd with
  | [x, y], hd =>
    obtain ⟨u, v, G1, G2, rfl, r1, r2⟩ := RL_two r
    cases x with
    | int i =>
      cases y with
      | int j =>
        cases hd
        obtain ⟨rfl, _⟩ := r1
        obtain ⟨rfl, _⟩ := r2
        exact ⟨i, j, rfl, q _ W [] (Ext.refl ok) ⟨rfl, rfl⟩⟩
      | _ => cases hd
    | _ => cases y <;> cases hd
theorem cd_max (hc : X.calm = true) : CallD X (.builtin "max") (o2 fun x y => match x, y with | .int i, .int j => some (.int (if j > i then j else i)) | _, _ => none) := by
  refine ⟨_, call_max2 hc, fun W ds vs G ok r d hd Q q => ?_⟩
  match ds, hd with
  | [x, y], hd =>
    obtain ⟨u, v, G1, G2, rfl, r1, r2⟩ := RL_two r
    cases x with
    | int i =>
      cases y with
      | int j =>
        cases hd
        obtain ⟨rfl, _⟩ := r1
        obtain ⟨rfl, _⟩ := r2
        exact ⟨i, j, rfl, q _ W [] (Ext.refl ok) ⟨rfl, rfl⟩⟩
      | _ => cases hd
    | _ => cases y <;> cases hd
/-! ### isinstance of a built-in class -/
def tyN : D → Option String
  | .non => some "NoneType"
  | .bl _ => some "bool"
  | .int _ => some "int"
  | .str _ => some "str"
  | .lst _ => some "list"
  | .ml _ => some "list"
  | .tup _ => some "tuple"
  | _ => none
theorem R_ty {W : Wd} {d : D} {n : String} {v : V} {G : List Addr} (h : tyN d = some n) (r : R K W d v G) : TyX K W.H v (.type n) := by
  cases d with
  | non => cases h; rw [r.1]; exact .base .non
  | bl b => cases h; rw [r.1]; exact .base (.bl b)
  | int i => cases h; rw [r.1]; exact .base (.int i)
  | str s => cases h; rw [r.1]; exact .base (.str _)
  | lst ds =>
    cases h
    obtain ⟨a, vs, rfl, h2, _⟩ := r
    rcases h2.sq (K := K) with (h2 | ⟨o, h2⟩) | ⟨o, its, n, h2, h3, _⟩
    · exact .base (.lst h2)
    · exact .base (.frz h2)
    · exact .kList h2 h3
  | ml ds =>
    cases h
    obtain ⟨a, vs, F', rfl, h2, _⟩ := r
    exact .base (.lst h2)
  | tup ds =>
    cases h
    obtain ⟨a, vs, rfl, h2, _⟩ := r
    rcases h2 with (h2 | ⟨o, h2⟩) | ⟨o, its, n, h2, h3, _⟩
    · exact .base (.tup h2)
    · exact .fTuple h2
    · exact .kTuple h2 h3
  | _ => cases h
/-- a built-in class by its name in a call -/
def qIsi (T : String) (f : FQ) : FQ := fun ρ μ => (f ρ μ).bind fun d => (tyN d).bind fun n => (kitB n T).map D.bl
theorem pq_isi {T : String} {x : Str} {px p pos : Pos} {e : Expr} {f : FQ} (he : PQ X e f) (hmi : X.mg "isinstance" = none) (hmx : X.mg x = none) (hv : bootBuiltins x = some (.type T)) (hgi : Gl X "isinstance" := by rfl) (hg : Gl X x := by rfl)
    (hvi : bootBuiltins "isinstance" = some (.builtin "isinstance") := by decide +kernel) (hn : x ≠ "__name__" := by decide) (hd : (x == ("__debug__" : Str)) = false := by decide)
    (hs1 : starEach [e, .Name x px] X.env = (false, eval e X.env) :: starEach [.Name x px] X.env := by rfl) (hs2 : starEach [.Name x px] X.env = (false, eval (.Name x px) X.env) :: starEach [] X.env := by rfl) (hpl : (backTo pos (starEach [.Name x px] X.env)).any (·.1) = false := by rfl) :
    PQ X (.Call (.Name "isinstance" p) [e, .Name x px] [] pos) (qIsi T f) := by
  obtain ⟨t, pt, k1⟩ := he
  refine ⟨_, pe_callB call_isi hgi hmi hvi (pa_cons pt (pa_cons (pe_bltn (v := .ty T) hg hmx hv rfl hn hd) pa_nil hs2) hs1) (by decide) (by decide) hs1 hpl, fun σ W ρ μ F S d hd Q q => ?_⟩
  obtain ⟨x', e1, hd⟩ := bind_some hd
  obtain ⟨n, e2, hd⟩ := bind_some hd
  obtain ⟨b, e3, z⟩ := map_some hd
  subst z
  refine k1 σ W ρ μ F S x' e1 _ fun v W1 G1 x1 r1 => ?_
  exact ⟨v, .ty T, .type n, .type T, b, rfl, .ty T, R_ty e2 r1, kit_ty e3, q _ W1 [] x1 ⟨rfl, rfl⟩⟩
end
end Fw
/-! # what is walked, targets, comprehensions, calls of quiet defs, methods of texts -/
namespace Fw
open PySem PySem.Spec PyProof.Rows L2
open Evl (Ex)
/-- J yields ds, one by one, in every world that is Rel to W0 -/
structure ItD (K : PySem.W.Frag) (J : It) (W0 : Wd) (ds : List D) (Rel : Wd → Wd → Prop) : Prop where
  go : ∀ i W, Rel W0 W → i < ds.length → J.go i W.H
  st : ∀ i W, Rel W0 W → ds.length ≤ i → J.stop i W.H
  yl : ∀ i W x H', Rel W0 W → WOk W → i < ds.length → J.yld i W.H x H' → ∃ W' d, W'.H = H' ∧ ds[i]? = some d ∧ Ext W W' ∧ R K W' d x []
/-- walked while nothing changes; while what stands still stays -/
def PIQ (X : Cx) (tg e : Expr) (f : FA) : Prop := ∃ wi : TI, PI X tg e wi ∧ ∀ (σ : L2.St) (W : Wd) (ρ μ : List D) (F : List Addr), Sta X.K W σ ρ μ F → ∀ ds, f ρ μ = some ds →
  ∀ Q : It → Hp → Prop, (∀ J W', Ext W W' → ItD X.K J W' ds Ext → Q J W'.H) → wi σ W.H Q
def PIF (X : Cx) (tg e : Expr) (f : FA) : Prop := ∃ wi : TI, PI X tg e wi ∧ ∀ (σ : L2.St) (W : Wd) (ρ μ : List D) (F : List Addr), Sta X.K W σ ρ μ F → ∀ ds, f ρ μ = some ds →
  ∀ Q : It → Hp → Prop, (∀ J W', Ext W W' → ItD X.K J W' ds Lt → Q J W'.H) → wi σ W.H Q
theorem PIF.piq {X : Cx} {tg e : Expr} {f : FA} (h : PIF X tg e f) : PIQ X tg e f := by
  obtain ⟨wi, p, k⟩ := h
  exact ⟨wi, p, fun σ W ρ μ F S ds hd Q q => k σ W ρ μ F S ds hd Q fun J W' x it => q J W' x ⟨fun i W2 r => it.go i W2 r.lt, fun i W2 r => it.st i W2 r.lt, fun i W2 y H' r => it.yl i W2 y H' r.lt⟩⟩
/-! ### lists, tuples, texts -/
def iAny (K : PySem.W.Frag) (tl : TE) : TI := fun σ H Q => tl σ H fun x H1 => (∃ a xs, x = .ref a ∧ SqL K H1 a xs ∧ Q (Itl K a) H1) ∨ (∃ a xs, x = .ref a ∧ SqT K H1 a xs ∧ Q (Itt K a) H1) ∨ (∃ z, x = .str z ∧ Q (Its z) H1)
theorem pi_any {X : Cx} {tg l : Expr} {tl : TE} (hl : PE X l tl) : PI X tg l (iAny X.K tl) := by
  refine ⟨fun pins s σ H Rk I h => thn (hl.run pins s σ H _ I h) ?_⟩
  rintro v s1 ⟨x, H1, I1, r1, ⟨a, xs, rfl, hq, q⟩ | ⟨a, xs, rfl, hq, q⟩ | ⟨z, rfl, q⟩⟩
  · cases r1
    obtain ⟨its, rv, pl, hz⟩ := I1.list hq
    exact wpAny_pyIter_list pl.isList (pi_one (tk := s1.toks) I1 _ (turn_list a _) ⟨_, Heap.get?_push_size _ rfl, rfl, rfl⟩ q)
  · cases r1
    obtain ⟨its, rv, pl, hz⟩ := I1.tuple hq
    exact wpAny_pyIter_tuple (show s1.heap.IsTuple a its.toArray from pl) (pi_one (tk := s1.toks) I1 _ (turn_tuple a _) ⟨_, Heap.get?_push_size _ rfl, rfl, rfl⟩ q)
  · obtain ⟨t, rfl⟩ := r1
    cases ha : z.cps.all (· < 128)
    · exact wpAny_pyIter_wide ha (pi_one (tk := s1.toks) I1 _ (turn_str _ z t "str_iterator" (.inr rfl)) ⟨_, Heap.get?_push_size _ rfl, rfl, rfl⟩ q)
    · exact wpAny_pyIter_ascii ha (pi_one (tk := s1.toks) I1 _ (turn_str _ z t "str_ascii_iterator" (.inl rfl)) ⟨_, Heap.get?_push_size _ rfl, rfl, rfl⟩ q)
section
variable {K : PySem.W.Frag} {W0 : Wd}
theorem it_list {Rel : Wd → Wd → Prop} {a : Addr} {vs : List V} {ds : List D} (hs : ∀ W, Rel W0 W → SqL K W.H a vs) (hr : ∀ W, Rel W0 W → RL K W ds vs []) : ItD K (Itl K a) W0 ds Rel where
  go := fun i W r hi => by
    have hl := RL_len (hr W r)
    exact ⟨vs, vs[i]'(by omega), hs W r, by simp [hl, hi]⟩
  st := fun i W r hi => ⟨vs, hs W r, by rw [RL_len (hr W r)]; exact hi⟩
  yl := fun i W x H' r ok hi y => by
    obtain ⟨e, y⟩ := y
    have y1 := y vs (hs W r)
    obtain ⟨v, G, q1, q2, q3⟩ := RL_get (hr W r) (List.getElem?_eq_getElem hi)
    rw [y1] at q1
    cases q1
    have z : G = [] := List.eq_nil_iff_forall_not_mem.mpr fun b hb => by
      have := q3 b hb
      cases this
    subst z
    exact ⟨W, _, e.symm, List.getElem?_eq_getElem hi, Ext.refl ok, q2⟩
theorem it_tup {Rel : Wd → Wd → Prop} {a : Addr} {vs : List V} {ds : List D} (hs : ∀ W, Rel W0 W → SqT K W.H a vs) (hr : ∀ W, Rel W0 W → RL K W ds vs []) : ItD K (Itt K a) W0 ds Rel where
  go := fun i W r hi => by
    have hl := RL_len (hr W r)
    exact ⟨vs, vs[i]'(by omega), hs W r, by simp [hl, hi]⟩
  st := fun i W r hi => ⟨vs, hs W r, by rw [RL_len (hr W r)]; exact hi⟩
  yl := fun i W x H' r ok hi y => by
    obtain ⟨e, y⟩ := y
    have y1 := y vs (hs W r)
    obtain ⟨v, G, q1, q2, q3⟩ := RL_get (hr W r) (List.getElem?_eq_getElem hi)
    rw [y1] at q1
    cases q1
    have z : G = [] := List.eq_nil_iff_forall_not_mem.mpr fun b hb => by
      have := q3 b hb
      cases this
    subst z
    exact ⟨W, _, e.symm, List.getElem?_eq_getElem hi, Ext.refl ok, q2⟩
theorem it_str {Rel : Wd → Wd → Prop} {z : List Nat} : ItD K (Its (tr z)) W0 (z.map fun c => .str [c]) Rel where
  go := fun i W r hi => by
    rw [List.length_map] at hi
    show i < z.toArray.size
    rw [List.size_toArray]
    exact hi
  st := fun i W r hi => by
    rw [List.length_map] at hi
    show z.toArray.size ≤ i
    rw [List.size_toArray]
    exact hi
  yl := fun i W x H' r ok hi y => by
    rw [List.length_map] at hi
    obtain ⟨e, c, h1, rfl⟩ := y
    have h2 : z.toArray[i]? = some c := h1
    rw [List.getElem?_toArray] at h2
    exact ⟨W, .str [c], e.symm, by rw [List.getElem?_map, h2]; rfl, Ext.refl ok, rfl, rfl⟩
end
/-- the items of what stands still | of any such thing -/
def itemsF : D → Option (List D)
  | .lst ds => some ds
  | .tup ds => if dataL ds = true then some ds else none
  | .str s => some (s.map fun c => .str [c])
  | _ => none
def itemsQ : D → Option (List D)
  | .ml ds => if dataL ds = true then some ds else none
  | d => itemsF d
def aF (f : FQ) : FA := fun ρ μ => (f ρ μ).bind itemsF
def aQ (f : FQ) : FA := fun ρ μ => (f ρ μ).bind itemsQ
section
variable {X : Cx} {tg e : Expr} {f : FQ}
theorem items_run {Rel : Wd → Wd → Prop} (hR : ∀ {W W' : Wd}, Rel W W' → Lt W W') {W : Wd} {d : D} {ds : List D} {v : V} {G : List Addr} (hd : itemsF d = some ds) (r : R X.K W d v G) (Q : It → Hp → Prop) (q : ∀ J, ItD X.K J W ds Rel → Q J W.H) :
    (∃ a xs, v = .ref a ∧ SqL X.K W.H a xs ∧ Q (Itl X.K a) W.H) ∨ (∃ a xs, v = .ref a ∧ SqT X.K W.H a xs ∧ Q (Itt X.K a) W.H) ∨ (∃ z, v = .str z ∧ Q (Its z) W.H) := by
  cases d with
  | lst es =>
    cases hd
    obtain ⟨a, vs, rfl, h2, h3, _⟩ := r
    exact .inl ⟨a, vs, rfl, h2.sq, q _ (it_list (fun W2 r2 => (h2.lt (hR r2)).sq) fun W2 r2 => RL_lt (hR r2) _ h3)⟩
  | tup es =>
    have hd2 : (if dataL es = true then some es else none) = some ds := hd
    by_cases hl : dataL es = true
    · rw [if_pos hl] at hd2
      cases hd2
      obtain ⟨a, vs, rfl, h2, h3⟩ := r
      have z := RL_data ds hl h3
      subst z
      exact .inr (.inl ⟨a, vs, rfl, h2, q _ (it_tup (fun W2 r2 => (hR r2).sqT h2) fun W2 r2 => RL_lt (hR r2) _ h3)⟩)
    · rw [if_neg hl] at hd2
      cases hd2
  | str s =>
    cases hd
    obtain ⟨rfl, _⟩ := r
    exact .inr (.inr ⟨_, rfl, q _ it_str⟩)
  | _ => cases hd
theorem pif_any (h : PQ X e f) : PIF X tg e (aF f) := by
  obtain ⟨t1, p1, k1⟩ := h
  refine ⟨_, pi_any p1, fun σ W ρ μ F S ds hd Q q => ?_⟩
  obtain ⟨d, e1, hd⟩ := bind_some hd
  refine k1 σ W ρ μ F S d e1 _ fun v W1 G1 x1 r1 => ?_
  exact items_run (Rel := Lt) (fun r => r) hd r1 Q fun J it => q J W1 x1 it
theorem piq_any (h : PQ X e f) : PIQ X tg e (aQ f) := by
  obtain ⟨t1, p1, k1⟩ := h
  refine ⟨_, pi_any p1, fun σ W ρ μ F S ds hd Q q => ?_⟩
  obtain ⟨d, e1, hd⟩ := bind_some hd
  refine k1 σ W ρ μ F S d e1 _ fun v W1 G1 x1 r1 => ?_
  cases d with
  | ml es =>
    have hd2 : (if dataL es = true then some es else none) = some ds := hd
    by_cases hl : dataL es = true
    · rw [if_pos hl] at hd2
      cases hd2
      obtain ⟨a, vs, F', rfl, h2, h3, _⟩ := r1
      have z := RL_data ds hl h3
      subst z
      exact .inl ⟨a, vs, rfl, Evl.sq_of h2, q _ W1 x1 (it_list (fun W2 r2 => Evl.sq_of (r2.ex _ _ h2)) fun W2 r2 => RL_ext r2 _ h3)⟩
    · rw [if_neg hl] at hd2
      cases hd2
  | _ => exact items_run (Rel := Ext) (fun r => r.lt) (by exact hd) r1 Q fun J it => q J W1 x1 it
/-! ### ranges -/
def rangeD (lo hi : Int) : List D := (List.range (hi - lo).toNat).map fun (i : Nat) => .int (lo + (i : Int))
def small62 (i : Int) : Bool := decide (-4611686018427387904 ≤ i ∧ i < 4611686018427387904)
def aR1 (f : FQ) : FA := fun ρ μ => match f ρ μ with
  | some (.int j) => if small62 j = true then some (rangeD 0 j) else none
  | _ => none
def aR2 (f g : FQ) : FA := fun ρ μ => match f ρ μ, g ρ μ with
  | some (.int i), some (.int j) => if small62 i = true ∧ small62 j = true then some (rangeD i j) else none
  | _, _ => none
theorem it_range {K : PySem.W.Frag} {W0 : Wd} {Rel : Wd → Wd → Prop} {lo hi : Int} : ItD K (Itr lo (hi - lo).toNat) W0 (rangeD lo hi) Rel where
  go := fun i W r h => by
    unfold rangeD at h
    rw [List.length_map, List.length_range] at h
    exact h
  st := fun i W r h => by
    unfold rangeD at h
    rw [List.length_map, List.length_range] at h
    exact h
  yl := fun i W x H' r ok h y => by
    obtain ⟨e, rfl⟩ := y
    unfold rangeD at h ⊢
    rw [List.length_map, List.length_range] at h
    exact ⟨W, .int (lo + (i : Int)), e.symm, by rw [List.getElem?_map, List.getElem?_range h]; rfl, Ext.refl ok, rfl, rfl⟩
theorem sm62 {i : Int} (h : small62 i = true) : -(2 ^ 62) ≤ i ∧ i < 2 ^ 62 := by
  have z : -4611686018427387904 ≤ i ∧ i < 4611686018427387904 := of_decide_eq_true h
  omega
theorem pif_range1 {a : Expr} {p pos : Pos} (ha : PQ X a f) (hm : X.mg "range" = none) (hg : Gl X "range" := by rfl) (hs : starEach [a] X.env = [(false, eval a X.env)] := by rfl) : PIF X tg (.Call (.Name "range" p) [a] [] pos) (aR1 f) := by
  obtain ⟨t1, p1, k1⟩ := ha
  refine ⟨_, pi_range1 hg hm (pa_cons p1 pa_nil hs) hs, fun σ W ρ μ F S ds hd Q q => ?_⟩
  unfold aR1 at hd
  cases e1 : f ρ μ with
  | none => rw [e1] at hd; cases hd
  | some d =>
    rw [e1] at hd
    refine k1 σ W ρ μ F S d e1 _ fun v W1 G1 x1 r1 => ?_
    cases d with
    | int j =>
      have hd2 : (if small62 j = true then some (rangeD 0 j) else none) = some ds := hd
      by_cases hl : small62 j = true
      · rw [if_pos hl] at hd2
        cases hd2
        have z := sm62 hl
        have z2 : j.toNat = (j - 0).toNat := by rw [Int.sub_zero]
        refine ⟨j, congrArg (fun z => [z]) r1.1, z.1, z.2, ?_⟩
        rw [z2]
        exact q _ W1 x1 it_range
      · rw [if_neg hl] at hd2
        cases hd2
    | _ => cases hd
theorem pif_range2 {a b : Expr} {g : FQ} {p pos : Pos} (ha : PQ X a f) (hb : PQ X b g) (hm : X.mg "range" = none) (hg : Gl X "range" := by rfl) (hs : starEach [a, b] X.env = [(false, eval a X.env), (false, eval b X.env)] := by rfl)
    (hs2 : starEach [b] X.env = [(false, eval b X.env)] := by rfl) : PIF X tg (.Call (.Name "range" p) [a, b] [] pos) (aR2 f g) := by
  obtain ⟨t1, p1, k1⟩ := ha
  obtain ⟨t2, p2, k2⟩ := hb
  refine ⟨_, pi_range2 hg hm (pa_cons p1 (pa_cons p2 pa_nil hs2) (hs.trans (congrArg _ hs2.symm))) hs hs2, fun σ W ρ μ F S ds hd Q q => ?_⟩
  unfold aR2 at hd
  cases e1 : f ρ μ with
  | none => rw [e1] at hd; cases hd
  | some d =>
    cases e2 : g ρ μ with
    | none => rw [e1, e2] at hd; cases d <;> cases hd
    | some d' =>
      rw [e1, e2] at hd
      refine k1 σ W ρ μ F S d e1 _ fun v W1 G1 x1 r1 => ?_
      refine k2 σ W1 ρ μ F (S.ext x1) d' e2 _ fun v' W2 G2 x2 r2 => ?_
      cases d with
      | int i =>
        cases d' with
        | int j =>
          have hd2 : (if small62 i = true ∧ small62 j = true then some (rangeD i j) else none) = some ds := hd
          by_cases hl : small62 i = true ∧ small62 j = true
          · rw [if_pos hl] at hd2
            cases hd2
            have z1 := sm62 hl.1
            have z2 := sm62 hl.2
            obtain ⟨rfl, _⟩ := r1
            obtain ⟨rfl, _⟩ := r2
            exact ⟨i, j, rfl, ⟨z1.1, z1.2, z2.1, z2.2⟩, q _ W2 (x1.trans x2) it_range⟩
          · rw [if_neg hl] at hd2
            cases hd2
        | _ => cases hd
      | _ => cases d' <;> cases hd
/-! ### targets -/
def PGD (X : Cx) (tg : Expr) (vs : List Nat) (t : D → List D → Option (List D)) : Prop := ∃ g : TG, PG X tg g ∧ ∀ (σ : L2.St) (W : Wd) (ρ μ : List D) (F : List Addr) (d : D) (v : V), Sta X.K W σ ρ μ F → R X.K W d v [] → ∀ ρ', t d ρ = some ρ' →
  ∀ Q : L2.St → Hp → Prop, (∀ σ' F', Sta X.K W σ' ρ' μ F' → (∀ a ∈ F', a ∈ F) → wipe σ' vs = wipe σ vs → Q σ' W.H) → g v σ W.H Q
def tgN (i : Nat) : D → List D → Option (List D) := fun d ρ => if data d = true then some (ρ.set i d) else none
theorem data_ne {d : D} (h : data d = true) : d ≠ .un := fun z => by rw [z] at h; cases h
theorem R1_of {K : PySem.W.Frag} {W : Wd} {d : D} {v : V} {G : List Addr} (r : R K W d v G) : R1 K W d (some v) G := R1_iff.mpr (.inr ⟨v, rfl, r⟩)
theorem wipe_set : ∀ {vs : List Nat} {i : Nat} {o : Option V} {σ : L2.St}, i ∈ vs → wipe (σ.set i o) vs = wipe σ vs
  | [], i, o, σ, h => by cases h
  | v :: vs, i, o, σ, h => by
    show (wipe (σ.set i o) vs).set v none = (wipe σ vs).set v none
    by_cases e : i ∈ vs
    · rw [wipe_set e]
    · have ev : i = v := by
        rcases List.mem_cons.mp h with h | h
        · exact h
        · exact absurd h e
      subst ev
      have comm : ∀ (us : List Nat) (τ : L2.St), i ∉ us → wipe (τ.set i o) us = (wipe τ us).set i o := by
        intro us
        induction us with
        | nil => intro τ _; rfl
        | cons u us ih =>
          intro τ hu
          show (wipe (τ.set i o) us).set u none = ((wipe τ us).set u none).set i o
          rw [ih τ fun z => hu (List.mem_cons_of_mem _ z)]
          exact List.set_comm _ _ fun z => hu (by rw [z]; exact List.mem_cons_self ..)
      rw [comm vs σ e, List.set_set]
theorem wipe_idem : ∀ (vs : List Nat) (σ : L2.St), wipe (wipe σ vs) vs = wipe σ vs := by
  intro vs σ
  have key : ∀ (us : List Nat) (τ : L2.St), (∀ u ∈ us, u ∈ vs) → wipe (wipe τ us) vs = wipe τ vs := by
    intro us
    induction us with
    | nil => intro τ _; rfl
    | cons u us ih =>
      intro τ h
      show wipe ((wipe τ us).set u none) vs = wipe τ vs
      rw [wipe_set (h u (List.mem_cons_self ..)), ih τ fun z hz => h z (List.mem_cons_of_mem _ hz)]
  exact key vs σ fun u hu => hu
theorem pgd_name {vs : List Nat} {i : Nat} {x : Str} {pos : Pos} (h : PG X (.Name x pos) (gName i)) (hi : i ∈ vs := by decide) : PGD X (.Name x pos) vs (tgN i) := by
  refine ⟨_, h, fun σ W ρ μ F d v S r ρ' hr Q q => ?_⟩
  unfold tgN at hr
  by_cases hl : data d = true
  · rw [if_pos hl] at hr
    cases hr
    obtain ⟨F', S', sub⟩ := S.set (i := i) (R1_of r)
    exact q _ F' S' sub (wipe_set hi)
  · rw [if_neg hl] at hr
    cases hr
/-- several names out of a tuple -/
def tgs : List Nat → List D → List D → Option (List D)
  | [], [], ρ => some ρ
  | i :: is, d :: ds, ρ => (tgN i d ρ).bind fun ρ' => tgs is ds ρ'
  | _, _, _ => none
def tgT (is : List Nat) : D → List D → Option (List D) := fun d ρ => match d with
  | .tup ds => tgs is ds ρ
  | _ => none
def gNames : List Nat → TGs
  | [] => gNil
  | i :: is => gCons (gName i) (gNames is)
theorem tgs_run {K : PySem.W.Frag} {vs : List Nat} : ∀ (is : List Nat) {ds : List D} {us : List V} {σ : L2.St} {W : Wd} {ρ μ ρ' : List D} {F : List Addr}, (∀ i ∈ is, i ∈ vs) → Sta K W σ ρ μ F → RL K W ds us [] → tgs is ds ρ = some ρ' →
    ∀ Q : L2.St → Hp → Prop, (∀ σ' F', Sta K W σ' ρ' μ F' → (∀ a ∈ F', a ∈ F) → wipe σ' vs = wipe σ vs → Q σ' W.H) → gNames is us σ W.H Q
  | [], [], us, σ, W, ρ, μ, ρ', F, _, S, r, h, Q, q => by
    cases h
    exact ⟨r.1, q σ F S (fun a h => h) rfl⟩
  | [], _ :: _, _, _, _, _, _, _, _, _, _, _, h, _, _ => by cases h
  | i :: is, [], us, σ, W, ρ, μ, ρ', F, _, S, r, h, Q, q => by cases h
  | i :: is, d :: ds, us, σ, W, ρ, μ, ρ', F, hv, S, r, h, Q, q => by
    obtain ⟨ρ1, e1, h⟩ := bind_some (show (tgN i d ρ).bind (fun ρ' => tgs is ds ρ') = some ρ' from h)
    obtain ⟨v, us', F1, F2, h1, h2, h3, h4⟩ := r
    obtain ⟨rfl, rfl⟩ := List.append_eq_nil_iff.mp h4.symm
    unfold tgN at e1
    by_cases hl : data d = true
    · rw [if_pos hl] at e1
      cases e1
      obtain ⟨F', S', sub⟩ := S.set (i := i) (R1_of h2)
      refine ⟨v, us', h1, ?_⟩
      exact tgs_run is (fun j hj => hv j (List.mem_cons_of_mem _ hj)) S' h3 h Q fun σ' F'' S'' sub' w => q σ' F'' S'' (fun a ha => sub a (sub' a ha)) (w.trans (wipe_set (hv i (List.mem_cons_self ..))))
    · rw [if_neg hl] at e1
      cases e1
theorem pgd_tup {vs is : List Nat} {es : List Expr} {k : Nat} {pos : Pos} (hc : X.calm = true) (h : PGs X es (gNames is)) (hv : ∀ i ∈ is, i ∈ vs) (hn : (assignEach es X.env).length = is.length := by rfl) (hst : (assignEach es X.env).findIdx? (·.1) = none := by rfl) : PGD X (.Tuple es k pos) vs (tgT is) := by
  refine ⟨_, pg_tup hc h hn hst, fun σ W ρ μ F d v S r ρ' hr Q q => ?_⟩
  cases d with
  | tup ds =>
    have hr2 : tgs is ds ρ = some ρ' := hr
    obtain ⟨a, us, rfl, h2, h3⟩ := r
    refine ⟨a, us, rfl, h2, ?_, tgs_run is hv S h3 hr2 Q q⟩
    rw [RL_len h3]
    have len : ∀ (is : List Nat) (ds ρ : List D), tgs is ds ρ = some ρ' → ds.length = is.length := by
      intro is
      induction is with
      | nil =>
        intro ds ρ h
        cases ds with
        | nil => rfl
        | cons _ _ => cases h
      | cons i is ih =>
        intro ds ρ h
        cases ds with
        | nil => cases h
        | cons d ds =>
          obtain ⟨ρ1, _, h⟩ := bind_some (show (tgN i d ρ).bind (fun ρ' => tgs is ds ρ') = some ρ' from h)
          rw [List.length_cons, List.length_cons, ih ds ρ1 h]
    exact len is ds ρ hr2
  | _ => cases hr
end
end Fw
/-! # comprehensions, calls of quiet defs, methods of texts -/
namespace Fw
open PySem PySem.Spec PyProof.Rows L2
open Evl (Ex)
/-! ### the readings by their mirrors alone -/
def tEv (K : PySem.W.Frag) (f : FQ) : TE := fun σ H Q => ∃ (W : Wd) (ρ μ : List D) (F : List Addr) (d : D), W.H = H ∧ Sta K W σ ρ μ F ∧ f ρ μ = some d ∧ ∀ v W' G, Ext W W' → R K W' d v G → Q v W'.H
def tBv (K : PySem.W.Frag) (f : FB) : TT := fun σ H Q => ∃ (W : Wd) (ρ μ : List D) (F : List Addr) (b : Bool), W.H = H ∧ Sta K W σ ρ μ F ∧ f ρ μ = some b ∧ ∀ W', Ext W W' → Q b W'.H
def gTv (K : PySem.W.Frag) (vs : List Nat) (t : D → List D → Option (List D)) : TG := fun v σ H Q => ∃ (W : Wd) (ρ μ : List D) (F : List Addr) (d : D) (ρ' : List D), W.H = H ∧ Sta K W σ ρ μ F ∧ R K W d v [] ∧ t d ρ = some ρ' ∧
  ∀ σ' F', Sta K W σ' ρ' μ F' → (∀ a ∈ F', a ∈ F) → wipe σ' vs = wipe σ vs → Q σ' W.H
section
variable {X : Cx} {e tg : Expr} {f : FQ} {t : FB}
theorem PQ.can (h : PQ X e f) : PE X e (tEv X.K f) := by
  obtain ⟨te, p, k⟩ := h
  refine ⟨fun pins s σ H Q I ⟨W, ρ, μ, F, d, hH, S, hd, q⟩ => ?_⟩
  subst hH
  exact p.run pins s σ _ Q I (k σ W ρ μ F S d hd Q q)
theorem PB.can (h : PB X e t) : PT X e (tBv X.K t) := by
  obtain ⟨te, p, k⟩ := h
  refine ⟨fun pins s σ H Q I ⟨W, ρ, μ, F, d, hH, S, hd, q⟩ => ?_⟩
  subst hH
  exact p.run pins s σ _ Q I (k σ W ρ μ F S d hd Q q)
theorem PGD.can {vs : List Nat} {g : D → List D → Option (List D)} (h : PGD X tg vs g) : PG X tg (gTv X.K vs g) := by
  obtain ⟨tt, p, k⟩ := h
  refine ⟨fun pins s σ H v u Q I r ⟨W, ρ, μ, F, d, ρ', hH, S, rv, hd, q⟩ => ?_⟩
  subst hH
  exact p.run pins s σ _ v u Q I r (k σ W ρ μ F d v S rv ρ' hd Q q)
/-- a comprehension's tests: none or one -/
def bYes : FB := fun _ _ => some true
def PTsB (X : Cx) (es : List Expr) (t : FB) : Prop := PTs X es (tBv X.K t)
theorem ptsb_nil : PTsB X [] bYes := by
  refine ⟨fun pins s σ H Q I ⟨W, ρ, μ, F, d, hH, S, hd, q⟩ => ?_⟩
  subst hH
  cases hd
  exact pts_nil.run pins s σ _ Q I (q W (Ext.refl S.ok))
theorem ptsb_one {c : Expr} (h : PB X c t) : PTsB X [c] t := pts_one h.can
end
def wipeD (ρ : List D) : List Nat → List D
  | [] => ρ
  | v :: vs => (wipeD ρ vs).set v .un
theorem Sta.wipe {K : PySem.W.Frag} {W : Wd} {μ : List D} : ∀ (vs : List Nat) {σ : L2.St} {ρ : List D} {F : List Addr}, Sta K W σ ρ μ F → ∃ F', Sta K W (L2.wipe σ vs) (wipeD ρ vs) μ F'
  | [], _, _, F, S => ⟨F, S⟩
  | v :: vs, _, _, F, S => by
    obtain ⟨F1, S1⟩ := Sta.wipe vs S
    obtain ⟨F2, S2, _⟩ := S1.set (i := v) (d := .un) (o := none) rfl
    exact ⟨F2, S2⟩
def lcL (g : D → List D → Option (List D)) (t : FB) (f : FQ) (ρ μ : List D) : List D → Option (List D)
  | [] => some []
  | d :: ds => (g d ρ).bind fun ρ' => (t ρ' μ).bind fun b => if b = true then (f ρ' μ).bind fun y => if data y = true then (lcL g t f ρ μ ds).map fun r => y :: r else none else lcL g t f ρ μ ds
def qLc (it : FA) (g : D → List D → Option (List D)) (vs : List Nat) (t : FB) (f : FQ) : FA := fun ρ μ => (it ρ μ).bind fun ds => if ds.length ≤ LIM then lcL g t f (wipeD ρ vs) μ ds else none
theorem Lt.upd_lst {W : Wd} {p : Addr} {xs ys : List V} (h : W.H p = some (.lst xs)) (hf : ¬ W.Fr p) : Lt W ⟨upd W.H p (.lst ys), W.Fr, W.m⟩ := by
  have ne : ∀ a o, Rd W.H a o → (∀ zs, o ≠ .lst zs) → a ≠ p := fun a o r n z => by
    subst z
    rcases r with r | ⟨ob, r⟩
    · rw [h] at r
      exact n _ (Option.some.inj r).symm
    · rw [h] at r
      cases r
  refine ⟨fun a zs r => ?_, fun a zs r => ?_, fun a C dx fs r r' => ⟨?_, r'⟩, fun _ _ z => z⟩
  · have z := ne a _ r fun _ q => nomatch q
    unfold Rd at r ⊢
    show upd W.H p _ a = _ ∨ ∃ o, upd W.H p _ a = _
    rw [upd_ne z]
    exact r
  · have z : a ≠ p := fun z => hf (z ▸ r.2)
    refine ⟨?_, r.2⟩
    have r1 := r.1
    unfold Rd at r1 ⊢
    show upd W.H p _ a = _ ∨ ∃ o, upd W.H p _ a = _
    rw [upd_ne z]
    exact r1
  · show upd W.H p _ a = _
    rw [upd_ne fun z => by subst z; rw [h] at r; cases r]
    exact r
section
variable {X : Cx} {elt tg iter : Expr} {ifs : List Expr} {scope : Scope} {own : List (Str × Nat)} {pos : Pos} {it : FA} {g : D → List D → Option (List D)} {t : FB} {f : FQ}
/-- the reading of a comprehension, whatever comes behind -/
theorem lc_run {K : PySem.W.Frag} {wi : TI} {vs : List Nat} {it : FA}
    (k0 : ∀ (σ : L2.St) (W : Wd) (ρ μ : List D) (F : List Addr), Sta K W σ ρ μ F → ∀ ds, it ρ μ = some ds → ∀ Q : It → Hp → Prop, (∀ J W', Ext W W' → ItD K J W' ds Ext → Q J W'.H) → wi σ W.H Q)
    (σ : L2.St) (W : Wd) (ρ μ : List D) (F : List Addr) (S : Sta K W σ ρ μ F) (out : List D) (hd : qLc it g vs t f ρ μ = some out) (Q : VK) (q : ∀ p W', NewL K W W' out p → Q (.ref p) W'.H) :
    tLc wi (gTv K vs g) (tBv K t) (tEv K f) vs σ W.H Q := by
  obtain ⟨ds, e1, hd⟩ := bind_some hd
  by_cases hlim : ds.length ≤ LIM
  case neg => rw [if_neg hlim] at hd; cases hd
  rw [if_pos hlim] at hd
  refine k0 σ W ρ μ F S ds e1 _ fun J W1 x1 itd => ?_
  intro Dl hDl
  obtain ⟨Fw, Sw⟩ := Sta.wipe vs (S.ext x1)
  refine ⟨fun i m H => m = ds.length - i ∧ i ≤ ds.length ∧ ∃ (W2 : Wd) (acc : List V) (done rest : List D), W2.H = H ∧ Ext W1 W2 ∧ ¬ W2.Fr Dl ∧ W2.H Dl = some (.lst acc) ∧ RL K W2 done acc [] ∧ lcL g t f (wipeD ρ vs) μ (ds.drop i) = some rest ∧ out = done ++ rest ∧ done.length ≤ i, ⟨_, rfl, Nat.zero_le _, ?_⟩, ?_⟩
  · exact ⟨W1.put Dl (.lst []), [], [], out, rfl, Ext.put x1.ok hDl, fun z => x1.ok Dl z hDl, upd_same, ⟨rfl, rfl⟩, hd, rfl, Nat.le_refl _⟩
  · rintro i m H ⟨rfl, hi, W2, acc, done, rest, rfl, x2, hf, hacc, hrl, hrest, hout, hdl⟩
    by_cases hlt : i < ds.length
    · refine .inr ⟨itd.go i W2 x2 hlt, ?_⟩
      have ed : ds.drop i = ds[i] :: ds.drop (i + 1) := List.drop_eq_getElem_cons hlt
      rw [ed] at hrest
      obtain ⟨ρ', e2, hrest⟩ := bind_some (show (g ds[i] (wipeD ρ vs)).bind _ = some rest from hrest)
      obtain ⟨b, e3, hrest⟩ := bind_some hrest
      refine ⟨fun H' => i + 1 ≤ ds.length ∧ ∃ (W2 : Wd) (acc : List V) (done rest : List D), W2.H = H' ∧ Ext W1 W2 ∧ ¬ W2.Fr Dl ∧ W2.H Dl = some (.lst acc) ∧ RL K W2 done acc [] ∧ lcL g t f (wipeD ρ vs) μ (ds.drop (i + 1)) = some rest ∧ out = done ++ rest ∧ done.length ≤ i + 1,
        fun H' n => ⟨ds.length - (i + 1), by omega, rfl, n⟩, fun x H' hy => ?_⟩
      obtain ⟨W3, d, hW3, hd3, x3, r3⟩ := itd.yl i W2 x H' x2 x2.ok hlt hy
      subst hW3
      rw [List.getElem?_eq_getElem hlt] at hd3
      cases hd3
      have nf3 : ∀ {W5 : Wd}, Ext W2 W5 → ¬ W5.Fr Dl := fun x z => by
        rcases x.nf Dl z with z | z
        · exact hf z
        · rw [hacc] at z
          cases z
      refine ⟨W3, wipeD ρ vs, μ, Fw, ds[i], ρ', rfl, (Sw.ext x2).ext x3, r3, e2, fun σ' F' S' _ hw => ⟨hw.trans (wipe_idem vs σ), ?_⟩⟩
      refine ⟨W3, ρ', μ, F', b, rfl, S', e3, fun W4 x4 => ?_⟩
      cases b with
      | true =>
        rw [if_pos rfl] at hrest ⊢
        obtain ⟨y, e4, hrest⟩ := bind_some hrest
        by_cases hdy : data y = true
        case neg => rw [if_neg hdy] at hrest; cases hrest
        rw [if_pos hdy] at hrest
        obtain ⟨rest', e5, z⟩ := map_some hrest
        refine ⟨W4, ρ', μ, F', y, rfl, S'.ext x4, e4, fun v W5 G x5 r5 => ?_⟩
        have zG := R_data y hdy r5
        subst zG
        have x25 := (x3.trans x4).trans x5
        have hacc5 := x25.ex _ _ hacc
        have la : acc.length = done.length := RL_len hrl
        refine ⟨acc, hacc5, lim_lt (by omega), by omega, ⟨upd W5.H Dl (.lst (acc ++ [v])), W5.Fr, W5.m⟩, acc ++ [v], done ++ [y], rest', rfl, ?_, (show ¬ W5.Fr Dl from nf3 x25), upd_same, ?_, e5, ?_, ?_⟩
        · have x15 := x2.trans x25
          refine ⟨fun a o h => ?_, x15.fr, x15.nf, x15.m, fun a h => ?_⟩
          · show upd W5.H Dl _ a = _
            rw [upd_ne (ne_of_none h hDl)]
            exact x15.ex a o h
          · show upd W5.H Dl _ a ≠ none
            by_cases ea : a = Dl
            · rw [ea, upd_same]
              exact fun z => nomatch z
            · rw [upd_ne ea]
              exact x15.ok a h
        · have lt5 : Lt W5 ⟨upd W5.H Dl (.lst (acc ++ [v])), W5.Fr, W5.m⟩ := Lt.upd_lst hacc5 (nf3 x25)
          exact RL_app (G := []) (RL_lt lt5 done (RL_ext x25 done hrl)) ⟨v, [], [], [], rfl, R_lt lt5 y r5, ⟨rfl, rfl⟩, rfl⟩
        · rw [hout, ← z, List.append_assoc]
          rfl
        · rw [List.length_append]
          show done.length + 1 ≤ i + 1
          omega
      | false =>
        rw [if_neg Bool.false_ne_true] at hrest ⊢
        have x24 := x3.trans x4
        exact ⟨by omega, W4, acc, done, rest, rfl, x2.trans x24, nf3 x24, x24.ex _ _ hacc, RL_ext x24 done hrl, hrest, hout, by omega⟩
    · refine .inl ⟨itd.st i W2 x2 (by omega), ?_⟩
      have e : ds.drop i = [] := List.drop_eq_nil_of_le (by omega)
      rw [e] at hrest
      cases hrest
      rw [List.append_nil] at hout
      subst hout
      exact q Dl W2 ⟨x1.trans x2, Evl.fresh_back x1.ex hDl, hf, acc, hacc, hrl⟩
theorem pn_lc (hc : X.calm = true) (hN : X.N.Nodup) (hi : PIQ X tg iter it) (ok : BlkOk X.N X.env.scope scope own)
    (hg : ∀ (s : Shared) (H : Hp) (C : Addr) (cl : List (Str × Addr)) (fp : List Addr), PGD (X.blk s H scope (compEnvC scope cl C X.env) fp) tg (own.map (·.2)) g)
    (ht : ∀ (s : Shared) (H : Hp) (C : Addr) (cl : List (Str × Addr)) (fp : List Addr), PTsB (X.blk s H scope (compEnvC scope cl C X.env) fp) ifs t)
    (he : ∀ (s : Shared) (H : Hp) (C : Addr) (cl : List (Str × Addr)) (fp : List Addr), PQ (X.blk s H scope (compEnvC scope cl C X.env) fp) elt f)
    (hs : ∀ x, foldedSetIterable iter X.env x = pure x := by intro _; rfl) : PN X (.ListComp elt [⟨tg, iter, ifs, 0⟩] scope pos) (qLc it g (own.map (·.2)) t f) := by
  obtain ⟨wi, p0, k0⟩ := hi
  refine ⟨_, pe_lc (g := gTv X.K (own.map (·.2)) g) (tt := tBv X.K t) (te := tEv X.K f) hc hN p0 ok (fun s H C cl fp => (hg s H C cl fp).can) (fun s H C cl fp => ht s H C cl fp) (fun s H C cl fp => (he s H C cl fp).can) hs, fun σ W ρ μ F S out hd Q q => ?_⟩
  exact lc_run k0 σ W ρ μ F S out hd Q q
end
/-! ### quiet defs -/
def spQ (K : PySem.W.Frag) (n : Nat) (run : List D → Option D) : Sp := fun vs H Q _ => ∃ (W : Wd) (ds : List D) (d : D), W.H = H ∧ W.m = [] ∧ WOk W ∧ RL K W ds vs [] ∧ dataL ds = true ∧ ds.length = n ∧ run ds = some d ∧ data d = true ∧ ∀ v W', Ext W W' → R K W' d v [] → Q v W'.H
/-- the module's def x is quiet and computes run; dd: the defaults that fill up -/
def OkQ (P : Program) (w : World) (K : PySem.W.Frag) (mg : Str → Option Value) (base : Heap) (x : Str) (k n : Nat) (dd : List D) (run : List D → Option D) : Prop :=
  ∃ (f : Addr) (fd : FuncData) (ps : List Str) (dvs : List V) (us : List Value), FnOk P w K mg base (L2.CX P w) k f fd ps (spQ K n run) ∧ Binds K fd ps us ∧ Vals dvs us ∧ (∀ W : Wd, RL K W dd dvs []) ∧ dataL dd = true ∧ mg x = some (.ref f) ∧ PySem.W.keepIn K (.ref f) = true
def qRun (n : Nat) (dd : List D) (run : List D → Option D) (k : FA) : FQ := fun ρ μ => (k ρ μ).bind fun ds => if dataL ds = true ∧ (ds ++ dd).length = n then (run (ds ++ dd)).bind fun d => if data d = true then some d else none else none
theorem dataL_app {ds es : List D} (h : dataL ds = true) (g : dataL es = true) : dataL (ds ++ es) = true := by
  rw [dataL_all] at h g ⊢
  rw [List.all_append, h, g]
  rfl
/-- into a quiet def and back: it sees nothing of what is shared -/
theorem call_back {K : PySem.W.Frag} {n : Nat} {run : List D → Option D} {W : Wd} {ds dd : List D} {vs : List V} {d : D} {Q : VK} {E : XK} (h1 : dataL ds = true) (h2 : dataL dd = true) (ok : WOk W) (r : RL K W (ds ++ dd) vs []) (hn : (ds ++ dd).length = n) (hr : run (ds ++ dd) = some d) (hd : data d = true)
    (q : ∀ v W', Ext W W' → R K W' d v [] → Q v W'.H) : spQ K n run vs W.H Q E :=
  ⟨⟨W.H, W.Fr, []⟩, ds ++ dd, d, rfl, rfl, ok, RL_m _ (dataL_app h1 h2) r, dataL_app h1 h2, hn, hr, hd, fun v W' x rv => q v ⟨W'.H, W'.Fr, W.m⟩ ⟨x.ex, x.fr, x.nf, rfl, x.ok⟩ (R_m d hd rv)⟩
section
variable {X : Cx} {e : Expr} {es : List Expr} {x : Str} {p pos : Pos} {k n : Nat} {dd : List D} {run : List D → Option D} {kf : FA}
theorem pq_call (O : OkQ X.prog X.w X.K X.mg X.base x k n dd run) (hr : Room k X.A) (ha : PAQ X (e :: es) kf) (hg : Gl X x := by rfl) (hdb : (x == ("__debug__" : Str)) = false := by decide)
    (he : starEach (e :: es) X.env = (false, eval e X.env) :: starEach es X.env := by rfl) (hpl : (backTo pos (starEach es X.env)).any (·.1) = false := by rfl) : PQ X (.Call (.Name x p) (e :: es) [] pos) (qRun n dd run kf) := by
  obtain ⟨f, fd, ps, dvs, us, hF, hb, hv, hdd, hdt, hm, hk⟩ := O
  obtain ⟨t, pt, k1⟩ := ha
  refine ⟨_, pe_call hF hr hg hm hk hb hv passL pt hdb he hpl, fun σ W ρ μ F S d hd Q q => ?_⟩
  obtain ⟨ds, e1, hd⟩ := bind_some hd
  by_cases hl : dataL ds = true ∧ (ds ++ dd).length = n
  case neg => rw [if_neg hl] at hd; cases hd
  rw [if_pos hl] at hd
  obtain ⟨d', e2, hd⟩ := bind_some hd
  by_cases hdd2 : data d' = true
  case neg => rw [if_neg hdd2] at hd; cases hd
  rw [if_pos hdd2] at hd
  cases hd
  refine k1 σ W ρ μ F S ds e1 _ fun vs W1 G1 x1 r1 => ?_
  have z := RL_data ds hl.1 r1
  subst z
  exact call_back hl.1 hdt x1.ok (RL_app r1 (hdd W1)) hl.2 e2 hdd2 fun v W2 x2 r2 => q v W2 [] (x1.trans x2) r2
theorem pq_call0 (O : OkQ X.prog X.w X.K X.mg X.base x k n dd run) (hr : Room k X.A) (hg : Gl X x := by rfl) (hdb : (x == ("__debug__" : Str)) = false := by decide) : PQ X (.Call (.Name x p) [] [] pos) (qRun n dd run aNil) := by
  obtain ⟨f, fd, ps, dvs, us, hF, hb, hv, hdd, hdt, hm, hk⟩ := O
  refine ⟨_, pe_call0 hF hr hg hm hk hb hv passL hdb, fun σ W ρ μ F S d hd Q q => ?_⟩
  obtain ⟨ds, e1, hd⟩ := bind_some hd
  cases e1
  by_cases hl : dataL ([] : List D) = true ∧ (([] : List D) ++ dd).length = n
  case neg => rw [if_neg hl] at hd; cases hd
  rw [if_pos hl] at hd
  obtain ⟨d', e2, hd⟩ := bind_some hd
  by_cases hdd2 : data d' = true
  case neg => rw [if_neg hdd2] at hd; cases hd
  rw [if_pos hdd2] at hd
  cases hd
  show spQ X.K n run ([] ++ dvs) W.H Q E0
  exact call_back (E := E0) (ds := []) rfl hdt S.ok (hdd W) hl.2 e2 hdd2 fun v W2 x2 r2 => q v W2 [] x2 r2
end
/-! ### methods of texts -/
/-- s.m(e): by the signs -/
def MtD (X : Cx) (id : String) (o : List Nat → List D → Option D) : Prop := ∃ r : V → List V → Hp → VK → Prop, MtR X id r ∧ ∀ (W : Wd) (s : List Nat) (ds : List D) (vs : List V) (G : List Addr), WOk W → RL X.K W ds vs G → ∀ d, o s ds = some d →
  ∀ Q : VK, (∀ v W' G, Ext W W' → R X.K W' d v G → Q v W'.H) → r (.str (tr s)) vs W.H Q
def qM0 (o : List Nat → List D → Option D) (f : FQ) : FQ := fun ρ μ => match f ρ μ with
  | some (.str s) => o s []
  | _ => none
def qM1 (o : List Nat → List D → Option D) (f g : FQ) : FQ := fun ρ μ => match f ρ μ with
  | some (.str s) => (g ρ μ).bind fun d => o s [d]
  | _ => none
section
variable {X : Cx} {a e : Expr} {f g : FQ} {name : Str} {apos pos : Pos} {id : String} {o : List Nat → List D → Option D}
theorem pq_m0 (h : MtD X id o) (slot : Slot "str" name id) (ty : typeOf (.builtin id) = pure (.type "method_descriptor")) (ha : PQ X a f) (hbase : attributeBase a name X.env (eval a X.env) = eval a X.env := by rfl) (hline : (apos.endLine == pos.line) = true := by rfl) : PQ X (.Call (.Attribute a name apos) [] [] pos) (qM0 o f) := by
  obtain ⟨r, hr, k2⟩ := h
  obtain ⟨t1, p1, k1⟩ := ha
  refine ⟨_, pe_m0 slot ty hr p1 hbase hline, fun σ W ρ μ F S d hd Q q => ?_⟩
  unfold qM0 at hd
  cases e1 : f ρ μ with
  | none => rw [e1] at hd; cases hd
  | some x =>
    rw [e1] at hd
    refine k1 σ W ρ μ F S x e1 _ fun v W1 G1 x1 r1 => ?_
    cases x with
    | str s =>
      obtain ⟨rfl, _⟩ := r1
      exact ⟨⟨_, rfl⟩, k2 W1 s [] [] [] x1.ok ⟨rfl, rfl⟩ d hd Q fun v W2 G x2 r2 => q v W2 G (x1.trans x2) r2⟩
    | _ => cases hd
theorem pq_m1 (h : MtD X id o) (slot : Slot "str" name id) (ty : typeOf (.builtin id) = pure (.type "method_descriptor")) (ha : PQ X a f) (he : PQ X e g) (hs : starEach [e] X.env = [(false, eval e X.env)] := by rfl) (hbase : attributeBase a name X.env (eval a X.env) = eval a X.env := by rfl) (hline : (apos.endLine == pos.line) = true := by rfl) :
    PQ X (.Call (.Attribute a name apos) [e] [] pos) (qM1 o f g) := by
  obtain ⟨r, hr, k2⟩ := h
  obtain ⟨t1, p1, k1⟩ := ha
  obtain ⟨t3, p3, k3⟩ := he
  refine ⟨_, pe_m1 slot ty hr p1 p3 hs hbase hline, fun σ W ρ μ F S d hd Q q => ?_⟩
  unfold qM1 at hd
  cases e1 : f ρ μ with
  | none => rw [e1] at hd; cases hd
  | some x =>
    rw [e1] at hd
    refine k1 σ W ρ μ F S x e1 _ fun v W1 G1 x1 r1 => ?_
    cases x with
    | str s =>
      obtain ⟨rfl, _⟩ := r1
      obtain ⟨y, e2, hd⟩ := bind_some (show (g ρ μ).bind (fun d => o s [d]) = some d from hd)
      refine ⟨⟨_, rfl⟩, k3 σ W1 ρ μ F (S.ext x1) y e2 _ fun u W2 G2 x2 r2 => ?_⟩
      exact k2 W2 s [y] [u] (G2 ++ []) x2.ok ⟨u, [], G2, [], rfl, r2, ⟨rfl, rfl⟩, rfl⟩ d hd Q fun v W3 G x3 r3 => q v W3 G ((x1.trans x2).trans x3) r3
    | _ => cases hd
/-- both texts -/
def oStr (h : List Nat → List Nat → D) : List Nat → List D → Option D
  | s, [.str t] => some (h s t)
  | _, _ => none
theorem mtd_str {h : Str → Str → V} {g : List Nat → List Nat → D} (r : MtR X id (fun x xs H Q => ∃ a b, x = .str a ∧ xs = [.str b] ∧ Q (h a b) H)) (hg : ∀ (W : Wd) s t, R X.K W (g s t) (h (tr s) (tr t)) []) : MtD X id (oStr g) := by
  refine ⟨_, r, fun W s ds vs G ok rl d hd Q q => ?_⟩
  match ds, hd with
  | [.str t], hd =>
    cases hd
    obtain ⟨v, rfl, r1⟩ := RL_one rl
    obtain ⟨rfl, _⟩ := r1
    exact ⟨tr s, tr t, rfl, rfl, q _ W [] (Ext.refl ok) (hg W s t)⟩
theorem mtd_find : MtD X "str.find" (oStr fun s t => .int (Txt.find (tr s) (tr t))) := mtd_str mt_find fun _ _ _ => ⟨rfl, rfl⟩
theorem mtd_starts : MtD X "str.startswith" (oStr fun s t => .bl (Txt.startswith (tr s) (tr t))) := mtd_str mt_startswith fun _ _ _ => ⟨rfl, rfl⟩
theorem mtd_ends : MtD X "str.endswith" (oStr fun s t => .bl (Txt.endswith (tr s) (tr t))) := mtd_str mt_endswith fun _ _ _ => ⟨rfl, rfl⟩
/-- sep.join(texts) -/
def joinLen (s : List Nat) (ts : List (List Nat)) : Nat := (ts.map (·.length)).sum + ts.length * s.length
def oJoin (s : List Nat) : List D → Option D
  | [x] => (seqD x).bind fun ds => (strsD ds).bind fun ts => if joinLen s ts ≤ LIM then some (.str (TL.joinL s ts)) else none
  | _ => none
theorem tl_tr (s : List Nat) : TL.tl (tr s) = s := rfl
theorem map_tl_tr (ts : List (List Nat)) : (ts.map tr).map TL.tl = ts := by
  rw [List.map_map]
  exact List.map_id _
theorem mtd_join : MtD X "str.join" oJoin := by
  refine ⟨_, mt_join, fun W s ds vs G ok rl d hd Q q => ?_⟩
  match ds, hd with
  | [x], hd =>
    obtain ⟨v, rfl, r1⟩ := RL_one rl
    obtain ⟨es, e1, hd⟩ := bind_some (show (seqD x).bind (fun ds => (strsD ds).bind fun ts => if joinLen s ts ≤ LIM then some (D.str (TL.joinL s ts)) else none) = some d from hd)
    obtain ⟨ts, e2, hd⟩ := bind_some hd
    by_cases hl : joinLen s ts ≤ LIM
    case neg => rw [if_neg hl] at hd; cases hd
    rw [if_pos hl] at hd
    cases hd
    obtain ⟨a, us, G', rfl, h2, h3⟩ := R_seq e1 r1
    rw [R_strs e2 h3] at h2
    refine ⟨tr s, a, ts.map tr, rfl, rfl, h2, ?_, q _ W [] (Ext.refl ok) ⟨?_, rfl⟩⟩
    · have e : ((ts.map tr).map (·.length)).sum + (ts.map tr).length * (tr s).length = joinLen s ts := by
        unfold joinLen
        rw [tr_length, List.length_map, List.map_map]
        congr 2
      rw [e]
      exact Nat.le_trans hl (by decide)
    · rw [TL.join_eq]
      refine congrArg V.str (TL.ext_tl ?_)
      rw [TL.tl_join, map_tl_tr, tl_tr, tl_tr]
end
end Fw
/-! # statements, quiet defs -/
namespace Fw
open PySem PySem.Spec PyProof.Rows L2
open Evl (Ex)
/-- how a statement ends: goes on, returns, breaks, continues, raises (the class, the fields) -/
inductive SO where
  | nx (ρ μ : List D) | rt (d : D) (ρ μ : List D) | bk (ρ μ : List D) | ct (ρ μ : List D) | ex (c : Str) (fs : List (Str × D)) (ρ μ : List D)
abbrev FS := List D → List D → Option SO
def Kept (ob : List Nat) (σ σ' : L2.St) : Prop := ∀ i ∈ ob, σ'[i]? = σ[i]?
theorem Kept.refl {ob : List Nat} {σ : L2.St} : Kept ob σ σ := fun _ _ => rfl
theorem Kept.trans {ob : List Nat} {σ σ' σ'' : L2.St} (h : Kept ob σ σ') (g : Kept ob σ' σ'') : Kept ob σ σ'' := fun i hi => (g i hi).trans (h i hi)
theorem Kept.set {ob : List Nat} {σ : L2.St} {i : Nat} {o : Option V} (h : i ∉ ob) : Kept ob σ (σ.set i o) := fun j hj => List.getElem?_set_ne (fun z => h (by rw [z]; exact hj))
/-- an exception's own fields, at its dict -/
def ExAt (K : PySem.W.Frag) (W : Wd) (fs : List (Str × D)) (dx : Option Addr) : Prop := (fs = [] ∧ dx = none) ∨ (∃ x d a v, fs = [(x, d)] ∧ dx = some a ∧ W.H a = some (.xd [(x, v)]) ∧ R K W d v [])
def Goes (K : PySem.W.Frag) (ob : List Nat) (Wx : WX) (E : Ends) (σ : L2.St) (W : Wd) (F : List Addr) : SO → Prop
  | .nx ρ' μ' => ∀ σ' W' F', Sta K W' σ' ρ' μ' F' → Mv W W' F F' → Kept ob σ σ' → E.nx σ' W'.H
  | .bk ρ' μ' => ∀ σ' W' F', Sta K W' σ' ρ' μ' F' → Mv W W' F F' → Kept ob σ σ' → E.bk σ' W'.H
  | .ct ρ' μ' => ∀ σ' W' F', Sta K W' σ' ρ' μ' F' → Mv W W' F F' → Kept ob σ σ' → E.ct σ' W'.H
  | .rt d ρ' μ' => ∀ v σ' W' G F', R K W' d v G → Sta K W' σ' ρ' μ' F' → (G ++ F').Nodup → (∀ a ∈ G, Own W' a) → Mv W W' F (G ++ F') → Kept ob σ σ' → E.rt v W'.H
  | .ex c fs ρ' μ' => ∀ dx σ' W' F', ExAt K W' fs dx → Sta K W' σ' ρ' μ' F' → Mv W W' F F' → Kept ob σ σ' → Wx (.ref (He.ga K c)) dx σ' W'.H
def PS1 (X : Cx) (ob : List Nat) (Wx : WX) (st : Stmt) (f : FS) : Prop := ∃ ts : TS, PS X st ts ∧ ∀ (E : Ends) (σ : L2.St) (W : Wd) (ρ μ : List D) (F : List Addr), Sta X.K W σ ρ μ F → ∀ o, f ρ μ = some o → Goes X.K ob Wx E σ W F o → ts E σ W.H
def PSS (X : Cx) (ob : List Nat) (Wx : WX) (ss : List Stmt) (f : FS) : Prop := ∃ ts : TS, PSs X ss ts ∧ ∀ (E : Ends) (σ : L2.St) (W : Wd) (ρ μ : List D) (F : List Addr), Sta X.K W σ ρ μ F → ∀ o, f ρ μ = some o → Goes X.K ob Wx E σ W F o → ts E σ W.H
/-- from a later point, what was wanted at the earlier one -/
theorem Goes.after {K : PySem.W.Frag} {ob : List Nat} {Wx : WX} {E : Ends} {σ σ1 : L2.St} {W W1 : Wd} {F F1 : List Addr} {o : SO} (h : Goes K ob Wx E σ W F o) (m : Mv W W1 F F1) (kp : Kept ob σ σ1) : Goes K ob Wx E σ1 W1 F1 o := by
  cases o with
  | nx ρ' μ' => exact fun σ' W' F' S mv kp' => h σ' W' F' S (m.trans mv) (kp.trans kp')
  | bk ρ' μ' => exact fun σ' W' F' S mv kp' => h σ' W' F' S (m.trans mv) (kp.trans kp')
  | ct ρ' μ' => exact fun σ' W' F' S mv kp' => h σ' W' F' S (m.trans mv) (kp.trans kp')
  | rt d ρ' μ' => exact fun v σ' W' G F' r S nd own mv kp' => h v σ' W' G F' r S nd own (m.trans mv) (kp.trans kp')
  | ex c fs ρ' μ' => exact fun dx σ' W' F' r S mv kp' => h dx σ' W' F' r S (m.trans mv) (kp.trans kp')
theorem Ext.mvr {W W' : Wd} {F : List Addr} (e : Ext W W') : Mv W W' F F := e.mv fun _ h => h
section
variable {X : Cx} {ob : List Nat} {Wx : WX} {st : Stmt} {rest ss ss' : List Stmt} {f g : FS} {e a : Expr} {q q' : FQ} {t : FB} {pos : Pos}
/-! ### one behind the other -/
def fNext : FS := fun ρ μ => some (.nx ρ μ)
def fSeq (f g : FS) : FS := fun ρ μ => (f ρ μ).bind fun o => match o with
  | .nx ρ' μ' => g ρ' μ'
  | o => some o
theorem pss_nil' : PSS X ob Wx [] fNext := ⟨_, pss_nil, fun E σ W ρ μ F S o ho h => by
  cases ho
  exact h σ W F S (Ext.refl S.ok).mvr Kept.refl⟩
theorem seq_run {t u : TS} (k1 : ∀ (E : Ends) (σ : L2.St) (W : Wd) (ρ μ : List D) (F : List Addr), Sta X.K W σ ρ μ F → ∀ o, f ρ μ = some o → Goes X.K ob Wx E σ W F o → t E σ W.H)
    (k2 : ∀ (E : Ends) (σ : L2.St) (W : Wd) (ρ μ : List D) (F : List Addr), Sta X.K W σ ρ μ F → ∀ o, g ρ μ = some o → Goes X.K ob Wx E σ W F o → u E σ W.H)
    (E : Ends) (σ : L2.St) (W : Wd) (ρ μ : List D) (F : List Addr) (S : Sta X.K W σ ρ μ F) (o : SO) (ho : fSeq f g ρ μ = some o) (h : Goes X.K ob Wx E σ W F o) : tSeq t u E σ W.H := by
  obtain ⟨o1, e1, ho⟩ := bind_some ho
  refine k1 { E with nx := u E } σ W ρ μ F S o1 e1 ?_
  cases o1 with
  | nx ρ1 μ1 => exact fun σ1 W1 F1 S1 m1 kp => k2 E σ1 W1 ρ1 μ1 F1 S1 o ho (h.after m1 kp)
  | _ =>
    cases ho
    exact h
theorem pss_cons' (h1 : PS1 X ob Wx st f) (h2 : PSS X ob Wx rest g) : PSS X ob Wx (st :: rest) (fSeq f g) := by
  obtain ⟨t1, p1, k1⟩ := h1
  obtain ⟨t2, p2, k2⟩ := h2
  exact ⟨_, pss_cons p1 p2, seq_run k1 k2⟩
theorem pss_one' (h1 : PS1 X ob Wx st f) : PSS X ob Wx [st] f := by
  obtain ⟨t1, p1, k1⟩ := h1
  exact ⟨_, pss_one p1, k1⟩
theorem ps1_pass : PS1 X ob Wx (.Pass pos) fNext := ⟨_, ps_pass, fun E σ W ρ μ F S o ho h => by
  cases ho
  exact h σ W F S (Ext.refl S.ok).mvr Kept.refl⟩
/-! ### a name is set -/
def fSet (i : Nat) (q : FQ) : FS := fun ρ μ => (q ρ μ).bind fun d => if data d = true then some (.nx (ρ.set i d) μ) else none
theorem set_run {te : TE} {i : Nat} (k1 : ∀ (σ : L2.St) (W : Wd) (ρ μ : List D) (F : List Addr), Sta X.K W σ ρ μ F → ∀ d, q ρ μ = some d → ∀ Q : VK, (∀ v W' G, Ext W W' → R X.K W' d v G → Q v W'.H) → te σ W.H Q) (hi : i ∉ ob)
    (E : Ends) (σ : L2.St) (W : Wd) (ρ μ : List D) (F : List Addr) (S : Sta X.K W σ ρ μ F) (o : SO) (ho : fSet i q ρ μ = some o) (h : Goes X.K ob Wx E σ W F o) : tAsg te (gName i) E σ W.H := by
  obtain ⟨d, e1, ho⟩ := bind_some ho
  by_cases hd : data d = true
  case neg => rw [if_neg hd] at ho; cases ho
  rw [if_pos hd] at ho
  cases ho
  refine k1 σ W ρ μ F S d e1 _ fun v W1 G x1 r1 => ?_
  have z := R_data d hd r1
  subst z
  obtain ⟨F', S', sub⟩ := (S.ext x1).set (i := i) (R1_of r1)
  exact h _ W1 F' S' (x1.mv sub) (Kept.set hi)
theorem ps1_set {i : Nat} {x : Str} {pos' : Pos} (hN : X.N.Nodup) (hi : X.N[i]? = some x) (hx : Loc X.env.scope x) (he : PQ X e q) (hs : swapsWith e (some (.Name x pos')) pos.line X.env = pure false := by rfl) (hf : X.fn x = true ∨ X.env.scope.names.lookup x = some .local := by first | exact .inl rfl | exact .inr rfl) (ho : i ∉ ob := by decide) :
    PS1 X ob Wx (.Assign [.Name x pos'] e pos) (fSet i q) := by
  obtain ⟨te, p, k⟩ := he
  exact ⟨_, ps_set hN hi hx p hs hf, set_run k ho⟩
/-- a name gets a new list, its own -/
def fSetN (i : Nat) (k : FA) : FS := fun ρ μ => (k ρ μ).map fun ds => .nx (ρ.set i (.ml ds)) μ
theorem Sta.setN {K : PySem.W.Frag} {W W' : Wd} {σ : L2.St} {ρ μ ds : List D} {F : List Addr} {i : Nat} {p : Addr} (S : Sta K W σ ρ μ F) (n : NewL K W W' ds p) : ∃ F', Sta K W' (σ.set i (some (.ref p))) (ρ.set i (.ml ds)) μ F' ∧ Mv W W' F F' := by
  obtain ⟨x, new, nofr, vs, h1, h2⟩ := n
  have S1 := S.ext x
  obtain ⟨⟨F1, F2, q1, q2, q3⟩, nd, own, ok⟩ := S1
  have r : R K W' (.ml ds) (.ref p) [p] := ⟨p, vs, [], rfl, h1, h2, rfl⟩
  have pF : p ∉ F := fun z => by
    obtain ⟨_, w⟩ := S.own p z
    rcases w with ⟨xs, w⟩ | ⟨C, dx, fs, w⟩ <;> rw [new] at w <;> cases w
  by_cases hi : i < ρ.length
  · obtain ⟨A, B, C, e1, e2⟩ := RS_set (R1_of r) q1 hi
    have sub : (A ++ C ++ F2).Sublist F := by
      rw [q3, e1]
      exact List.Sublist.append (List.Sublist.append (List.Sublist.refl A) (List.sublist_append_right B C)) (List.Sublist.refl F2)
    have pm : (A ++ ([p] ++ C) ++ F2).Perm (p :: (A ++ C ++ F2)) := by
      rw [List.append_assoc, List.append_assoc, List.append_assoc]
      exact List.perm_middle
    refine ⟨A ++ ([p] ++ C) ++ F2, ⟨⟨_, F2, e2, q2, rfl⟩, pm.nodup_iff.mpr (List.nodup_cons.mpr ⟨fun z => pF (sub.subset z), nd.sublist sub⟩), fun a ha => ?_, ok⟩, ⟨fun a o h _ => x.ex a o h, x.fr, fun a h => (x.nf a h).elim .inl fun z => .inr (.inl z), fun a ha => ?_, ⟨[], by rw [x.m, List.append_nil]⟩⟩⟩
    · rcases List.mem_cons.mp (pm.mem_iff.mp ha) with z | z
      · subst z
        exact ⟨nofr, .inl ⟨vs, h1⟩⟩
      · exact own a (sub.subset z)
    · rcases List.mem_cons.mp (pm.mem_iff.mp ha) with z | z
      · subst z
        exact .inr new
      · exact .inl (sub.subset z)
  · have hl := RS_len q1
    rw [List.set_eq_of_length_le (by omega), List.set_eq_of_length_le (by omega)]
    exact ⟨F, ⟨⟨F1, F2, q1, q2, q3⟩, nd, own, ok⟩, x.mvr⟩
theorem setN_run {te : TE} {i : Nat} {k : FA} (k1 : ∀ (σ : L2.St) (W : Wd) (ρ μ : List D) (F : List Addr), Sta X.K W σ ρ μ F → ∀ ds, k ρ μ = some ds → ∀ Q : VK, (∀ p W', NewL X.K W W' ds p → Q (.ref p) W'.H) → te σ W.H Q) (hi : i ∉ ob)
    (E : Ends) (σ : L2.St) (W : Wd) (ρ μ : List D) (F : List Addr) (S : Sta X.K W σ ρ μ F) (o : SO) (ho : fSetN i k ρ μ = some o) (h : Goes X.K ob Wx E σ W F o) : tAsg te (gName i) E σ W.H := by
  obtain ⟨ds, e1, z⟩ := map_some ho
  subst z
  refine k1 σ W ρ μ F S ds e1 _ fun p W1 n => ?_
  obtain ⟨F', S', m⟩ := S.setN (i := i) n
  exact h _ W1 F' S' m (Kept.set hi)
theorem ps1_setN {i : Nat} {x : Str} {pos' : Pos} {k : FA} (hN : X.N.Nodup) (hi : X.N[i]? = some x) (hx : Loc X.env.scope x) (he : PN X e k) (hs : swapsWith e (some (.Name x pos')) pos.line X.env = pure false := by rfl) (hf : X.fn x = true ∨ X.env.scope.names.lookup x = some .local := by first | exact .inl rfl | exact .inr rfl) (ho : i ∉ ob := by decide) :
    PS1 X ob Wx (.Assign [.Name x pos'] e pos) (fSetN i k) := by
  obtain ⟨te, p, k1⟩ := he
  exact ⟨_, ps_set hN hi hx p hs hf, setN_run k1 ho⟩
/-- y = [.. for ..] on one line: the list is the name's own, or stands still at once -/
theorem ps1_setLc {i : Nat} {y : Str} {py : Pos} {elt tg iter : Expr} {ifs : List Expr} {scope : Scope} {own : List (Str × Nat)} {spos : Pos} {it : FA} {g : D → List D → Option (List D)} {t : FB} {q : FQ} (hc : X.calm = true) (hN : X.N.Nodup) (hy : X.N[i]? = some y) (hyl : X.env.scope.names.lookup y = some .local)
    (hsw : swapsWith (.ListComp elt [⟨tg, iter, ifs, 0⟩] scope pos) (some (.Name y py)) spos.line X.env = pure true) (hi : PIQ X tg iter it) (ok : BlkOk X.N X.env.scope scope own)
    (hg : ∀ (s : Shared) (H : Hp) (C : Addr) (cl : List (Str × Addr)) (fp : List Addr), PGD (X.blk s H scope (compEnvC scope cl C X.env) fp) tg (own.map (·.2)) g)
    (ht : ∀ (s : Shared) (H : Hp) (C : Addr) (cl : List (Str × Addr)) (fp : List Addr), PTsB (X.blk s H scope (compEnvC scope cl C X.env) fp) ifs t)
    (he : ∀ (s : Shared) (H : Hp) (C : Addr) (cl : List (Str × Addr)) (fp : List Addr), PQ (X.blk s H scope (compEnvC scope cl C X.env) fp) elt q)
    (hs : ∀ x, foldedSetIterable iter X.env x = pure x := by intro _; rfl) (ho : i ∉ ob := by decide) : PS1 X ob Wx (.Assign [.Name y py] (.ListComp elt [⟨tg, iter, ifs, 0⟩] scope pos) spos) (fSetN i (qLc it g (own.map (·.2)) t q)) := by
  obtain ⟨wi, p0, k0⟩ := hi
  exact ⟨_, ps_setLc (g := gTv X.K (own.map (·.2)) g) (tt := tBv X.K t) (te := tEv X.K q) hc hN hy hyl hsw p0 ok (fun s H C cl fp => (hg s H C cl fp).can) (fun s H C cl fp => ht s H C cl fp) (fun s H C cl fp => (he s H C cl fp).can) hs,
    setN_run (fun σ W ρ μ F S out hd Q q => lc_run k0 σ W ρ μ F S out hd Q q) ho⟩
/-! ### an own list that nobody will change any more -/
def fzAt (i : Nat) (ρ : List D) : List D := match ρ[i]? with
  | some (.ml ds) => if dataL ds = true then ρ.set i (.lst ds) else ρ
  | _ => ρ
def fFz (i : Nat) (f : FS) : FS := fun ρ μ => f (fzAt i ρ) μ
theorem RS_set' {K : PySem.W.Frag} {W W' : Wd} {d' : D} {i : Nat} : ∀ {ρ : List D} {σ : List (Option V)} {F : List Addr} {j : Nat} {d : D}, RS K W ρ σ F → ρ[j]? = some d → d ≠ .un → ∃ v A B C, σ[j]? = some (some v) ∧ F = A ++ (B ++ C) ∧ R K W d v B ∧
    ∀ (G : List Addr), R K W d' v G → RS K W (ρ.set j d') σ (A ++ (G ++ C))
  | [], _, _, j, _, _, h, _ => by simp at h
  | d0 :: ρ, _, _, 0, d, h, h1, h2 => by
    obtain ⟨o, σ', F1, F2, e1, e2, e3, e4⟩ := h
    have e : d0 = d := Option.some.inj h1
    subst e
    rw [R1_iff] at e2
    rcases e2 with ⟨q, _⟩ | ⟨v, q1, q2⟩
    · exact absurd q h2
    · subst q1
      exact ⟨v, [], F1, F2, by rw [e1]; rfl, e4, q2, fun G r => ⟨some v, σ', G, F2, e1, R1_of r, e3, rfl⟩⟩
  | d0 :: ρ, _, _, j + 1, d, h, h1, h2 => by
    obtain ⟨o, σ', F1, F2, e1, e2, e3, e4⟩ := h
    obtain ⟨v, A, B, C, q1, q2, q3, q4⟩ := RS_set' (W' := W) (d' := d') (i := i) (j := j) e3 (by simpa using h1) h2
    refine ⟨v, F1 ++ A, B, C, by rw [e1]; simpa using q1, by rw [e4, q2, List.append_assoc], q3, fun G r => ?_⟩
    exact ⟨o, σ', F1, A ++ (G ++ C), e1, e2, q4 G r, by rw [List.append_assoc]⟩
theorem Sta.fz {K : PySem.W.Frag} {W : Wd} {σ : L2.St} {ρ μ : List D} {F : List Addr} (i : Nat) (S : Sta K W σ ρ μ F) : ∃ W' F', W'.H = W.H ∧ Sta K W' σ (fzAt i ρ) μ F' ∧ Mv W W' F F' := by
  have none_ : ∃ W' F', W'.H = W.H ∧ Sta K W' σ ρ μ F' ∧ Mv W W' F F' := ⟨W, F, rfl, S, (Ext.refl S.ok).mvr⟩
  unfold fzAt
  split
  case h_2 => exact none_
  case h_1 ds heq =>
    by_cases hd : dataL ds = true
    case neg => rw [if_neg hd]; exact none_
    rw [if_pos hd]
    obtain ⟨⟨F1, F2, h1, h2, h3⟩, nd, own, ok⟩ := S
    have look : ∀ (W' : Wd), ∃ v A B C, σ[i]? = some (some v) ∧ F1 = A ++ (B ++ C) ∧ R K W (.ml ds) v B ∧ True := fun _ => by
      obtain ⟨v, A, B, C, q1, q2, q3, _⟩ := RS_set' (W' := W) (d' := .non) (i := i) (j := i) h1 heq (fun z => nomatch z)
      exact ⟨v, A, B, C, q1, q2, q3, trivial⟩
    obtain ⟨v, A, B, C, q1, q2, ⟨a, vs, F', rfl, hH, hR, hB⟩, _⟩ := look W
    have z := RL_data ds hd hR
    subst z
    subst hB
    have aF : a ∈ F := by
      rw [h3, q2]
      simp
    -- the world where a stands still
    have lt : Lt W ⟨W.H, fun b => W.Fr b ∨ b = a, W.m⟩ := ⟨fun _ _ z => z, fun _ _ z => ⟨z.1, Or.inl z.2⟩, fun _ _ _ _ z z' => ⟨z, Or.inl z'⟩, fun _ _ z => z⟩
    have same : ∀ (d : D) (v : V) (G : List Addr), R K W d v G → R K ⟨W.H, fun b => W.Fr b ∨ b = a, W.m⟩ d v G := fun d v G r => R_same lt rfl d r
    have h1' : RS K ⟨W.H, fun b => W.Fr b ∨ b = a, W.m⟩ ρ σ F1 := RS_same lt rfl h1
    obtain ⟨v', A', B', C', p1, p2, p3, p4⟩ := RS_set' (W' := W) (d' := .lst ds) (i := i) (j := i) h1' heq (fun z => nomatch z)
    rw [q1] at p1
    cases p1
    obtain ⟨a', vs', F'', e1, e2, e3, e4⟩ := p3
    cases e1
    have z2 := RL_data ds hd e3
    subst z2
    subst e4
    have r2 : R K ⟨W.H, fun b => W.Fr b ∨ b = a, W.m⟩ (.lst ds) (.ref a) [] := ⟨a, vs', rfl, Or.inl ⟨Or.inl e2, Or.inr rfl⟩, e3, rfl⟩
    have p5 := p4 [] r2
    have sub : (A' ++ ([] ++ C') ++ F2).Sublist F := by
      rw [h3, p2]
      exact List.Sublist.append (List.Sublist.append (List.Sublist.refl A') (List.Sublist.append (List.nil_sublist _) (List.Sublist.refl C'))) (List.Sublist.refl F2)
    have na : a ∉ A' ++ ([] ++ C') ++ F2 := fun z => by
      rw [h3, p2] at nd
      have pm : (A' ++ ([a] ++ C') ++ F2).Perm (a :: (A' ++ C' ++ F2)) := by
        rw [List.append_assoc, List.append_assoc, List.append_assoc]
        exact List.perm_middle
      have nd2 := pm.nodup_iff.mp nd
      rw [List.nil_append] at z
      exact (List.nodup_cons.mp nd2).1 z
    refine ⟨⟨W.H, fun b => W.Fr b ∨ b = a, W.m⟩, _, rfl, ⟨⟨_, F2, p5, RL_same lt rfl μ h2, rfl⟩, nd.sublist sub, fun b hb => ?_, fun b hb => ?_⟩, ⟨fun b o h _ => h, fun b h => .inl h, fun b h => ?_, fun b hb => .inl (sub.subset hb), ⟨[], (List.append_nil _).symm⟩⟩⟩
    · obtain ⟨w1, w2⟩ := own b (sub.subset hb)
      exact ⟨fun z => z.elim w1 fun z => na (z ▸ hb), w2⟩
    · rcases hb with hb | hb
      · exact ok b hb
      · show W.H b ≠ none
        rw [hb, hH]
        exact fun z => nomatch z
    · rcases h with h | h
      · exact .inl h
      · exact .inr (.inr (by rw [h]; exact aF))
theorem pss_fz (i : Nat) (h : PSS X ob Wx ss f) : PSS X ob Wx ss (fFz i f) := by
  obtain ⟨t1, p1, k1⟩ := h
  refine ⟨_, p1, fun E σ W ρ μ F S o ho h => ?_⟩
  obtain ⟨W', F', e, S', m⟩ := S.fz i
  have z := k1 E σ W' _ μ F' S' o ho (h.after m Kept.refl)
  rw [e] at z
  exact z
theorem ps1_fz (i : Nat) (h : PS1 X ob Wx st f) : PS1 X ob Wx st (fFz i f) := by
  obtain ⟨t1, p1, k1⟩ := h
  refine ⟨_, p1, fun E σ W ρ μ F S o ho h => ?_⟩
  obtain ⟨W', F', e, S', m⟩ := S.fz i
  have z := k1 E σ W' _ μ F' S' o ho (h.after m Kept.refl)
  rw [e] at z
  exact z
end
end Fw
/-! # more statements; a def as a whole -/
namespace Fw
open PySem PySem.Spec PyProof.Rows L2
open Evl (Ex)
/-! ### a change at one's own places -/
section
variable {K : PySem.W.Frag} {W W' : Wd}
mutual
theorem R_keep (e : Lt W W') : ∀ (d : D) {v : V} {F : List Addr}, (∀ b ∈ F, W'.H b = W.H b) → R K W d v F → R K W' d v F
  | .non, _, _, _, h => h
  | .bl _, _, _, _, h => h
  | .int _, _, _, _, h => h
  | .str _, _, _, _, h => h
  | .tup ds, _, _, k, h => by
    obtain ⟨a, vs, h1, h2, h3⟩ := h
    exact ⟨a, vs, h1, e.sqT h2, RL_keep e ds k h3⟩
  | .lst ds, _, _, k, h => by
    obtain ⟨a, vs, h1, h2, h3, h4⟩ := h
    exact ⟨a, vs, h1, h2.lt e, RL_keep e ds (fun b hb => nomatch hb) h3, h4⟩
  | .ml ds, _, _, k, h => by
    obtain ⟨a, vs, F', h1, h2, h3, h4⟩ := h
    subst h4
    exact ⟨a, vs, F', h1, by rw [k a (List.mem_cons_self ..)]; exact h2, RL_keep e ds (fun b hb => k b (List.mem_cons_of_mem _ hb)) h3, rfl⟩
  | .obj c ns ds, _, _, k, h => by
    obtain ⟨a, dx, vs, F', h1, h2, h3, h4, h5⟩ := h
    subst h5
    exact ⟨a, dx, vs, F', h1, by rw [k a (List.mem_cons_self ..)]; exact h2, h3, RL_keep e ds (fun b hb => k b (List.mem_cons_of_mem _ hb)) h4, rfl⟩
  | .fo c ns ds, _, _, k, h => by
    obtain ⟨a, dx, vs, h1, h2, h3, h4, h5, h6⟩ := h
    obtain ⟨q1, q2⟩ := e.fi _ _ _ _ h2 h3
    exact ⟨a, dx, vs, h1, q1, q2, h4, RL_keep e ds (fun b hb => nomatch hb) h5, h6⟩
  | .ref k', _, _, k, h => by
    obtain ⟨a, h1, h2, h3⟩ := h
    exact ⟨a, h1, e.m _ _ h2, h3⟩
  | .un, _, _, _, h => h.elim
theorem RL_keep (e : Lt W W') : ∀ (ds : List D) {vs : List V} {F : List Addr}, (∀ b ∈ F, W'.H b = W.H b) → RL K W ds vs F → RL K W' ds vs F
  | [], _, _, _, h => h
  | d :: ds, _, _, k, h => by
    obtain ⟨v, vs', F1, F2, h1, h2, h3, h4⟩ := h
    subst h4
    exact ⟨v, vs', F1, F2, h1, R_keep e d (fun b hb => k b (List.mem_append_left _ hb)) h2, RL_keep e ds (fun b hb => k b (List.mem_append_right _ hb)) h3, rfl⟩
end
theorem R1_keep (e : Lt W W') {d : D} {o : Option V} {F : List Addr} (k : ∀ b ∈ F, W'.H b = W.H b) (h : R1 K W d o F) : R1 K W' d o F := by
  rw [R1_iff] at h ⊢
  rcases h with h | ⟨v, h1, h2⟩
  · exact .inl h
  · exact .inr ⟨v, h1, R_keep e d k h2⟩
theorem RS_keep (e : Lt W W') : ∀ {ds : List D} {σ : List (Option V)} {F : List Addr}, (∀ b ∈ F, W'.H b = W.H b) → RS K W ds σ F → RS K W' ds σ F
  | [], _, _, _, h => h
  | d :: ds, _, _, k, h => by
    obtain ⟨o, σ', F1, F2, h1, h2, h3, h4⟩ := h
    subst h4
    exact ⟨o, σ', F1, F2, h1, R1_keep e (fun b hb => k b (List.mem_append_left _ hb)) h2, RS_keep e (fun b hb => k b (List.mem_append_right _ hb)) h3, rfl⟩
/-- one slot seen apart from the others -/
theorem RS_lens : ∀ {ρ : List D} {σ : List (Option V)} {F : List Addr} {j : Nat} {d : D}, RS K W ρ σ F → ρ[j]? = some d → d ≠ .un → ∃ v A B C, σ[j]? = some (some v) ∧ F = A ++ (B ++ C) ∧ R K W d v B ∧
    ∀ (W' : Wd) (d' : D) (G : List Addr), Lt W W' → (∀ b ∈ A ++ C, W'.H b = W.H b) → R K W' d' v G → RS K W' (ρ.set j d') σ (A ++ (G ++ C))
  | [], _, _, j, _, _, h, _ => by simp at h
  | d0 :: ρ, _, _, 0, d, h, h1, h2 => by
    obtain ⟨o, σ', F1, F2, e1, e2, e3, e4⟩ := h
    have e : d0 = d := Option.some.inj h1
    subst e
    rw [R1_iff] at e2
    rcases e2 with ⟨q, _⟩ | ⟨v, q1, q2⟩
    · exact absurd q h2
    · subst q1
      exact ⟨v, [], F1, F2, by rw [e1]; rfl, e4, q2, fun W' d' G lt k r => ⟨some v, σ', G, F2, e1, R1_of r, RS_keep lt (fun b hb => k b hb) e3, rfl⟩⟩
  | d0 :: ρ, _, _, j + 1, d, h, h1, h2 => by
    obtain ⟨o, σ', F1, F2, e1, e2, e3, e4⟩ := h
    obtain ⟨v, A, B, C, q1, q2, q3, q4⟩ := RS_lens (j := j) e3 (by simpa using h1) h2
    refine ⟨v, F1 ++ A, B, C, by rw [e1]; simpa using q1, by rw [e4, q2, List.append_assoc], q3, fun W' d' G lt k r => ?_⟩
    refine ⟨o, σ', F1, A ++ (G ++ C), e1, R1_keep lt (fun b hb => k b ?_) e2, q4 W' d' G lt (fun b hb => k b ?_) r, by rw [List.append_assoc]⟩
    · exact List.mem_append_left _ (List.mem_append_left _ hb)
    · rcases List.mem_append.mp hb with z | z
      · exact List.mem_append_left _ (List.mem_append_right _ z)
      · exact List.mem_append_right _ z
end
section
variable {X : Cx} {ob : List Nat} {Wx : WX} {st : Stmt} {rest ss ss' : List Stmt} {f g : FS} {e a : Expr} {q q' : FQ} {t : FB} {pos : Pos}
/-! ### if, return -/
def fIf (t : FB) (f g : FS) : FS := fun ρ μ => (t ρ μ).bind fun b => if b = true then f ρ μ else g ρ μ
theorem ps1_if (hc : PB X e t) (ha : PSS X ob Wx ss f) (hb : PSS X ob Wx ss' g) : PS1 X ob Wx (.If e ss ss' pos) (fIf t f g) := by
  obtain ⟨t0, p0, k0⟩ := hc
  obtain ⟨t1, p1, k1⟩ := ha
  obtain ⟨t2, p2, k2⟩ := hb
  refine ⟨_, ps_if p0 p1 p2, fun E σ W ρ μ F S o ho h => ?_⟩
  obtain ⟨b, e1, ho⟩ := bind_some ho
  refine k0 σ W ρ μ F S b e1 _ fun W1 x1 => ?_
  cases b with
  | true =>
    rw [if_pos rfl] at ho ⊢
    exact k1 E σ W1 ρ μ F (S.ext x1) o ho (h.after x1.mvr Kept.refl)
  | false =>
    rw [if_neg Bool.false_ne_true] at ho ⊢
    exact k2 E σ W1 ρ μ F (S.ext x1) o ho (h.after x1.mvr Kept.refl)
def fRet (q : FQ) : FS := fun ρ μ => (q ρ μ).bind fun d => if data d = true then some (.rt d ρ μ) else none
theorem ps1_ret (he : PQ X e q) : PS1 X ob Wx (.Return (some e) pos) (fRet q) := by
  obtain ⟨te, p, k⟩ := he
  refine ⟨_, ps_ret p, fun E σ W ρ μ F S o ho h => ?_⟩
  obtain ⟨d, e1, ho⟩ := bind_some ho
  by_cases hd : data d = true
  case neg => rw [if_neg hd] at ho; cases ho
  rw [if_pos hd] at ho
  cases ho
  refine k σ W ρ μ F S d e1 _ fun v W1 G x1 r1 => ?_
  have z := R_data d hd r1
  subst z
  exact h v σ W1 [] F r1 (S.ext x1) S.nd (fun _ hb => nomatch hb) x1.mvr Kept.refl
def fRetN : FS := fun ρ μ => some (.rt .non ρ μ)
theorem ps1_retN : PS1 X ob Wx (.Return none pos) fRetN := ⟨_, ps_retN, fun E σ W ρ μ F S o ho h => by
  cases ho
  exact h .non σ W [] F ⟨rfl, rfl⟩ S S.nd (fun _ hb => nomatch hb) (Ext.refl S.ok).mvr Kept.refl⟩
/-! ### for -/
def forL (g : D → List D → Option (List D)) (b : FS) : List D → List D → List D → Option SO
  | ρ, μ, [] => some (.nx ρ μ)
  | ρ, μ, d :: ds => (g d ρ).bind fun ρ1 => (b ρ1 μ).bind fun o => match o with
    | .nx ρ2 μ2 => forL g b ρ2 μ2 ds
    | .ct ρ2 μ2 => forL g b ρ2 μ2 ds
    | .bk ρ2 μ2 => some (.nx ρ2 μ2)
    | o => some o
def fFor (it : FA) (g : D → List D → Option (List D)) (b : FS) : FS := fun ρ μ => (it ρ μ).bind fun ds => forL g b ρ μ ds
theorem wipe_other : ∀ {vs : List Nat} {σ : L2.St} {i : Nat}, i ∉ vs → (wipe σ vs)[i]? = σ[i]?
  | [], _, _, _ => rfl
  | v :: vs, σ, i, h => by
    show ((wipe σ vs).set v none)[i]? = σ[i]?
    rw [List.getElem?_set_ne (fun z => h (by rw [z]; exact List.mem_cons_self ..)), wipe_other fun z => h (List.mem_cons_of_mem _ z)]
theorem Kept.of_wipe {vs : List Nat} {σ σ' : L2.St} (h : wipe σ' vs = wipe σ vs) (d : ∀ i ∈ ob, i ∉ vs) : Kept ob σ σ' := fun i hi => by
  rw [← wipe_other (d i hi) (σ := σ'), h, wipe_other (d i hi)]
theorem ps1_for {tg iter : Expr} {body : List Stmt} {vs : List Nat} {it : FA} {gt : D → List D → Option (List D)} {b : FS} (hp : PassesOwn (model X.prog X.w) X.A X.env X.xe) (hc : X.calm = true) (hi : PIF X tg iter it) (hg : PGD X tg vs gt) (hb : PSS X ob Wx body b)
    (hs : ∀ x, foldedSetIterable iter X.env x = pure x := by intro _; rfl) (hv : ∀ i ∈ ob, i ∉ vs := by decide) : PS1 X ob Wx (.For tg iter body [] pos) (fFor it gt b) := by
  obtain ⟨wi, p0, k0⟩ := hi
  obtain ⟨tgt, p1, k1⟩ := hg
  obtain ⟨tb, p2, k2⟩ := hb
  refine ⟨_, ps_for hp hc p0 p1 p2 hs, fun E σ W ρ μ F S o ho h => ?_⟩
  obtain ⟨ds, e1, ho⟩ := bind_some ho
  refine k0 σ W ρ μ F S ds e1 _ fun J W1 x1 itd => ?_
  have S1 := S.ext x1
  refine ⟨fun i m σ2 H => m = ds.length - i ∧ i ≤ ds.length ∧ ∃ (W2 : Wd) (ρ2 μ2 : List D) (F2 : List Addr), W2.H = H ∧ Sta X.K W2 σ2 ρ2 μ2 F2 ∧ Mv W1 W2 F F2 ∧ Kept ob σ σ2 ∧ forL gt b ρ2 μ2 (ds.drop i) = some o, ⟨_, rfl, Nat.zero_le _, W1, ρ, μ, F, rfl, S1, (Ext.refl x1.ok).mvr, Kept.refl, ho⟩, ?_⟩
  rintro i m σ2 H ⟨rfl, hil, W2, ρ2, μ2, F2, rfl, S2, mv2, kp2, ho2⟩
  have lt2 := mv2.lt S1.own
  have h2 := h.after (x1.mvr.trans mv2) kp2
  by_cases hlt : i < ds.length
  · refine .inr ⟨itd.go i W2 lt2 hlt, ?_⟩
    have ed : ds.drop i = ds[i] :: ds.drop (i + 1) := List.drop_eq_getElem_cons hlt
    rw [ed] at ho2
    obtain ⟨ρ', e2, ho2⟩ := bind_some (show (gt ds[i] ρ2).bind _ = some o from ho2)
    obtain ⟨o1, e3, ho2⟩ := bind_some ho2
    refine ⟨fun σ3 H3 => i + 1 ≤ ds.length ∧ ∃ (W2 : Wd) (ρ2 μ2 : List D) (F2 : List Addr), W2.H = H3 ∧ Sta X.K W2 σ3 ρ2 μ2 F2 ∧ Mv W1 W2 F F2 ∧ Kept ob σ σ3 ∧ forL gt b ρ2 μ2 (ds.drop (i + 1)) = some o,
      fun σ3 H3 n => ⟨ds.length - (i + 1), by omega, rfl, n⟩, fun x H' hy => ?_⟩
    obtain ⟨W3, d, hW3, hd3, x3, r3⟩ := itd.yl i W2 x H' lt2 S2.ok hlt hy
    subst hW3
    rw [List.getElem?_eq_getElem hlt] at hd3
    cases hd3
    refine k1 σ2 W3 ρ2 μ2 F2 ds[i] x (S2.ext x3) r3 ρ' e2 _ fun σ3 F3 S3 sub hw => ?_
    have kp3 : Kept ob σ2 σ3 := Kept.of_wipe hw hv
    have mv3 : Mv W2 W3 F2 F3 := x3.mv sub
    refine k2 _ σ3 W3 ρ' μ2 F3 S3 o1 e3 ?_
    cases o1 with
    | nx ρ4 μ4 => exact fun σ4 W4 F4 S4 mv4 kp4 => ⟨by omega, W4, ρ4, μ4, F4, rfl, S4, (mv2.trans mv3).trans mv4, (kp2.trans kp3).trans kp4, ho2⟩
    | ct ρ4 μ4 => exact fun σ4 W4 F4 S4 mv4 kp4 => ⟨by omega, W4, ρ4, μ4, F4, rfl, S4, (mv2.trans mv3).trans mv4, (kp2.trans kp3).trans kp4, ho2⟩
    | bk ρ4 μ4 =>
      cases ho2
      exact fun σ4 W4 F4 S4 mv4 kp4 => h2 σ4 W4 F4 S4 (mv3.trans mv4) (kp3.trans kp4)
    | rt d ρ4 μ4 =>
      cases ho2
      exact fun v σ4 W4 G F4 r S4 nd own mv4 kp4 => h2 v σ4 W4 G F4 r S4 nd own (mv3.trans mv4) (kp3.trans kp4)
    | ex c fs ρ4 μ4 =>
      cases ho2
      exact fun dx σ4 W4 F4 r S4 mv4 kp4 => h2 dx σ4 W4 F4 r S4 (mv3.trans mv4) (kp3.trans kp4)
  · refine .inl ⟨itd.st i W2 lt2 (by omega), ?_⟩
    have e : ds.drop i = [] := List.drop_eq_nil_of_le (by omega)
    rw [e] at ho2
    cases ho2
    exact h2 σ2 W2 F2 S2 (Ext.refl S2.ok).mvr Kept.refl
/-! ### while -/
def whL (t : FB) (b : FS) : Nat → List D → List D → Option SO
  | 0, _, _ => none
  | n + 1, ρ, μ => (t ρ μ).bind fun c => if c = true then (b ρ μ).bind fun o => match o with
    | .nx ρ2 μ2 => whL t b n ρ2 μ2
    | .ct ρ2 μ2 => whL t b n ρ2 μ2
    | .bk ρ2 μ2 => some (.nx ρ2 μ2)
    | o => some o
    else some (.nx ρ μ)
def fWh (fuel : List D → List D → Nat) (t : FB) (b : FS) : FS := fun ρ μ => whL t b (fuel ρ μ) ρ μ
theorem ps1_while {c : Expr} {body : List Stmt} {b : FS} (fuel : List D → List D → Nat) (hp : PassesOwn (model X.prog X.w) X.A X.env X.xe) (hc : PB X c t) (hb : PSS X ob Wx body b) : PS1 X ob Wx (.While c body [] pos) (fWh fuel t b) := by
  obtain ⟨tc, p1, k1⟩ := hc
  obtain ⟨tb, p2, k2⟩ := hb
  refine ⟨_, ps_while hp p1 p2, fun E σ W ρ μ F S o ho h => ?_⟩
  refine ⟨fun m σ2 H => ∃ (W2 : Wd) (ρ2 μ2 : List D) (F2 : List Addr), W2.H = H ∧ Sta X.K W2 σ2 ρ2 μ2 F2 ∧ Mv W W2 F F2 ∧ Kept ob σ σ2 ∧ whL t b m ρ2 μ2 = some o, ⟨fuel ρ μ, W, ρ, μ, F, rfl, S, (Ext.refl S.ok).mvr, Kept.refl, ho⟩, ?_⟩
  rintro m σ2 H ⟨W2, ρ2, μ2, F2, rfl, S2, mv2, kp2, ho2⟩
  have h2 := h.after mv2 kp2
  cases m with
  | zero => cases ho2
  | succ m =>
    obtain ⟨c1, e1, ho2⟩ := bind_some (show (t ρ2 μ2).bind _ = some o from ho2)
    refine k1 σ2 W2 ρ2 μ2 F2 S2 c1 e1 _ fun W3 x3 => ?_
    have S3 := S2.ext x3
    cases c1 with
    | true =>
      rw [if_pos rfl] at ho2 ⊢
      obtain ⟨o1, e2, ho2⟩ := bind_some ho2
      refine ⟨fun σ3 H3 => ∃ (W2 : Wd) (ρ2 μ2 : List D) (F2 : List Addr), W2.H = H3 ∧ Sta X.K W2 σ3 ρ2 μ2 F2 ∧ Mv W W2 F F2 ∧ Kept ob σ σ3 ∧ whL t b m ρ2 μ2 = some o, fun σ3 H3 n => ⟨m, Nat.lt_succ_self m, n⟩, ?_⟩
      refine k2 _ σ2 W3 ρ2 μ2 F2 S3 o1 e2 ?_
      cases o1 with
      | nx ρ4 μ4 => exact fun σ4 W4 F4 S4 mv4 kp4 => ⟨W4, ρ4, μ4, F4, rfl, S4, (mv2.trans x3.mvr).trans mv4, kp2.trans kp4, ho2⟩
      | ct ρ4 μ4 => exact fun σ4 W4 F4 S4 mv4 kp4 => ⟨W4, ρ4, μ4, F4, rfl, S4, (mv2.trans x3.mvr).trans mv4, kp2.trans kp4, ho2⟩
      | bk ρ4 μ4 =>
        cases ho2
        exact fun σ4 W4 F4 S4 mv4 kp4 => h2 σ4 W4 F4 S4 (x3.mvr.trans mv4) kp4
      | rt d ρ4 μ4 =>
        cases ho2
        exact fun v σ4 W4 G F4 r S4 nd own mv4 kp4 => h2 v σ4 W4 G F4 r S4 nd own (x3.mvr.trans mv4) kp4
      | ex c fs ρ4 μ4 =>
        cases ho2
        exact fun dx σ4 W4 F4 r S4 mv4 kp4 => h2 dx σ4 W4 F4 r S4 (x3.mvr.trans mv4) kp4
    | false =>
      rw [if_neg Bool.false_ne_true] at ho2 ⊢
      cases ho2
      exact h2 σ2 W3 F2 S3 x3.mvr Kept.refl
/-! ### a, b = e -/
def fSetT (gt : D → List D → Option (List D)) (q : FQ) : FS := fun ρ μ => (q ρ μ).bind fun d => if data d = true then (gt d ρ).map fun ρ' => .nx ρ' μ else none
theorem ps1_setT {tg : Expr} {vs : List Nat} {gt : D → List D → Option (List D)} (he : PQ X e q) (hg : PGD X tg vs gt) (hs : swapsWithSole [tg] e pos.line X.env = pure false := by rfl) (hw : swappedStores [tg] e X.env = pure none := by rfl)
    (h1 : (assignEach [tg] X.env).map (·.2) = [assign tg X.env] := by rfl) (hv : ∀ i ∈ ob, i ∉ vs := by decide) : PS1 X ob Wx (.Assign [tg] e pos) (fSetT gt q) := by
  obtain ⟨te, p, k⟩ := he
  obtain ⟨tgt, p1, k1⟩ := hg
  refine ⟨_, ps_asg p p1 hs hw h1, fun E σ W ρ μ F S o ho h => ?_⟩
  obtain ⟨d, e1, ho⟩ := bind_some ho
  by_cases hd : data d = true
  case neg => rw [if_neg hd] at ho; cases ho
  rw [if_pos hd] at ho
  obtain ⟨ρ', e2, z⟩ := map_some ho
  subst z
  refine k σ W ρ μ F S d e1 _ fun v W1 G x1 r1 => ?_
  have z := R_data d hd r1
  subst z
  exact k1 σ W1 ρ μ F d v (S.ext x1) r1 ρ' e2 _ fun σ' F' S' sub hw => h σ' W1 F' S' (x1.mv sub) (Kept.of_wipe hw hv)
/-! ### x += e -/
def fAug (i : Nat) (o : D → D → Option D) (q : FQ) : FS := fun ρ μ => (qVar i ρ μ).bind fun x => (q ρ μ).bind fun y => (o x y).bind fun d => if data x = true ∧ data d = true then some (.nx (ρ.set i d) μ) else none
theorem ps1_aug {i : Nat} {x : Str} {pos' : Pos} {op : Operator} {o : D → D → Option D} (hN : X.N.Nodup) (hi : X.N[i]? = some x) (hx : Loc X.env.scope x) (ho : OpD X (inplaceOp op) o) (he : PQ X e q) (hf : X.fn x = true ∨ X.env.scope.names.lookup x = some .local := by first | exact .inl rfl | exact .inr rfl) (hob : i ∉ ob := by decide) :
    PS1 X ob Wx (.AugAssign (.Name x pos') op e pos) (fAug i o q) := by
  obtain ⟨r, hr, kr⟩ := ho
  obtain ⟨te, p, k⟩ := he
  refine ⟨_, ps_aug hN hi hx p (ti := r) hr hf, fun E σ W ρ μ F S so hso h => ?_⟩
  obtain ⟨d0, e1, hso⟩ := bind_some hso
  obtain ⟨d1, e2, hso⟩ := bind_some hso
  obtain ⟨d, e3, hso⟩ := bind_some hso
  by_cases hd : data d0 = true ∧ data d = true
  case neg => rw [if_neg hd] at hso; cases hso
  rw [if_pos hd] at hso
  cases hso
  have hr0 : ρ[i]? = some d0 ∧ d0 ≠ .un := by
    unfold qVar at e1
    cases e : ρ[i]? with
    | none => rw [e] at e1; cases e1
    | some dd =>
      rw [e] at e1
      cases dd <;> first
        | (cases e1; done)
        | (have z := Option.some.inj e1; subst z; exact ⟨rfl, fun z => nomatch z⟩)
  obtain ⟨F1, F2, h1, h2, h3⟩ := S.ex
  obtain ⟨v0, G0, s1, s2⟩ := RS_get h1 hr0.1 hr0.2
  refine ⟨v0, s1, k σ W ρ μ F S d1 e2 _ fun v1 W1 G1 x1 r1 => ?_⟩
  refine kr W1 d0 d1 v0 v1 G0 G1 x1.ok (R_ext x1 d0 s2) r1 d e3 _ fun v W2 G x2 r2 => ?_
  have z := R_data d hd.2 r2
  subst z
  have x12 := x1.trans x2
  obtain ⟨F', S', sub⟩ := (S.ext x12).set (i := i) (R1_of r2)
  exact h _ W2 F' S' (x12.mv sub) (Kept.set hob)
def dIAdd : D → D → Option D
  | .int i, .int j => some (.int (i + j))
  | .str a, .str b => if a.length + b.length ≤ LIM then some (.str (a ++ b)) else none
  | _, _ => none
theorem opd_iadd : OpD X (inplaceOp .Add) dIAdd := by
  refine ⟨_, (iop_add (X := X)).or iop_add_str, fun W x y u v G1 G2 ok r1 r2 d hd Q q => ?_⟩
  cases x with
  | int i =>
    cases y with
    | int j =>
      cases hd
      obtain ⟨rfl, _⟩ := r1
      obtain ⟨rfl, _⟩ := r2
      exact .inl ⟨i, j, rfl, rfl, q _ W [] (Ext.refl ok) ⟨rfl, rfl⟩⟩
    | _ => cases hd
  | str a =>
    cases y with
    | str b =>
      obtain ⟨rfl, _⟩ := r1
      obtain ⟨rfl, _⟩ := r2
      have hd2 : (if a.length + b.length ≤ LIM then some (D.str (a ++ b)) else none) = some d := hd
      by_cases hl : a.length + b.length ≤ LIM
      · rw [if_pos hl] at hd2
        cases hd2
        exact .inr ⟨tr a, tr b, rfl, rfl, by rw [tr_length, tr_length]; exact lim_ok hl, q _ W [] (Ext.refl ok) ⟨by rw [tr_append], rfl⟩⟩
      · rw [if_neg hl] at hd2
        cases hd2
    | _ => cases hd
  | _ => cases y <;> cases hd
theorem opd_isub : OpD X (inplaceOp .Sub) dSub := opd_int0 iop_sub fun _ _ _ => ⟨rfl, rfl⟩
end
/-! ### one slot changed in place -/
theorem Sta.lens {K : PySem.W.Frag} {W : Wd} {σ : L2.St} {ρ μ : List D} {F : List Addr} {i : Nat} {d : D} (S : Sta K W σ ρ μ F) (hi : ρ[i]? = some d) (hne : d ≠ .un) : ∃ v B, σ[i]? = some (some v) ∧ R K W d v B ∧ (∀ a ∈ B, a ∈ F) ∧ B.Nodup ∧
    ∀ (W' : Wd) (d' : D) (G : List Addr), WOk W' → W'.m = W.m → Mv W W' B G → R K W' d' v G → G.Nodup → (∀ a ∈ G, Own W' a) → ∃ F', Sta K W' σ (ρ.set i d') μ F' ∧ Mv W W' F F' := by
  obtain ⟨⟨F1, F2, h1, h2, h3⟩, nd, own, ok⟩ := S
  obtain ⟨v, A, B, C, q1, q2, q3, q4⟩ := RS_lens h1 hi hne
  subst q2
  subst h3
  have pm : ∀ B : List Addr, (A ++ (B ++ C) ++ F2).Perm (B ++ (A ++ C ++ F2)) := fun B => by
    rw [List.append_assoc A, List.append_assoc B, List.append_assoc A]
    refine (List.perm_append_comm_assoc A B (C ++ F2)).trans ?_
    exact List.Perm.refl _
  have nd2 := (pm B).nodup_iff.mp nd
  have ndB := List.nodup_append.mp nd2
  have inB : ∀ a ∈ B, a ∈ A ++ (B ++ C) ++ F2 := fun a ha => (pm B).mem_iff.mpr (List.mem_append_left _ ha)
  have inO : ∀ a ∈ A ++ C ++ F2, a ∈ A ++ (B ++ C) ++ F2 ∧ a ∉ B := fun a ha => ⟨(pm B).mem_iff.mpr (List.mem_append_right _ ha), fun z => ndB.2.2 a z a ha rfl⟩
  refine ⟨v, B, q1, q3, inB, ndB.1, fun W' d' G ok' hm mv r ndG ownG => ?_⟩
  have lt := mv.lt fun a ha => own a (inB a ha)
  have stay : ∀ a ∈ A ++ C ++ F2, W'.H a = W.H a := fun a ha => by
    obtain ⟨h4, h5⟩ := inO a ha
    obtain ⟨_, w⟩ := own a h4
    rcases w with ⟨xs, w⟩ | ⟨Cc, dx, fs, w⟩
    · rw [w]
      exact mv.keep a _ w h5
    · rw [w]
      exact mv.keep a _ w h5
  have freshG : ∀ a ∈ G, a ∉ A ++ C ++ F2 := fun a ha z => by
    obtain ⟨h4, h5⟩ := inO a z
    rcases mv.own a ha with q | q
    · exact h5 q
    · obtain ⟨_, w⟩ := own a h4
      rcases w with ⟨xs, w⟩ | ⟨Cc, dx, fs, w⟩ <;> rw [q] at w <;> cases w
  refine ⟨A ++ (G ++ C) ++ F2, ⟨⟨_, F2, q4 W' d' G lt (fun b hb => stay b (List.mem_append_left _ hb)) r, by rw [hm]; exact RL_keep lt μ (fun b hb => stay b (List.mem_append_right _ hb)) h2, rfl⟩, ?_, fun a ha => ?_, ok'⟩, ⟨fun a o e h => mv.keep a o e fun z => h (inB a z), mv.fr, fun a h => ?_, fun a ha => ?_, mv.m⟩⟩
  · refine (pm G).nodup_iff.mpr (List.nodup_append.mpr ⟨ndG, ndB.2.1, fun a ha b hb z => ?_⟩)
    subst z
    exact freshG a ha hb
  · rcases List.mem_append.mp ((pm G).mem_iff.mp ha) with z | z
    · exact ownG a z
    · obtain ⟨h4, h5⟩ := inO a z
      obtain ⟨w1, w2⟩ := own a h4
      refine ⟨fun z' => ?_, by rw [stay a z]; exact w2⟩
      rcases mv.nf a z' with q | q | q
      · exact w1 q
      · rcases w2 with ⟨xs, w⟩ | ⟨Cc, dx, fs, w⟩ <;> rw [q] at w <;> cases w
      · exact h5 q
  · rcases mv.nf a h with q | q | q
    · exact .inl q
    · exact .inr (.inl q)
    · exact .inr (.inr (inB a q))
  · rcases List.mem_append.mp ((pm G).mem_iff.mp ha) with z | z
    · rcases mv.own a z with q | q
      · exact .inl (inB a q)
      · exact .inr q
    · exact .inl (inO a z).1
section
variable {X : Cx} {ob : List Nat} {Wx : WX} {e : Expr} {q : FQ} {pos : Pos}
/-! ### x.append(e), x the name of an own list -/
def fApp (i : Nat) (q : FQ) : FS := fun ρ μ => match ρ[i]? with
  | some (.ml ds) => (q ρ μ).bind fun d => if data d = true ∧ ds.length ≤ LIM then some (.nx (ρ.set i (.ml (ds ++ [d]))) μ) else none
  | _ => none
theorem ps1_app {i : Nat} {x : Str} {px apos cpos : Pos} (hcall : ∀ te : TE, PE X e te → PE X (.Call (.Attribute (.Name x px) "append" apos) [e] [] cpos) (tBM X.K "list" rAppend (tVar i) (tCons te tNil))) (he : PQ X e q)
    (hsw : swapsWith (.Call (.Attribute (.Name x px) "append" apos) [e] [] cpos) none pos.line X.env = pure false := by rfl) : PS1 X ob Wx (.Expr (.Call (.Attribute (.Name x px) "append" apos) [e] [] cpos) pos) (fApp i q) := by
  obtain ⟨te, p, k⟩ := he
  refine ⟨_, ps_expr (hcall te p) hsw, fun E σ W ρ μ F S o ho h => ?_⟩
  unfold fApp at ho
  split at ho
  case h_2 => cases ho
  case h_1 ds heq =>
    obtain ⟨d, e1, ho⟩ := bind_some ho
    by_cases hd : data d = true ∧ ds.length ≤ LIM
    case neg => rw [if_neg hd] at ho; cases ho
    rw [if_pos hd] at ho
    cases ho
    obtain ⟨v, B, q1, ⟨a, vs, F', rfl, h2, h3, hB⟩, _⟩ := S.lens heq (fun z => nomatch z)
    refine ⟨.ref a, q1, .inl ⟨rfl, vs, Evl.sq_of h2⟩, ?_⟩
    refine k σ W ρ μ F S d e1 _ fun y W1 G x1 r1 => ?_
    have z := R_data d hd.1 r1
    subst z
    have S1 := S.ext x1
    obtain ⟨v, B, q2, ⟨a2, vs2, F2, e2, h4, h5, hB2⟩, inF, ndB, next⟩ := S1.lens heq (fun z => nomatch z)
    rw [q1] at q2
    cases q2
    cases e2
    rw [x1.ex _ _ h2] at h4
    cases h4
    have ha : Own W1 a := S1.own a (inF a (by rw [hB2]; exact List.mem_cons_self ..))
    have lt : Lt W1 ⟨upd W1.H a (.lst (vs ++ [y])), W1.Fr, W1.m⟩ := Lt.upd_lst (x1.ex _ _ h2) ha.1
    have nd2 := List.nodup_cons.mp (hB2 ▸ ndB)
    obtain ⟨F3, S3, mv3⟩ := next ⟨upd W1.H a (.lst (vs ++ [y])), W1.Fr, W1.m⟩ (.ml (ds ++ [d])) (a :: F2) (fun b hb => by
        show upd W1.H a _ b ≠ none
        by_cases z : b = a
        · rw [z, upd_same]
          exact fun z => nomatch z
        · rw [upd_ne z]
          exact x1.ok b hb) rfl
      ⟨fun b o hb nb => by
        show upd W1.H a _ b = some o
        rw [upd_ne fun z => nb (by rw [z, hB2]; exact List.mem_cons_self ..)]
        exact hb, fun _ h => h, fun _ h => .inl h, fun b hb => .inl (by rw [hB2]; exact hb), ⟨[], (List.append_nil _).symm⟩⟩
      ⟨a, vs ++ [y], F2, rfl, upd_same, by
        have k1 : RL X.K ⟨upd W1.H a (.lst (vs ++ [y])), W1.Fr, W1.m⟩ ds vs F2 := RL_keep lt ds (fun b hb => by
          show upd W1.H a _ b = W1.H b
          exact upd_ne fun z => nd2.1 (z ▸ hb)) h5
        have k2 : RL X.K ⟨upd W1.H a (.lst (vs ++ [y])), W1.Fr, W1.m⟩ [d] [y] [] := ⟨y, [], [], [], rfl, R_lt lt d r1, ⟨rfl, rfl⟩, rfl⟩
        have z := RL_app k1 k2
        rw [List.append_nil] at z
        exact z, rfl⟩ (hB2 ▸ ndB) (fun b hb => by
        by_cases z : b = a
        · subst z
          exact ⟨ha.1, .inl ⟨_, upd_same⟩⟩
        · obtain ⟨w1, w2⟩ := S1.own b (inF b (by rw [hB2]; exact hb))
          refine ⟨w1, ?_⟩
          show (∃ xs, upd W1.H a _ b = _) ∨ ∃ C dx fs, upd W1.H a _ b = _
          rw [upd_ne z]
          exact w2)
    have lv : vs.length = ds.length := RL_len h3
    refine ⟨a, vs, y, rfl, rfl, x1.ex _ _ h2, lim_lt (by omega), ?_⟩
    exact h σ _ F3 S3 (x1.mvr.trans mv3) Kept.refl
end
/-! ### a quiet def -/
def runQ (N n : Nat) (f : FS) (ds : List D) : Option D := match f (ds ++ List.replicate (N - n) .un) [] with
  | some (.rt d _ _) => if data d = true then some d else none
  | some (.nx _ _) => some .non
  | _ => none
theorem RS_start {K : PySem.W.Frag} {W : Wd} : ∀ {ds : List D} {vs : List V} (m : Nat), RL K W ds vs [] → RS K W (ds ++ List.replicate m .un) (vs.map some ++ List.replicate m none) []
  | [], vs, m, r => by
    rw [r.1]
    show RS K W (List.replicate m .un) (List.replicate m none) []
    induction m with
    | zero => exact ⟨rfl, rfl⟩
    | succ m ih => exact ⟨none, List.replicate m none, [], [], rfl, rfl, ih, rfl⟩
  | d :: ds, vs, m, r => by
    obtain ⟨v, vs', F1, F2, h1, h2, h3, h4⟩ := r
    obtain ⟨rfl, rfl⟩ := List.append_eq_nil_iff.mp h4.symm
    rw [h1]
    exact ⟨some v, vs'.map some ++ List.replicate m none, [], [], rfl, R1_of h2, RS_start m h3, rfl⟩
theorem Mv.nilQ {W W' : Wd} {G : List Addr} (m : Mv W W' [] G) (ok : WOk W') (hm : W.m = []) : Ext W ⟨W'.H, W'.Fr, []⟩ :=
  ⟨fun a o e => m.keep a o e (fun z => nomatch z), m.fr, fun a e => (m.nf a e).elim .inl (fun z => z.elim .inr (fun z => nomatch z)), hm.symm, ok⟩
theorem fnq_def {P : Program} {w : World} {K : PySem.W.Frag} {mg : Str → Option Value} {base : Heap} {nm qual : Str} {params : Arguments} {body : List Stmt} {scope : Scope} {dvs0 : List V} {kws : List (Str × V)} {fa : Addr} {fd : FuncData} {N ps : List Str} {k n : Nat} {f : FS} {run : List D → Option D}
    (F : FunD K nm qual params body scope dvs0 kws fa fd) (Sc : FnScope N ps scope) (hn : ps.length = n)
    (h : ∀ (cdv : Value) (A : Around) (outer : List Env) (s : Shared) (H : Hp) (E : XK), Room k (A.deeper (envOfC qual scope s.heap.objs.size fa cdv)) → PSS (cxOf (L2.CX P w) P w K mg base N qual scope fa cdv A outer s H E) [] (fun _ _ _ _ => False) body f)
    (hr : ∀ ds d, run ds = some d → runQ N.length n f ds = some d) : FnOk P w K mg base (L2.CX P w) (k + 1) fa fd ps (spQ K n run) := by
  refine F.ok Sc (fun vs H Q E q => ?_) (fun cdv A outer s H vs Q E hroom q => ?_)
  · obtain ⟨W, ds, d, _, _, _, r, _, hl, _⟩ := q
    rw [RL_len r, hl, hn]
  · obtain ⟨W, ds, d, hH, hWm, ok, r, hdat, hl, hrun, hdd2, q⟩ := q
    subst hH
    obtain ⟨ts, p, kk⟩ := h cdv A outer s W.H E hroom
    refine ⟨ts, p, ?_⟩
    have lv : vs.length = n := by rw [RL_len r, hl]
    have e0 : L2.start N vs = vs.map some ++ List.replicate (N.length - n) none := by
      unfold L2.start
      rw [lv]
    rw [e0]
    have S : Sta K W (vs.map some ++ List.replicate (N.length - n) none) (ds ++ List.replicate (N.length - n) .un) [] [] := ⟨⟨[], [], RS_start _ r, by rw [hWm]; exact ⟨rfl, rfl⟩, rfl⟩, List.nodup_nil, (fun _ h => nomatch h), ok⟩
    have hq := hr ds d hrun
    unfold runQ at hq
    have noM : ∀ {σ' : L2.St} {W' : Wd} {ρ' μ' : List D} {F' : List Addr}, Sta K W' σ' ρ' μ' F' → True := fun _ => trivial
    cases e1 : f (ds ++ List.replicate (N.length - n) .un) [] with
    | none => rw [e1] at hq; cases hq
    | some o =>
      rw [e1] at hq
      refine kk _ _ W _ [] [] S o e1 ?_
      cases o with
      | nx ρ' μ' =>
        cases hq
        intro σ' W' F' S' mv kp
        refine q .non ⟨W'.H, W'.Fr, []⟩ ?_ ⟨rfl, rfl⟩
        exact mv.nilQ S'.ok hWm
      | rt d' ρ' μ' =>
        have hq2 : (if data d' = true then some d' else none) = some d := hq
        by_cases hd' : data d' = true
        case neg => rw [if_neg hd'] at hq2; cases hq2
        rw [if_pos hd'] at hq2
        cases hq2
        intro v σ' W' G F' rv S' nd own mv kp
        have z := R_data d hd' rv
        subst z
        refine q v ⟨W'.H, W'.Fr, []⟩ ?_ (R_m d hd' rv)
        exact mv.nilQ S'.ok hWm
      | _ => cases hq
theorem okq_def {P : Program} {w : World} {K : PySem.W.Frag} {mg : Str → Option Value} {base : Heap} {x nm qual : Str} {params : Arguments} {body : List Stmt} {scope : Scope} {dvs0 : List V} {kws : List (Str × V)} {fa : Addr} {fd : FuncData} {N ps : List Str} {k n : Nat} {dd : List D} {dvs : List V} {us : List Value} {f : FS} {run : List D → Option D}
    (F : FunD K nm qual params body scope dvs0 kws fa fd) (Sc : FnScope N ps scope) (hn : ps.length = n) (hb : Binds K fd ps us) (hv : Vals dvs us) (hdd : ∀ W : Wd, RL K W dd dvs []) (hdt : dataL dd = true) (hm : mg x = some (.ref fa))
    (h : ∀ (cdv : Value) (A : Around) (outer : List Env) (s : Shared) (H : Hp) (E : XK), Room k (A.deeper (envOfC qual scope s.heap.objs.size fa cdv)) → PSS (cxOf (L2.CX P w) P w K mg base N qual scope fa cdv A outer s H E) [] (fun _ _ _ _ => False) body f)
    (hr : ∀ ds d, run ds = some d → runQ N.length n f ds = some d) : OkQ P w K mg base x (k + 1) n dd run :=
  ⟨fa, fd, ps, dvs, us, fnq_def F Sc hn h hr, hb, hv, hdd, hdt, hm, F.kp⟩
/-! ### what the module's names stand for -/
theorem gld_str {K : PySem.W.Frag} {mg : Str → Option Value} {x : Str} {s : String} (h : ∃ t, mg x = some (.str (Str.ofString s) t)) : GlD K mg x (.str (ofS s)) := by
  obtain ⟨t, h⟩ := h
  exact ⟨.str (Str.ofString s), _, h, ⟨t, rfl⟩, fun W => ⟨congrArg V.str (tr_ofS s), rfl⟩⟩
/-- a written value of the top -/
def dvD : He.Dv → Option D
  | .int i => some (.int i)
  | .bl b => some (.bl b)
  | .non => some .non
  | _ => none
theorem gld_tup {K : PySem.W.Frag} {mg : Str → Option Value} {x : Str} {vs : List He.Dv} {ds : List D} (h : mg x = some (.ref (He.ga K x))) (ht : He.tupB K x vs = true) (hr : ∀ W : Wd, RL K W ds (vs.map (He.Dv.v K)) []) : GlD K mg x (.tup ds) :=
  ⟨.ref (He.ga K x), _, h, rfl, fun W => ⟨_, _, rfl, He.tupB_ok ht W.H, hr W⟩⟩
theorem rl_int {K : PySem.W.Frag} {W : Wd} {i : Int} {ds : List D} {vs : List V} (h : RL K W ds vs []) : RL K W (.int i :: ds) (.int i :: vs) [] := ⟨_, _, [], [], rfl, ⟨rfl, rfl⟩, h, rfl⟩
theorem rl_str {K : PySem.W.Frag} {W : Wd} {s : String} {ds : List D} {vs : List V} (h : RL K W ds vs []) : RL K W (.str (ofS s) :: ds) (.str (Str.ofString s) :: vs) [] := ⟨_, _, [], [], rfl, ⟨congrArg V.str (tr_ofS s), rfl⟩, h, rfl⟩
/-- the law at its script -/
theorem law_sp {K : PySem.W.Frag} {run : List D → Option D} {H : Hp} {a : Addr} {ns : List Int} {E : XK} (hS : SqL K H a (ns.map V.int)) (hr : run [.lst (ns.map D.int)] = some (.bl true)) : spQ K 1 run [.ref a] H (fun v _ => v = .bl true) E := by
  have rl : ∀ (W : Wd) (l : List Int), RL K W (l.map D.int) (l.map V.int) [] := fun W l => by
    induction l with
    | nil => exact ⟨rfl, rfl⟩
    | cons i l ih => exact rl_int ih
  have dl : ∀ l : List Int, dataL (l.map D.int) = true := fun l => by
    induction l with
    | nil => rfl
    | cons i l ih => exact Bool.and_eq_true_iff.mpr ⟨rfl, ih⟩
  refine ⟨⟨H, fun b => H b ≠ none, []⟩, [.lst (ns.map D.int)], .bl true, rfl, rfl, fun b h => h, ⟨.ref a, [], [], [], rfl, ⟨a, _, rfl, ?_, rl _ ns, rfl⟩, ⟨rfl, rfl⟩, rfl⟩, Bool.and_eq_true_iff.mpr ⟨dl ns, rfl⟩, rfl, hr, rfl, fun v W' x r => r.1⟩
  rcases hS with h | h
  · refine .inl ⟨h, ?_⟩
    rcases h with h | ⟨o, h⟩
    · show H a ≠ none
      rw [h]
      exact fun z => nomatch z
    · show H a ≠ none
      rw [h]
      exact fun z => nomatch z
  · exact .inr (.inr h)
/-- any world's exceptions -/
def CXw : CXT := fun o H s E e s' => ∃ (P : Program) (w : World), L2.CX P w o H s E e s'
theorem cx_wide {P : Program} {w : World} {K : PySem.W.Frag} {mg : Str → Option Value} {base : Heap} {k : Nat} {f : Addr} {fd : FuncData} {ps : List Str} {sp : Sp} (F : FnOk P w K mg base (L2.CX P w) k f fd ps sp) : FnOk P w K mg base CXw k f fd ps sp :=
  ⟨F.len, fun A outer s H args us vs Q E hr e0 hb hv hs => codeAny_mono (F.run A outer s H args us vs Q E hr e0 hb hv hs) fun r s' q => by
    cases r with
    | error e => exact ⟨P, w, q⟩
    | ok fl => cases fl <;> exact q⟩
theorem cxw_none {o : List Env} {H : Hp} {s : Shared} {e : Value} {s' : Shared} (h : CXw o H s (fun _ _ _ => False) e s') : False := by
  obtain ⟨_, _, _, _, _, _, _, _, _, _, _, _, _, _, z⟩ := h
  exact z.elim
end Fw
/-! # reckoning mirrors: outermost first -/
namespace Fw
open PySem PySem.Spec PyProof.Rows L2
def seqK (o : Option SO) (g : FS) : Option SO := o.bind fun o => match o with
  | .nx ρ' μ' => g ρ' μ'
  | o => some o
theorem fSeq_eq (f g : FS) (x0 : D) (ρ μ : List D) : fSeq f g (x0 :: ρ) μ = seqK (f (x0 :: ρ) μ) g := rfl
theorem seqK_nx (ρ μ : List D) (g : FS) : seqK (some (.nx ρ μ)) g = g ρ μ := rfl
theorem seqK_rt (d : D) (ρ μ : List D) (g : FS) : seqK (some (.rt d ρ μ)) g = some (.rt d ρ μ) := rfl
theorem seqK_ex (c : Str) (fs : List (Str × D)) (ρ μ : List D) (g : FS) : seqK (some (.ex c fs ρ μ)) g = some (.ex c fs ρ μ) := rfl
/-- the end of a turn -/
def turnK (g : D → List D → Option (List D)) (b : FS) (ds : List D) (o : Option SO) : Option SO := o.bind fun o => match o with
  | .nx ρ2 μ2 => forL g b ρ2 μ2 ds
  | .ct ρ2 μ2 => forL g b ρ2 μ2 ds
  | .bk ρ2 μ2 => some (.nx ρ2 μ2)
  | o => some o
theorem forL_nil (g : D → List D → Option (List D)) (b : FS) (ρ μ : List D) : forL g b ρ μ [] = some (.nx ρ μ) := rfl
theorem forL_cons (g : D → List D → Option (List D)) (b : FS) (ρ μ : List D) (d : D) (ds : List D) : forL g b ρ μ (d :: ds) = (g d ρ).bind fun ρ1 => turnK g b ds (b ρ1 μ) := rfl
theorem turnK_nx (g : D → List D → Option (List D)) (b : FS) (ds ρ μ : List D) : turnK g b ds (some (.nx ρ μ)) = forL g b ρ μ ds := rfl
theorem turnK_rt (g : D → List D → Option (List D)) (b : FS) (ds : List D) (d : D) (ρ μ : List D) : turnK g b ds (some (.rt d ρ μ)) = some (.rt d ρ μ) := rfl
/-- one turn that goes on -/
theorem forL_turn {g : D → List D → Option (List D)} {b : FS} {ρ μ ρ1 ρ2 μ2 : List D} {d : D} {ds : List D} (h1 : g d ρ = some ρ1) (h2 : b ρ1 μ = some (.nx ρ2 μ2)) : forL g b ρ μ (d :: ds) = forL g b ρ2 μ2 ds := by
  rw [forL_cons, h1]
  show turnK g b ds (b ρ1 μ) = _
  rw [h2]
  rfl
/-- a loop all of whose turns go on, I kept -/
theorem forL_all {g : D → List D → Option (List D)} {b : FS} {μ : List D} {I : List D → Prop} : ∀ (ds : List D) (ρ : List D), I ρ → (∀ d ∈ ds, ∀ ρ, I ρ → ∃ ρ1 ρ2, g d ρ = some ρ1 ∧ b ρ1 μ = some (.nx ρ2 μ) ∧ I ρ2) → ∃ ρ', forL g b ρ μ ds = some (.nx ρ' μ) ∧ I ρ'
  | [], ρ, h, _ => ⟨ρ, rfl, h⟩
  | d :: ds, ρ, h, k => by
    obtain ⟨ρ1, ρ2, h1, h2, h3⟩ := k d (List.mem_cons_self ..) ρ h
    obtain ⟨ρ', h4, h5⟩ := forL_all ds ρ2 h3 fun d hd => k d (List.mem_cons_of_mem _ hd)
    exact ⟨ρ', by rw [forL_turn h1 h2, h4], h5⟩
/-- the def's end -/
def endK (o : Option SO) : Option D := match o with
  | some (.rt d _ _) => if data d = true then some d else none
  | some (.nx _ _) => some .non
  | _ => none
theorem runQ_eq (N n : Nat) (f : FS) (ds : List D) : runQ N n f ds = endK (f (ds ++ List.replicate (N - n) .un) []) := by
  unfold runQ endK
  cases f (ds ++ List.replicate (N - n) .un) [] with
  | none => rfl
  | some o => cases o <;> rfl
theorem endK_rt (d : D) (ρ μ : List D) : endK (some (.rt d ρ μ)) = if data d = true then some d else none := rfl
theorem endK_nx (ρ μ : List D) : endK (some (.nx ρ μ)) = some .non := rfl
/-! ### the pieces by value -/
def varK (o : Option D) : Option D := match o with
  | some .un => none
  | o => o
theorem qVar_zero (d : D) (ρ μ : List D) : qVar 0 (d :: ρ) μ = varK (some d) := by cases d <;> rfl
theorem qVar_succ (i : Nat) (d : D) (ρ μ : List D) : qVar (i + 1) (d :: ρ) μ = qVar i ρ μ := rfl
theorem varK_int (i : Int) : varK (some (.int i)) = some (.int i) := rfl
theorem varK_str (i : List Nat) : varK (some (.str i)) = some (.str i) := rfl
theorem varK_bl (i : Bool) : varK (some (.bl i)) = some (.bl i) := rfl
theorem varK_non : varK (some .non) = some .non := rfl
theorem varK_tup (i : List D) : varK (some (.tup i)) = some (.tup i) := rfl
theorem varK_lst (i : List D) : varK (some (.lst i)) = some (.lst i) := rfl
theorem varK_ml (i : List D) : varK (some (.ml i)) = some (.ml i) := rfl
def blK (o : Option D) : Option Bool := match o with
  | some (.bl b) => some b
  | _ => none
theorem qB_eq (f : FQ) (x0 : D) (ρ μ : List D) : qB f (x0 :: ρ) μ = blK (f (x0 :: ρ) μ) := rfl
theorem blK_bl (b : Bool) : blK (some (.bl b)) = some b := rfl
def andK (o : Option D) (r : Option D) : Option D := match o with
  | some (.bl true) => r
  | some (.bl false) => some (.bl false)
  | _ => none
def orK (o : Option D) (r : Option D) : Option D := match o with
  | some (.bl false) => r
  | some (.bl true) => some (.bl true)
  | _ => none
theorem qAnd_eq (f g : FQ) (x0 : D) (ρ μ : List D) : qAnd f g (x0 :: ρ) μ = andK (f (x0 :: ρ) μ) (g (x0 :: ρ) μ) := rfl
theorem qOr_eq (f g : FQ) (x0 : D) (ρ μ : List D) : qOr f g (x0 :: ρ) μ = orK (f (x0 :: ρ) μ) (g (x0 :: ρ) μ) := rfl
theorem andK_t (r : Option D) : andK (some (.bl true)) r = r := rfl
theorem andK_f (r : Option D) : andK (some (.bl false)) r = some (.bl false) := rfl
theorem orK_f (r : Option D) : orK (some (.bl false)) r = r := rfl
theorem orK_t (r : Option D) : orK (some (.bl true)) r = some (.bl true) := rfl
theorem andK_b (b c : Bool) : andK (some (.bl b)) (some (.bl c)) = some (.bl (b && c)) := by cases b <;> rfl
theorem orK_b (b c : Bool) : orK (some (.bl b)) (some (.bl c)) = some (.bl (b || c)) := by cases b <;> rfl
def notK (o : Option D) : Option D := match o with
  | some (.bl b) => some (.bl (!b))
  | _ => none
theorem qNot_eq (f : FQ) (x0 : D) (ρ μ : List D) : qNot f (x0 :: ρ) μ = notK (f (x0 :: ρ) μ) := rfl
theorem notK_b (b : Bool) : notK (some (.bl b)) = some (.bl (!b)) := rfl
/-- a chain of two comparisons -/
def chK (o : Option D) (r : Option D) : Option D := match o with
  | some (.bl true) => r
  | some (.bl false) => some (.bl false)
  | _ => none
theorem q3_eq (o o' : D → D → Option D) (f g h : FQ) (x0 : D) (ρ μ : List D) : q3 o o' f g h (x0 :: ρ) μ = (f (x0 :: ρ) μ).bind fun x => (g (x0 :: ρ) μ).bind fun y => andK (o x y) ((h (x0 :: ρ) μ).bind fun z => o' y z) := rfl
def appK (i : Nat) (ρ μ : List D) (q : FQ) (o : Option D) : Option SO := match o with
  | some (.ml ds) => (q ρ μ).bind fun d => if data d = true ∧ ds.length ≤ LIM then some (.nx (ρ.set i (.ml (ds ++ [d]))) μ) else none
  | _ => none
theorem fApp_eq (i : Nat) (q : FQ) (x0 : D) (ρ μ : List D) : fApp i q (x0 :: ρ) μ = appK i (x0 :: ρ) μ q (x0 :: ρ)[i]? := by
  unfold fApp appK
  rfl
theorem appK_ml (i : Nat) (ρ μ : List D) (q : FQ) (ds : List D) : appK i ρ μ q (some (.ml ds)) = (q ρ μ).bind fun d => if data d = true ∧ ds.length ≤ LIM then some (.nx (ρ.set i (.ml (ds ++ [d]))) μ) else none := rfl
def fzK (i : Nat) (ρ : List D) (o : Option D) : List D := match o with
  | some (.ml ds) => if dataL ds = true then ρ.set i (.lst ds) else ρ
  | _ => ρ
theorem fFz_eq (i : Nat) (f : FS) (x0 : D) (ρ μ : List D) : fFz i f (x0 :: ρ) μ = f (fzK i (x0 :: ρ) (x0 :: ρ)[i]?) μ := rfl
theorem fzK_ml (i : Nat) (ρ ds : List D) : fzK i ρ (some (.ml ds)) = if dataL ds = true then ρ.set i (.lst ds) else ρ := rfl
def rgK (o : Option D) : Option (List D) := match o with
  | some (.int j) => if small62 j = true then some (rangeD 0 j) else none
  | _ => none
theorem aR1_eq (f : FQ) (x0 : D) (ρ μ : List D) : aR1 f (x0 :: ρ) μ = rgK (f (x0 :: ρ) μ) := rfl
theorem rgK_int (j : Int) : rgK (some (.int j)) = if small62 j = true then some (rangeD 0 j) else none := rfl
def rg2K (x y : D) : Option (List D) := match x, y with
  | .int i, .int j => if small62 i = true ∧ small62 j = true then some (rangeD i j) else none
  | _, _ => none
theorem aR2_eq (f g : FQ) (x0 : D) (ρ μ : List D) : aR2 f g (x0 :: ρ) μ = (f (x0 :: ρ) μ).bind fun x => (g (x0 :: ρ) μ).bind fun y => rg2K x y := by
  unfold aR2
  cases f (x0 :: ρ) μ with
  | none => rfl
  | some x =>
    cases g (x0 :: ρ) μ with
    | none => cases x <;> rfl
    | some y => cases x <;> cases y <;> rfl
theorem rg2K_int (i j : Int) : rg2K (.int i) (.int j) = if small62 i = true ∧ small62 j = true then some (rangeD i j) else none := rfl
def osK (o : Option D) : Option (Option Int) := match o with
  | some (.int i) => some (some i)
  | _ => none
theorem oSome_eq (f : FQ) (x0 : D) (ρ μ : List D) : oSome f (x0 :: ρ) μ = osK (f (x0 :: ρ) μ) := rfl
theorem osK_int (i : Int) : osK (some (.int i)) = some (some i) := rfl
def m1K (o : List Nat → List D → Option D) (x : Option D) (r : Option D) : Option D := match x with
  | some (.str s) => r.bind fun d => o s [d]
  | _ => none
theorem qM1_eq (o : List Nat → List D → Option D) (f g : FQ) (x0 : D) (ρ μ : List D) : qM1 o f g (x0 :: ρ) μ = m1K o (f (x0 :: ρ) μ) (g (x0 :: ρ) μ) := rfl
theorem m1K_str (o : List Nat → List D → Option D) (s : List Nat) (d : D) : m1K o (some (.str s)) (some d) = o s [d] := rfl
def m0K (o : List Nat → List D → Option D) (x : Option D) : Option D := match x with
  | some (.str s) => o s []
  | _ => none
theorem qM0_eq (o : List Nat → List D → Option D) (f : FQ) (x0 : D) (ρ μ : List D) : qM0 o f (x0 :: ρ) μ = m0K o (f (x0 :: ρ) μ) := rfl
theorem m0K_str (o : List Nat → List D → Option D) (s : List Nat) : m0K o (some (.str s)) = o s [] := rfl
/-! ### operators at written kinds -/
theorem dAdd_int (i j : Int) : dAdd (.int i) (.int j) = some (.int (i + j)) := rfl
theorem dAdd_str (a b : List Nat) : dAdd (.str a) (.str b) = if a.length + b.length ≤ LIM then some (.str (a ++ b)) else none := rfl
theorem dAdd_tup (a b : List D) : dAdd (.tup a) (.tup b) = if a.length + b.length ≤ LIM ∧ dataL a = true ∧ dataL b = true then some (.tup (a ++ b)) else none := rfl
theorem dAdd_lst (a b : List D) : dAdd (.lst a) (.lst b) = if a.length + b.length ≤ LIM then some (.lst (a ++ b)) else none := rfl
theorem dAdd_mlst (a b : List D) : dAdd (.ml a) (.lst b) = if dataL a = true then (if a.length + b.length ≤ LIM then some (.lst (a ++ b)) else none) else none := by
  show ((if dataL a = true then some a else none).bind _) = _
  by_cases h : dataL a = true
  · rw [if_pos h, if_pos h]
    rfl
  · rw [if_neg h, if_neg h]
    rfl
theorem dInt_int (C : Int → Int → Bool) (g : Int → Int → D) (i j : Int) : dInt C g (.int i) (.int j) = if C i j = true then some (g i j) else none := rfl
theorem eqDB_atom {x y : D} {u v : V} (h1 : atom x = some u) (h2 : atom y = some v) (h3 : scal u v = true) : eqDB x y = some (decide (u = v)) := by
  unfold eqDB
  rw [h1, h2]
  exact if_pos h3
theorem dEq_int (i j : Int) : dEq (.int i) (.int j) = some (.bl (decide (i = j))) := by
  unfold dEq
  rw [eqDB_atom rfl rfl rfl]
  exact congrArg (fun b => some (D.bl b)) (by rw [dec_int]; exact (decide_eq_decide.mpr Iff.rfl ▸ rfl))
theorem dNe_int (i j : Int) : dNe (.int i) (.int j) = some (.bl (!decide (i = j))) := by
  unfold dNe
  rw [eqDB_atom rfl rfl rfl]
  exact congrArg (fun b => some (D.bl !b)) (by rw [dec_int]; exact (decide_eq_decide.mpr Iff.rfl ▸ rfl))
theorem dec_tr (a b : List Nat) : decide (V.str (tr a) = V.str (tr b)) = decide (a = b) := by
  by_cases h : a = b
  · subst h
    rw [decide_eq_true rfl, decide_eq_true rfl]
  · rw [decide_eq_false h, decide_eq_false]
    exact fun z => h (tr_inj (V.str.inj z))
theorem dEq_str (a b : List Nat) : dEq (.str a) (.str b) = some (.bl (decide (a = b))) := by
  unfold dEq
  rw [eqDB_atom rfl rfl rfl, dec_tr]
  rfl
theorem dNe_str (a b : List Nat) : dNe (.str a) (.str b) = some (.bl (!decide (a = b))) := by
  unfold dNe
  rw [eqDB_atom rfl rfl rfl, dec_tr]
  rfl
theorem dEq_bl (a b : Bool) : dEq (.bl a) (.bl b) = some (.bl (a == b)) := by cases a <;> cases b <;> rfl
theorem dNe_bl (a b : Bool) : dNe (.bl a) (.bl b) = some (.bl (a != b)) := by cases a <;> cases b <;> rfl
theorem dLt_int (i j : Int) : dLt (.int i) (.int j) = some (.bl (decide (i < j))) := rfl
theorem dLe_int (i j : Int) : dLe (.int i) (.int j) = some (.bl (decide (i ≤ j))) := rfl
theorem dGt_int (i j : Int) : dGt (.int i) (.int j) = some (.bl (decide (j < i))) := rfl
theorem dGe_int (i j : Int) : dGe (.int i) (.int j) = some (.bl (decide (j ≤ i))) := rfl
theorem dLe_str (a b : List Nat) : dLe (.str a) (.str b) = some (.bl (!decide (b < a))) := rfl
theorem dLen_str (s : List Nat) : dLen (.str s) = if s.length ≤ LIM then some (.int s.length) else none := rfl
theorem dLen_lst (s : List D) : dLen (.lst s) = some (.int s.length) := rfl
theorem dLen_ml (s : List D) : dLen (.ml s) = some (.int s.length) := rfl
theorem dLen_tup (s : List D) : dLen (.tup s) = some (.int s.length) := rfl
theorem dIx_lst (ds : List D) (i : Int) : dIx (.lst ds) (.int i) = ixAt ds i := rfl
theorem dIx_ml (ds : List D) (i : Int) : dIx (.ml ds) (.int i) = ixAt ds i := rfl
theorem dIx_tup (ds : List D) (i : Int) : dIx (.tup ds) (.int i) = ixAt ds i := rfl
theorem dIx_str (s : List Nat) (i : Int) : dIx (.str s) (.int i) = if s.length ≤ LIM then (ixAt s i).map fun c => .str [c] else none := rfl
theorem o1_eq (g : D → Option D) (d : D) : o1 g [d] = g d := rfl
theorem o2_eq (g : D → D → Option D) (d e : D) : o2 g [d, e] = g d e := rfl
theorem oStr_eq (h : List Nat → List Nat → D) (s t : List Nat) : oStr h s [.str t] = some (h s t) := rfl
theorem itemsF_lst (ds : List D) : itemsF (.lst ds) = some ds := rfl
theorem itemsF_str (s : List Nat) : itemsF (.str s) = some (s.map fun c => .str [c]) := rfl
theorem itemsF_tup (ds : List D) : itemsF (.tup ds) = if dataL ds = true then some ds else none := rfl
theorem dSl_str (s : List Nat) (lo hi : Option Int) : dSl (.str s) lo hi = if s.length ≤ LIM then some (.str (cut s lo hi)) else none := rfl
theorem dSl_lst (ds : List D) (lo hi : Option Int) : dSl (.lst ds) lo hi = some (.lst (cut ds lo hi)) := rfl
theorem dSl_tup (ds : List D) (lo hi : Option Int) : dSl (.tup ds) lo hi = if dataL ds = true then some (.tup (cut ds lo hi)) else none := rfl
/-- up to n -/
theorem cut_take {α : Type} (xs : List α) (n : Nat) : cut xs none (some (n : Int)) = xs.take n := by
  unfold cut
  rw [HT.sIx_none, HT.sIx_nat, List.drop_zero, Nat.sub_zero]
  by_cases h : n ≤ xs.length
  · rw [Nat.min_eq_left h]
  · rw [Nat.min_eq_right (by omega), List.take_of_length_le (by omega), List.take_of_length_le (by omega)]
theorem cut_drop {α : Type} (xs : List α) (n : Nat) : cut xs (some (n : Int)) none = xs.drop n := by
  unfold cut
  rw [HT.sIx_none, HT.sIx_nat]
  by_cases h : n ≤ xs.length
  · rw [Nat.min_eq_left h, List.take_of_length_le (by rw [List.length_drop]; omega)]
  · rw [Nat.min_eq_right (by omega), Nat.sub_self, List.take_zero, List.drop_eq_nil_of_le (by omega)]
theorem ixAt_nat {α : Type} (xs : List α) (i : Nat) : ixAt xs (i : Int) = xs[i]? := by
  unfold ixAt
  rw [if_pos (by omega), Int.toNat_natCast]
theorem ixAt_pos {α : Type} {xs : List α} {i : Int} (h : 0 ≤ i) : ixAt xs i = xs[i.toNat]? := by
  unfold ixAt
  rw [if_pos h]
theorem dataL_ints : ∀ l : List Int, dataL (l.map D.int) = true
  | [] => rfl
  | _ :: l => Bool.and_eq_true_iff.mpr ⟨rfl, dataL_ints l⟩
theorem dataL_strs : ∀ l : List (List Nat), dataL (l.map D.str) = true
  | [] => rfl
  | _ :: l => Bool.and_eq_true_iff.mpr ⟨rfl, dataL_strs l⟩
/-! ### all others, at a list of slots that is seen -/
section
variable (x0 : D) (ρ μ : List D)
theorem qC_eq (d : D) : qC d (x0 :: ρ) μ = some d := rfl
theorem q2_eq (o : D → D → Option D) (f g : FQ) : q2 o f g (x0 :: ρ) μ = (f (x0 :: ρ) μ).bind fun x => (g (x0 :: ρ) μ).bind fun y => o x y := rfl
theorem qIf_eq (t : FB) (f g : FQ) : qIf t f g (x0 :: ρ) μ = (t (x0 :: ρ) μ).bind fun x => if x = true then f (x0 :: ρ) μ else g (x0 :: ρ) μ := rfl
theorem qTup_eq (k : FA) : qTup k (x0 :: ρ) μ = (k (x0 :: ρ) μ).bind fun ds => if ds.length ≤ 100 then some (.tup ds) else none := rfl
theorem qN_eq (k : FA) : qN k (x0 :: ρ) μ = (k (x0 :: ρ) μ).map D.lst := rfl
theorem qSl_eq (f : FQ) (lo hi : FO) : qSl f lo hi (x0 :: ρ) μ = (f (x0 :: ρ) μ).bind fun x => (lo (x0 :: ρ) μ).bind fun l => (hi (x0 :: ρ) μ).bind fun h => dSl x l h := rfl
theorem oNone_eq : oNone (x0 :: ρ) μ = some none := rfl
theorem qCall_eq (o : List D → Option D) (k : FA) : qCall o k (x0 :: ρ) μ = (k (x0 :: ρ) μ).bind o := rfl
theorem qRun_eq (n : Nat) (dd : List D) (run : List D → Option D) (k : FA) : qRun n dd run k (x0 :: ρ) μ = (k (x0 :: ρ) μ).bind fun ds => if dataL ds = true ∧ (ds ++ dd).length = n then (run (ds ++ dd)).bind fun d => if data d = true then some d else none else none := rfl
theorem qIsi_eq (T : String) (f : FQ) : qIsi T f (x0 :: ρ) μ = (f (x0 :: ρ) μ).bind fun d => (tyN d).bind fun n => (kitB n T).map D.bl := rfl
theorem aNil_eq : aNil (x0 :: ρ) μ = some [] := rfl
theorem aCons_eq (f : FQ) (k : FA) : aCons f k (x0 :: ρ) μ = (f (x0 :: ρ) μ).bind fun d => (k (x0 :: ρ) μ).map fun ds => d :: ds := rfl
theorem aData_eq (k : FA) : aData k (x0 :: ρ) μ = (k (x0 :: ρ) μ).bind fun ds => if dataL ds = true ∧ ds.length ≤ 100 then some ds else none := rfl
theorem aF_eq (f : FQ) : aF f (x0 :: ρ) μ = (f (x0 :: ρ) μ).bind itemsF := rfl
theorem aQ_eq (f : FQ) : aQ f (x0 :: ρ) μ = (f (x0 :: ρ) μ).bind itemsQ := rfl
theorem bAnd_eq (t u : FB) : bAnd t u (x0 :: ρ) μ = (t (x0 :: ρ) μ).bind fun x => if x = true then u (x0 :: ρ) μ else some false := rfl
theorem bOr_eq (t u : FB) : bOr t u (x0 :: ρ) μ = (t (x0 :: ρ) μ).bind fun x => if x = true then some true else u (x0 :: ρ) μ := rfl
theorem bNot_eq (t : FB) : bNot t (x0 :: ρ) μ = (t (x0 :: ρ) μ).map not := rfl
theorem fNext_eq : fNext (x0 :: ρ) μ = some (.nx (x0 :: ρ) μ) := rfl
theorem fSet_eq (i : Nat) (q : FQ) : fSet i q (x0 :: ρ) μ = (q (x0 :: ρ) μ).bind fun d => if data d = true then some (.nx ((x0 :: ρ).set i d) μ) else none := rfl
theorem fSetN_eq (i : Nat) (k : FA) : fSetN i k (x0 :: ρ) μ = (k (x0 :: ρ) μ).map fun ds => .nx ((x0 :: ρ).set i (.ml ds)) μ := rfl
theorem fSetT_eq (gt : D → List D → Option (List D)) (q : FQ) : fSetT gt q (x0 :: ρ) μ = (q (x0 :: ρ) μ).bind fun d => if data d = true then (gt d (x0 :: ρ)).map fun ρ' => .nx ρ' μ else none := rfl
theorem fIf_eq (t : FB) (f g : FS) : fIf t f g (x0 :: ρ) μ = (t (x0 :: ρ) μ).bind fun b => if b = true then f (x0 :: ρ) μ else g (x0 :: ρ) μ := rfl
theorem fRet_eq (q : FQ) : fRet q (x0 :: ρ) μ = (q (x0 :: ρ) μ).bind fun d => if data d = true then some (.rt d (x0 :: ρ) μ) else none := rfl
theorem fRetN_eq : fRetN (x0 :: ρ) μ = some (.rt .non (x0 :: ρ) μ) := rfl
theorem fFor_eq (it : FA) (g : D → List D → Option (List D)) (b : FS) : fFor it g b (x0 :: ρ) μ = (it (x0 :: ρ) μ).bind fun ds => forL g b (x0 :: ρ) μ ds := rfl
theorem fAug_eq (i : Nat) (o : D → D → Option D) (q : FQ) : fAug i o q (x0 :: ρ) μ = (qVar i (x0 :: ρ) μ).bind fun x => (q (x0 :: ρ) μ).bind fun y => (o x y).bind fun d => if data x = true ∧ data d = true then some (.nx ((x0 :: ρ).set i d) μ) else none := rfl
theorem tgN_eq (i : Nat) (d : D) : tgN i d (x0 :: ρ) = if data d = true then some ((x0 :: ρ).set i d) else none := rfl
theorem tgT_eq (is : List Nat) (ds : List D) : tgT is (.tup ds) (x0 :: ρ) = tgs is ds (x0 :: ρ) := rfl
theorem tgs_cons (i : Nat) (is : List Nat) (d : D) (ds : List D) : tgs (i :: is) (d :: ds) ρ = (tgN i d ρ).bind fun ρ' => tgs is ds ρ' := rfl
theorem tgs_nil : tgs [] [] ρ = some ρ := rfl
end
theorem cMul_r {i j : Int} (h1 : -18446744073709551616 < j) (h2 : j < 18446744073709551616) : cMul i j = true := decide_eq_true (.inr ⟨h1, h2⟩)
theorem cMul_l {i j : Int} (h1 : -18446744073709551616 < i) (h2 : i < 18446744073709551616) : cMul i j = true := decide_eq_true (.inl ⟨h1, h2⟩)
theorem small62_of {i : Int} (h1 : -4611686018427387904 ≤ i) (h2 : i < 4611686018427387904) : small62 i = true := decide_eq_true ⟨h1, h2⟩
theorem tyN_NoneType : tyN .non = some "NoneType" := rfl
theorem tyN_bool (b : Bool) : tyN (.bl b) = some "bool" := rfl
theorem tyN_int (b : Int) : tyN (.int b) = some "int" := rfl
theorem tyN_str (b : List Nat) : tyN (.str b) = some "str" := rfl
theorem tyN_list (b : List D) : tyN (.lst b) = some "list" := rfl
theorem tyN_tuple (b : List D) : tyN (.tup b) = some "tuple" := rfl
theorem tyN_ml (b : List D) : tyN (.ml b) = some "list" := rfl
theorem kitB_NoneType_bool : kitB "NoneType" "bool" = some false := by decide +kernel
theorem kitB_NoneType_int : kitB "NoneType" "int" = some false := by decide +kernel
theorem kitB_NoneType_str : kitB "NoneType" "str" = some false := by decide +kernel
theorem kitB_NoneType_list : kitB "NoneType" "list" = some false := by decide +kernel
theorem kitB_NoneType_tuple : kitB "NoneType" "tuple" = some false := by decide +kernel
theorem kitB_bool_bool : kitB "bool" "bool" = some true := by decide +kernel
theorem kitB_bool_int : kitB "bool" "int" = some true := by decide +kernel
theorem kitB_bool_str : kitB "bool" "str" = some false := by decide +kernel
theorem kitB_bool_list : kitB "bool" "list" = some false := by decide +kernel
theorem kitB_bool_tuple : kitB "bool" "tuple" = some false := by decide +kernel
theorem kitB_int_bool : kitB "int" "bool" = some false := by decide +kernel
theorem kitB_int_int : kitB "int" "int" = some true := by decide +kernel
theorem kitB_int_str : kitB "int" "str" = some false := by decide +kernel
theorem kitB_int_list : kitB "int" "list" = some false := by decide +kernel
theorem kitB_int_tuple : kitB "int" "tuple" = some false := by decide +kernel
theorem kitB_str_bool : kitB "str" "bool" = some false := by decide +kernel
theorem kitB_str_int : kitB "str" "int" = some false := by decide +kernel
theorem kitB_str_str : kitB "str" "str" = some true := by decide +kernel
theorem kitB_str_list : kitB "str" "list" = some false := by decide +kernel
theorem kitB_str_tuple : kitB "str" "tuple" = some false := by decide +kernel
theorem kitB_list_bool : kitB "list" "bool" = some false := by decide +kernel
theorem kitB_list_int : kitB "list" "int" = some false := by decide +kernel
theorem kitB_list_str : kitB "list" "str" = some false := by decide +kernel
theorem kitB_list_list : kitB "list" "list" = some true := by decide +kernel
theorem kitB_list_tuple : kitB "list" "tuple" = some false := by decide +kernel
theorem kitB_tuple_bool : kitB "tuple" "bool" = some false := by decide +kernel
theorem kitB_tuple_int : kitB "tuple" "int" = some false := by decide +kernel
theorem kitB_tuple_str : kitB "tuple" "str" = some false := by decide +kernel
theorem kitB_tuple_list : kitB "tuple" "list" = some false := by decide +kernel
theorem kitB_tuple_tuple : kitB "tuple" "tuple" = some true := by decide +kernel
end Fw
/-! # expressions that change something: footprints, a part seen apart -/
namespace Fw
open PySem PySem.Spec PyProof.Rows L2
open Evl (Ex)
section
variable {K : PySem.W.Frag} {W W' : Wd}
theorem Mv.sub {F F1 G G1 : List Addr} (h : Mv W W' F G) (h1 : ∀ a ∈ F, a ∈ F1) (h2 : ∀ a ∈ G1, a ∈ G) : Mv W W' F1 G1 :=
  ⟨fun a o e n => h.keep a o e fun z => n (h1 a z), h.fr, fun a e => (h.nf a e).elim .inl fun z => .inr (z.elim .inl fun z => .inr (h1 a z)), fun a ha => (h.own a (h2 a ha)).elim (fun z => .inl (h1 a z)) .inr, h.m⟩
theorem Sta.len {σ : L2.St} {ρ μ : List D} {F : List Addr} (S : Sta K W σ ρ μ F) : σ.length = ρ.length := by
  obtain ⟨F1, F2, h1, _, _⟩ := S.ex
  exact RS_len h1
/-- a list that differs in the order alone -/
theorem nodup_of_perm {F F' : List Addr} (h : F'.Perm F) (n : F.Nodup) : F'.Nodup := h.nodup_iff.mpr n
/-! ### slots in two groups -/
theorem RS_app : ∀ {xs ρ : List D} {τ σ : List (Option V)} {F G : List Addr}, RS K W xs τ F → RS K W ρ σ G → RS K W (xs ++ ρ) (τ ++ σ) (F ++ G)
  | [], ρ, τ, σ, F, G, h, g => by
    rw [h.1, h.2]
    exact g
  | d :: xs, ρ, τ, σ, F, G, h, g => by
    obtain ⟨o, τ', F1, F2, e1, e2, e3, e4⟩ := h
    exact ⟨o, τ' ++ σ, F1, F2 ++ G, by rw [e1]; rfl, e2, RS_app e3 g, by rw [e4, List.append_assoc]⟩
theorem RS_cut : ∀ {xs ρ : List D} {τ σ : List (Option V)} {F : List Addr}, τ.length = xs.length → RS K W (xs ++ ρ) (τ ++ σ) F → ∃ F1 F2, F = F1 ++ F2 ∧ RS K W xs τ F1 ∧ RS K W ρ σ F2
  | [], ρ, τ, σ, F, hl, h => by
    obtain rfl := List.eq_nil_of_length_eq_zero hl
    exact ⟨[], F, rfl, ⟨rfl, rfl⟩, h⟩
  | d :: xs, ρ, [], σ, F, hl, h => by cases hl
  | d :: xs, ρ, t :: τ, σ, F, hl, h => by
    obtain ⟨o, τ', F1, F2, e1, e2, e3, e4⟩ := h
    rw [List.cons_append] at e1
    injection e1 with e5 e6
    subst e5
    rw [← e6] at e3
    obtain ⟨F3, F4, q1, q2, q3⟩ := RS_cut (Nat.succ.inj hl) e3
    exact ⟨F1 ++ F3, F4, by rw [e4, q1, List.append_assoc], ⟨t, τ, F1, F3, rfl, e2, q2, rfl⟩, q3⟩
/-- the slots ahead seen apart from those behind -/
theorem sta_frame {τ σ : L2.St} {xs ρ μ : List D} {F : List Addr} (S : Sta K W (τ ++ σ) (xs ++ ρ) μ F) (hl : τ.length = xs.length) : ∃ Fc, Sta K W τ xs μ Fc ∧ (∀ a ∈ Fc, a ∈ F) ∧
    ∀ (W' : Wd) (xs' μ' : List D) (Fc' G E : List Addr), Sta K W' τ xs' μ' Fc' → (G ++ Fc').Nodup → (∀ a ∈ G, Own W' a) → (∀ a ∈ E, Own W a ∧ a ∉ F) → Mv W W' (E ++ Fc) (G ++ Fc') → ∃ F', Sta K W' (τ ++ σ) (xs' ++ ρ) μ' F' ∧ (G ++ F').Nodup ∧ Mv W W' (E ++ F) (G ++ F') := by
  obtain ⟨⟨F1, F2, h1, h2, h3⟩, nd, own, ok⟩ := S
  obtain ⟨Fx, Fr, q1, q2, q3⟩ := RS_cut hl h1
  subst q1
  subst h3
  have pm : ∀ (A B C : List Addr), (A ++ B ++ C).Perm (A ++ C ++ B) := fun A B C => by
    rw [List.append_assoc, List.append_assoc]
    exact List.Perm.append_left A List.perm_append_comm
  have nd2 := nodup_of_perm (pm Fx Fr F2).symm nd
  have nd3 := List.nodup_append.mp nd2
  have inF : ∀ a ∈ Fx ++ F2, a ∈ Fx ++ Fr ++ F2 := fun a ha => (pm Fx Fr F2).mem_iff.mpr (List.mem_append_left _ ha)
  have inR : ∀ a ∈ Fr, a ∈ Fx ++ Fr ++ F2 ∧ a ∉ Fx ++ F2 := fun a ha => ⟨(pm Fx Fr F2).mem_iff.mpr (List.mem_append_right _ ha), fun z => nd3.2.2 a z a ha rfl⟩
  refine ⟨Fx ++ F2, ⟨⟨Fx, F2, q2, h2, rfl⟩, nd3.1, fun a ha => own a (inF a ha), ok⟩, inF, fun W' xs' μ' Fc' G E S' ndG ownG hE mv => ?_⟩
  have lt := mv.lt fun a ha => (List.mem_append.mp ha).elim (fun z => (hE a z).1) fun z => own a (inF a z)
  have nE : ∀ a, a ∈ Fx ++ Fr ++ F2 → a ∉ Fx ++ F2 → a ∉ E ++ (Fx ++ F2) := fun a h h' z => (List.mem_append.mp z).elim (fun z => (hE a z).2 h) h'
  have inEF : ∀ a, a ∈ E ++ (Fx ++ F2) → a ∈ E ++ (Fx ++ Fr ++ F2) := fun a z => (List.mem_append.mp z).elim (List.mem_append_left _) fun z => List.mem_append_right _ (inF a z)
  have stay : ∀ a ∈ Fr, W'.H a = W.H a := fun a ha => by
    obtain ⟨h4, h5⟩ := inR a ha
    obtain ⟨_, w⟩ := own a h4
    rcases w with ⟨ys, w⟩ | ⟨Cc, dx, fs, w⟩
    · rw [w]
      exact mv.keep a _ w (nE a h4 h5)
    · rw [w]
      exact mv.keep a _ w (nE a h4 h5)
  have apart : ∀ a ∈ G ++ Fc', a ∉ Fr := fun a ha z => by
    obtain ⟨h4, h5⟩ := inR a z
    rcases mv.own a ha with q | q
    · exact nE a h4 h5 q
    · obtain ⟨_, w⟩ := own a h4
      rcases w with ⟨ys, w⟩ | ⟨Cc, dx, fs, w⟩ <;> rw [q] at w <;> cases w
  obtain ⟨⟨G1, G2, p1, p2, p3⟩, nd', own', ok'⟩ := S'
  subst p3
  have rr : RS K W' ρ σ Fr := RS_keep lt stay q3
  have pm2 : (G ++ (G1 ++ Fr ++ G2)).Perm (G ++ (G1 ++ G2) ++ Fr) := by
    rw [List.append_assoc G]
    exact List.Perm.append_left G (pm G1 Fr G2)
  have ndA : (G ++ (G1 ++ Fr ++ G2)).Nodup := nodup_of_perm pm2 (List.nodup_append.mpr ⟨ndG, (List.nodup_append.mp nd2).2.1, fun a ha b hb z => apart a ha (z ▸ hb)⟩)
  refine ⟨G1 ++ Fr ++ G2, ⟨⟨G1 ++ Fr, G2, RS_app p1 rr, p2, rfl⟩, (List.nodup_append.mp ndA).2.1, fun a ha => ?_, ok'⟩, ndA, ⟨fun a o e n => mv.keep a o e fun z => n (inEF a z), mv.fr, fun a e => (mv.nf a e).elim .inl fun z => .inr (z.elim .inl fun z => .inr (inEF a z)), fun a ha => ?_, mv.m⟩⟩
  · rcases List.mem_append.mp ((pm G1 Fr G2).mem_iff.mp ha) with z | z
    · exact own' a z
    · obtain ⟨h4, h5⟩ := inR a z
      obtain ⟨w1, w2⟩ := own a h4
      refine ⟨fun z' => ?_, by rw [stay a z]; exact w2⟩
      rcases mv.nf a z' with q | q | q
      · exact w1 q
      · rcases w2 with ⟨ys, w⟩ | ⟨Cc, dx, fs, w⟩ <;> rw [q] at w <;> cases w
      · exact nE a h4 h5 q
  · rcases List.mem_append.mp (pm2.mem_iff.mp ha) with z | z
    · exact (mv.own a z).elim (fun q => .inl (inEF a q)) .inr
    · exact .inl (List.mem_append_right _ (inR a z).1)
/-! ### what a slot has is taken out, put in -/
theorem RS_un {d' : D} : ∀ {ρ : List D} {σ : List (Option V)} {F : List Addr} {j : Nat} {d : D}, RS K W ρ σ F → ρ[j]? = some d → d ≠ .un → ∃ v A B C, σ[j]? = some (some v) ∧ F = A ++ (B ++ C) ∧ R K W d v B ∧ RS K W (ρ.set j .un) σ (A ++ C)
  | [], _, _, j, _, _, h, _ => by simp at h
  | d0 :: ρ, _, _, 0, d, h, h1, h2 => by
    obtain ⟨o, σ', F1, F2, e1, e2, e3, e4⟩ := h
    have e : d0 = d := Option.some.inj h1
    subst e
    rw [R1_iff] at e2
    rcases e2 with ⟨q, _⟩ | ⟨v, q1, q2⟩
    · exact absurd q h2
    · subst q1
      exact ⟨v, [], F1, F2, by rw [e1]; rfl, e4, q2, ⟨some v, σ', [], F2, e1, rfl, e3, rfl⟩⟩
  | d0 :: ρ, _, _, j + 1, d, h, h1, h2 => by
    obtain ⟨o, σ', F1, F2, e1, e2, e3, e4⟩ := h
    obtain ⟨v, A, B, C, q1, q2, q3, q4⟩ := RS_un (d' := d') (j := j) e3 (by simpa using h1) h2
    exact ⟨v, F1 ++ A, B, C, by rw [e1]; simpa using q1, by rw [e4, q2, List.append_assoc], q3, ⟨o, σ', F1, A ++ C, e1, e2, q4, by rw [List.append_assoc]⟩⟩
theorem sta_out {σ : L2.St} {ρ μ : List D} {F : List Addr} {m : Nat} {d : D} (S : Sta K W σ ρ μ F) (hm : ρ[m]? = some d) (hne : d ≠ .un) : ∃ v F', σ[m]? = some (some v) ∧ Sta K W (some v :: σ) (d :: ρ.set m .un) μ F' ∧ F'.Perm F := by
  obtain ⟨⟨F1, F2, h1, h2, h3⟩, nd, own, ok⟩ := S
  obtain ⟨v, A, B, C, q1, q2, q3, q4⟩ := RS_un (d' := .un) h1 hm hne
  subst q2
  subst h3
  have pm : (B ++ (A ++ C) ++ F2).Perm (A ++ (B ++ C) ++ F2) := List.Perm.append_right F2 (List.perm_append_comm_assoc B A C)
  exact ⟨v, B ++ (A ++ C) ++ F2, q1, ⟨⟨B ++ (A ++ C), F2, ⟨some v, σ, B, A ++ C, rfl, R1_of q3, q4, rfl⟩, h2, rfl⟩, nodup_of_perm pm nd, fun a ha => own a (pm.mem_iff.mp ha), ok⟩, pm⟩
theorem set_self {α : Type} : ∀ {l : List α} {m : Nat} {x : α}, l[m]? = some x → l.set m x = l
  | [], _, _, h => by simp at h
  | y :: l, 0, x, h => by
    have e : y = x := Option.some.inj h
    rw [e]
    rfl
  | y :: l, m + 1, x, h => by
    rw [List.set_cons_succ, set_self (l := l) (m := m) (by simpa using h)]
theorem sta_in {σ : L2.St} {ρ μ : List D} {F : List Addr} {m : Nat} {d : D} {v : V} (S : Sta K W (some v :: σ) (d :: ρ) μ F) (hm : σ[m]? = some (some v)) : ∃ F', Sta K W σ (ρ.set m d) μ F' ∧ ∀ a ∈ F', a ∈ F := by
  obtain ⟨⟨F1, F2, h1, h2, h3⟩, nd, own, ok⟩ := S
  obtain ⟨o, σ', G, F3, e1, e2, e3, e4⟩ := h1
  injection e1 with e5 e6
  subst e5
  subst e6
  subst e4
  subst h3
  have hl := RS_len e3
  have hi : m < ρ.length := by
    rw [← hl]
    exact (List.getElem?_eq_some_iff.mp hm).1
  obtain ⟨A, B, C, q1, q2⟩ := RS_set e2 e3 hi
  rw [set_self hm] at q2
  subst q1
  have sub : ((G ++ (A ++ C)) ++ F2).Sublist ((G ++ (A ++ (B ++ C))) ++ F2) :=
    List.Sublist.append (List.Sublist.append (List.Sublist.refl G) (List.Sublist.append (List.Sublist.refl A) (List.sublist_append_right B C))) (List.Sublist.refl F2)
  have pm : (A ++ (G ++ C) ++ F2).Perm (G ++ (A ++ C) ++ F2) := List.Perm.append_right F2 (List.perm_append_comm_assoc A G C)
  exact ⟨A ++ (G ++ C) ++ F2, ⟨⟨_, F2, q2, h2, rfl⟩, nodup_of_perm pm (nd.sublist sub), fun a ha => own a (sub.subset (pm.mem_iff.mp ha)), ok⟩, fun a ha => sub.subset (pm.mem_iff.mp ha)⟩
theorem sta_tail {o : Option V} {σ : L2.St} {d : D} {ρ μ : List D} {F : List Addr} (S : Sta K W (o :: σ) (d :: ρ) μ F) : ∃ G F', R1 K W d o G ∧ Sta K W σ ρ μ F' ∧ F = G ++ F' := by
  obtain ⟨⟨F1, F2, h1, h2, h3⟩, nd, own, ok⟩ := S
  obtain ⟨o', σ', G, F3, e1, e2, e3, e4⟩ := h1
  injection e1 with e5 e6
  subst e5
  subst e6
  subst e4
  subst h3
  rw [List.append_assoc] at nd own
  exact ⟨G, F3 ++ F2, e2, ⟨⟨F3, F2, e3, h2, rfl⟩, (List.nodup_append.mp nd).2.1, fun a ha => own a (List.mem_append_right _ ha), ok⟩, by rw [List.append_assoc]⟩
theorem sta_cons {o : Option V} {σ : L2.St} {d : D} {ρ μ : List D} {G F : List Addr} (r : R1 K W d o G) (S : Sta K W σ ρ μ F) (nd : (G ++ F).Nodup) (own : ∀ a ∈ G, Own W a) : Sta K W (o :: σ) (d :: ρ) μ (G ++ F) := by
  obtain ⟨⟨F1, F2, h1, h2, h3⟩, nd2, own2, ok⟩ := S
  subst h3
  exact ⟨⟨G ++ F1, F2, ⟨o, σ, G, F1, rfl, r, h1, rfl⟩, h2, by rw [List.append_assoc]⟩, nd, fun a ha => (List.mem_append.mp ha).elim (own a) (own2 a), ok⟩
end
/-! ### a part seen apart -/
/-- the slots τ, with the trees xs, stand within σ, ρ; put tells how they go back -/
def Foc (K : PySem.W.Frag) (W : Wd) (σ : L2.St) (ρ μ : List D) (F : List Addr) (τ : L2.St) (xs : List D) (put : List D → Option (List D)) : Prop :=
  ∃ Fc, Sta K W τ xs μ Fc ∧ (∀ a ∈ Fc, a ∈ F) ∧ ∀ (W' : Wd) (xs' μ' : List D) (Fc' G E : List Addr) (ρ' : List D), put xs' = some ρ' → Sta K W' τ xs' μ' Fc' → (G ++ Fc').Nodup → (∀ a ∈ G, Own W' a) → (∀ a ∈ E, Own W a ∧ a ∉ F) → Mv W W' (E ++ Fc) (G ++ Fc') →
    ∃ F', Sta K W' σ ρ' μ' F' ∧ (G ++ F').Nodup ∧ Mv W W' (E ++ F) (G ++ F')
section
variable {K : PySem.W.Frag} {W : Wd} {σ τ τ2 : L2.St} {ρ μ xs xs2 : List D} {F : List Addr} {put put2 : List D → Option (List D)}
theorem Foc.trans (h : Foc K W σ ρ μ F τ xs put) (g : ∀ Fc, Sta K W τ xs μ Fc → Foc K W τ xs μ Fc τ2 xs2 put2) : Foc K W σ ρ μ F τ2 xs2 (fun ys => (put2 ys).bind put) := by
  obtain ⟨Fc, S, s1, k⟩ := h
  obtain ⟨Fd, S2, s2, k2⟩ := g Fc S
  refine ⟨Fd, S2, fun a ha => s1 a (s2 a ha), fun W' xs' μ' Fc' G E ρ' hp S' nd own hE mv => ?_⟩
  obtain ⟨ys, e1, e2⟩ := bind_some hp
  obtain ⟨Fe, S3, nd3, mv3⟩ := k2 W' xs' μ' Fc' G E ys e1 S' nd own (fun a ha => ⟨(hE a ha).1, fun z => (hE a ha).2 (s1 a z)⟩) mv
  exact k W' ys μ' Fe G E ρ' e2 S3 nd3 own hE mv3
theorem Foc.put_imp {put' : List D → Option (List D)} (h : Foc K W σ ρ μ F τ xs put) (e : ∀ ys zs, put' ys = some zs → put ys = some zs) : Foc K W σ ρ μ F τ xs put' := by
  obtain ⟨Fc, S, s1, k⟩ := h
  exact ⟨Fc, S, s1, fun W' xs' μ' Fc' G E ρ' hp => k W' xs' μ' Fc' G E ρ' (e _ _ hp)⟩
def put1 (g : D → Option (List D)) : List D → Option (List D)
  | [d] => g d
  | _ => none
theorem RS_one {K : PySem.W.Frag} {W : Wd} {xs : List D} {o : Option V} {F : List Addr} (h : RS K W xs [o] F) : ∃ d, xs = [d] := by
  have e := RS_len h
  match xs, e with
  | [d], _ => exact ⟨d, rfl⟩
/-- one slot -/
theorem foc_slot (S : Sta K W σ ρ μ F) {i : Nat} {d : D} (hi : ρ[i]? = some d) (hne : d ≠ .un) : ∃ v, σ[i]? = some (some v) ∧ Foc K W σ ρ μ F [some v] [d] (put1 fun d' => some (ρ.set i d')) := by
  obtain ⟨v, F', hv, S1, pm⟩ := sta_out S hi hne
  obtain ⟨Fc, S2, sub, k⟩ := sta_frame (τ := [some v]) (xs := [d]) S1 rfl
  refine ⟨v, hv, Fc, S2, fun a ha => pm.mem_iff.mp (sub a ha), fun W' xs' μ' Fc' G E ρ' hp S' nd own hE mv => ?_⟩
  obtain ⟨d', rfl⟩ : ∃ d', xs' = [d'] := by
    obtain ⟨F1, F2, h1, _, _⟩ := S'.ex
    exact RS_one h1
  cases hp
  obtain ⟨F3, S3, nd3, mv3⟩ := k W' [d'] μ' Fc' G E S' nd own (fun a ha => ⟨(hE a ha).1, fun z => (hE a ha).2 (pm.mem_iff.mp z)⟩) mv
  obtain ⟨F4, S4, sub4⟩ := sta_in (σ := σ) (ρ := ρ.set i .un) (m := i) S3 hv
  rw [List.set_set] at S4
  have ndG := List.nodup_append.mp nd3
  exact ⟨F4, S4, List.nodup_append.mpr ⟨ndG.1, S4.nd, fun a ha b hb => ndG.2.2 a ha b (sub4 b hb)⟩, mv3.sub (fun a ha => (List.mem_append.mp ha).elim (List.mem_append_left _) fun z => List.mem_append_right _ (pm.mem_iff.mp z)) fun a ha => (List.mem_append.mp ha).elim (List.mem_append_left _) fun z => List.mem_append_right _ (sub4 a z)⟩
/-- what stands at the front -/
theorem foc_front {o : Option V} {d : D} (S : Sta K W (o :: σ) (d :: ρ) μ F) : Foc K W (o :: σ) (d :: ρ) μ F [o] [d] (put1 fun d' => some (d' :: ρ)) := by
  obtain ⟨Fc, S2, sub, k⟩ := sta_frame (τ := [o]) (xs := [d]) S rfl
  refine ⟨Fc, S2, sub, fun W' xs' μ' Fc' G E ρ' hp S' nd own hE mv => ?_⟩
  obtain ⟨d', rfl⟩ : ∃ d', xs' = [d'] := by
    obtain ⟨F1, F2, h1, _, _⟩ := S'.ex
    exact RS_one h1
  cases hp
  exact k W' [d'] μ' Fc' G E S' nd own hE mv
/-- values without places of their own, besides -/
theorem foc_vals {ds : List D} {vs : List V} (S : Sta K W τ xs μ F) (r : RL K W ds vs []) : Foc K W τ xs μ F (τ ++ vs.map some) (xs ++ ds) (fun ys => some (ys.take xs.length)) := by
  have rs : ∀ {ds : List D} {vs : List V}, RL K W ds vs [] → RS K W ds (vs.map some) [] := by
    intro ds
    induction ds with
    | nil => exact fun {vs} h => by rw [h.1]; exact ⟨rfl, rfl⟩
    | cons d ds ih =>
      intro vs h
      obtain ⟨v, vs', F1, F2, h1, h2, h3, h4⟩ := h
      obtain ⟨rfl, rfl⟩ := List.append_eq_nil_iff.mp h4.symm
      rw [h1]
      exact ⟨some v, vs'.map some, [], [], rfl, R1_of h2, ih h3, rfl⟩
  obtain ⟨⟨F1, F2, h1, h2, h3⟩, nd, own, ok⟩ := S
  refine ⟨F, ⟨⟨F1, F2, by
    have := RS_app h1 (rs r)
    rw [List.append_nil] at this
    exact this, h2, h3⟩, nd, own, ok⟩, fun _ h => h, fun W' xs' μ' Fc' G E ρ' hp S' nd' own' hE mv => ?_⟩
  cases hp
  obtain ⟨⟨G1, G2, p1, p2, p3⟩, nd2, own2, ok2⟩ := S'
  subst p3
  have hl := RS_len p1
  have lx := RS_len h1
  have hx : xs' = xs'.take xs.length ++ xs'.drop xs.length := (List.take_append_drop ..).symm
  have hle : xs.length ≤ xs'.length := by
    rw [List.length_append] at hl
    omega
  rw [hx] at p1
  obtain ⟨G3, G4, q1, q2, q3⟩ := RS_cut (by rw [List.length_take, lx]; omega) p1
  subst q1
  have sub : (G3 ++ G2).Sublist (G3 ++ G4 ++ G2) := List.Sublist.append (List.sublist_append_left G3 G4) (List.Sublist.refl G2)
  refine ⟨G3 ++ G2, ⟨⟨G3, G2, q2, p2, rfl⟩, nd2.sublist sub, fun a ha => own2 a (sub.subset ha), ok2⟩, nd'.sublist (List.Sublist.append (List.Sublist.refl G) sub), mv.sub (fun a h => h) fun a ha => (List.Sublist.append (List.Sublist.refl G) sub).subset ha⟩
/-! ### fields -/
/-- the place of a name -/
def fidx (x : Str) : List Str → Option Nat
  | [] => none
  | y :: ns => if y = x then some 0 else (fidx x ns).map Nat.succ
theorem fidx_lookup {x : Str} : ∀ {ns : List Str} {vs : List V} {i : Nat}, fidx x ns = some i → ns.length = vs.length → (ns.zip vs).lookup x = vs[i]?
  | [], _, _, h, _ => by cases h
  | y :: ns, [], _, _, hl => by cases hl
  | y :: ns, v :: vs, i, h, hl => by
    unfold fidx at h
    by_cases e : y = x
    · rw [if_pos e] at h
      cases h
      subst e
      show List.lookup y ((y, v) :: ns.zip vs) = some v
      rw [List.lookup_cons, beq_self_eq_true]
    · rw [if_neg e] at h
      obtain ⟨j, h1, h2⟩ := map_some h
      subst h2
      show List.lookup x ((y, v) :: ns.zip vs) = _
      rw [List.lookup_cons, show (x == y) = false from beq_eq_false_iff_ne.mpr fun z => e z.symm]
      exact fidx_lookup h1 (Nat.succ.inj hl)
theorem fidx_none {x : Str} : ∀ {ns : List Str} {vs : List V}, fidx x ns = none → (ns.zip vs).lookup x = none
  | [], _, _ => rfl
  | y :: ns, [], _ => rfl
  | y :: ns, v :: vs, h => by
    unfold fidx at h
    by_cases e : y = x
    · rw [if_pos e] at h
      cases h
    · rw [if_neg e] at h
      have h1 : fidx x ns = none := Option.map_eq_none_iff.mp h
      show List.lookup x ((y, v) :: ns.zip vs) = _
      rw [List.lookup_cons, show (x == y) = false from beq_eq_false_iff_ne.mpr fun z => e z.symm]
      exact fidx_none h1
theorem fidx_lt {x : Str} : ∀ {ns : List Str} {i : Nat}, fidx x ns = some i → i < ns.length
  | [], _, h => by cases h
  | y :: ns, i, h => by
    unfold fidx at h
    by_cases e : y = x
    · rw [if_pos e] at h
      cases h
      exact Nat.succ_pos _
    · rw [if_neg e] at h
      obtain ⟨j, h1, h2⟩ := map_some h
      subst h2
      exact Nat.succ_lt_succ (fidx_lt h1)
theorem putF_set {x : Str} {v : V} : ∀ {ns : List Str} {vs : List V} {i : Nat}, fidx x ns = some i → ns.length = vs.length → putF x v (ns.zip vs) = ns.zip (vs.set i v)
  | [], _, _, h, _ => by cases h
  | y :: ns, [], _, _, hl => by cases hl
  | y :: ns, u :: vs, i, h, hl => by
    unfold fidx at h
    rw [List.zip_cons_cons, show putF x v ((y, u) :: ns.zip vs) = (if y = x then (y, v) :: ns.zip vs else (y, u) :: putF x v (ns.zip vs)) from rfl]
    by_cases e : y = x
    · rw [if_pos e] at h
      cases h
      rw [if_pos e]
      rfl
    · rw [if_neg e] at h
      obtain ⟨j, h1, h2⟩ := map_some h
      subst h2
      rw [if_neg e, putF_set h1 (Nat.succ.inj hl)]
      rfl
theorem putF_new {x : Str} {v : V} : ∀ {ns : List Str} {vs : List V}, fidx x ns = none → ns.length = vs.length → putF x v (ns.zip vs) = (ns ++ [x]).zip (vs ++ [v])
  | [], [], _, _ => rfl
  | [], _ :: _, _, hl => by cases hl
  | y :: ns, [], _, hl => by cases hl
  | y :: ns, u :: vs, h, hl => by
    unfold fidx at h
    rw [List.zip_cons_cons, show putF x v ((y, u) :: ns.zip vs) = (if y = x then (y, v) :: ns.zip vs else (y, u) :: putF x v (ns.zip vs)) from rfl]
    by_cases e : y = x
    · rw [if_pos e] at h
      cases h
    · rw [if_neg e] at h
      have h1 : fidx x ns = none := Option.map_eq_none_iff.mp h
      rw [if_neg e, putF_new h1 (Nat.succ.inj hl)]
      rfl
theorem RL_lens : ∀ {ds : List D} {vs : List V} {F : List Addr} {j : Nat} {d : D}, RL K W ds vs F → ds[j]? = some d → ∃ v A B C, vs[j]? = some v ∧ F = A ++ (B ++ C) ∧ R K W d v B ∧
    ∀ (W' : Wd) (d' : D) (v' : V) (G : List Addr), Lt W W' → (∀ b ∈ A ++ C, W'.H b = W.H b) → R K W' d' v' G → RL K W' (ds.set j d') (vs.set j v') (A ++ (G ++ C))
  | [], _, _, j, _, _, h => by simp at h
  | d0 :: ds, _, _, 0, d, h, h1 => by
    obtain ⟨v, vs', F1, F2, e1, e2, e3, e4⟩ := h
    have e : d0 = d := Option.some.inj h1
    subst e
    exact ⟨v, [], F1, F2, by rw [e1]; rfl, e4, e2, fun W' d' v' G lt k r => by rw [e1]; exact ⟨v', vs', G, F2, rfl, r, RL_keep lt ds (fun b hb => k b hb) e3, rfl⟩⟩
  | d0 :: ds, _, _, j + 1, d, h, h1 => by
    obtain ⟨v, vs', F1, F2, e1, e2, e3, e4⟩ := h
    obtain ⟨u, A, B, C, q1, q2, q3, q4⟩ := RL_lens (j := j) e3 (by simpa using h1)
    refine ⟨u, F1 ++ A, B, C, by rw [e1]; simpa using q1, by rw [e4, q2, List.append_assoc], q3, fun W' d' v' G lt k r => ?_⟩
    rw [e1]
    refine ⟨v, vs'.set j v', F1, A ++ (G ++ C), rfl, R_keep lt d0 (fun b hb => k b ?_) e2, q4 W' d' v' G lt (fun b hb => k b ?_) r, by rw [List.append_assoc]⟩
    · exact List.mem_append_left _ (List.mem_append_left _ hb)
    · rcases List.mem_append.mp hb with z | z
      · exact List.mem_append_left _ (List.mem_append_right _ z)
      · exact List.mem_append_right _ z
end
end Fw
/-! # fields seen apart and set; how an expression that changes something ends -/
namespace Fw
open PySem PySem.Spec PyProof.Rows L2
open Evl (Ex)
def isUn : D → Bool
  | .un => true
  | _ => false
theorem isUn_ne {d : D} (h : isUn d = false) : d ≠ .un := fun z => by
  subst z
  cases h
section
variable {K : PySem.W.Frag} {W : Wd} {σ τ τ2 : L2.St} {ρ μ xs xs2 : List D} {F : List Addr}
/-- a field of an instance that stands apart -/
theorem foc_fld {o : Option V} {c : Str} {ns : List Str} {ds : List D} {x : Str} {i : Nat} {d : D} (S : Sta K W [o] [.obj c ns ds] μ F) (hx : fidx x ns = some i) (hi : ds[i]? = some d) :
    ∃ a dx vs v, o = some (.ref a) ∧ W.H a = some (.ins (He.ga K c) dx (ns.zip vs)) ∧ ns.length = ds.length ∧ vs.length = ds.length ∧ (ns.zip vs).lookup x = some v ∧ Foc K W [o] [.obj c ns ds] μ F [some v] [d] (put1 fun d' => if isUn d' = true then none else some [.obj c ns (ds.set i d')]) := by
  obtain ⟨G0, F0, r, S0, e0⟩ := sta_tail S
  rw [R1_iff] at r
  rcases r with ⟨z, _⟩ | ⟨u, rfl, a, dx, vs, F', rfl, hH, hn, hR, rfl⟩
  · cases z
  obtain ⟨v, A, B, C, q1, q2, q3, q4⟩ := RL_lens hR hi
  subst q2
  have lv := RL_len hR
  have hv : (ns.zip vs).lookup x = some v := by
    rw [fidx_lookup hx (by rw [hn, lv])]
    exact q1
  refine ⟨a, dx, vs, v, rfl, hH, hn, lv, hv, ?_⟩
  obtain ⟨⟨F1, F2, p1, p2, p3⟩, nd0, own0, ok⟩ := S0
  obtain ⟨_, rfl⟩ := p1
  have e3 : F0 = F2 := p3
  subst e3
  have nd := S.nd
  have own := S.own
  rw [e0] at nd own
  -- B and the store on the one side; a, A, C on the other
  have pm : (a :: (A ++ (B ++ C)) ++ F0).Perm (B ++ F0 ++ (a :: (A ++ C))) := by
    have z1 : (a :: (A ++ (B ++ C)) ++ F0).Perm (B ++ (a :: (A ++ C)) ++ F0) := by
      refine List.Perm.append_right F0 ?_
      exact ((List.perm_append_comm_assoc A B C).cons a).trans List.perm_middle.symm
    refine z1.trans ?_
    rw [List.append_assoc, List.append_assoc]
    exact List.Perm.append_left B List.perm_append_comm
  have nd2 := nodup_of_perm pm.symm nd
  have nd3 := List.nodup_append.mp nd2
  have inB : ∀ b ∈ B ++ F0, b ∈ F := fun b hb => by
    rw [e0]
    exact pm.mem_iff.mpr (List.mem_append_left _ hb)
  have inR : ∀ b ∈ a :: (A ++ C), b ∈ F ∧ b ∉ B ++ F0 := fun b hb => ⟨by rw [e0]; exact pm.mem_iff.mpr (List.mem_append_right _ hb), fun z => nd3.2.2 b z b hb rfl⟩
  refine ⟨B ++ F0, ⟨⟨B, F0, ⟨some v, [], B, [], rfl, R1_of q3, ⟨rfl, rfl⟩, (List.append_nil B).symm⟩, p2, rfl⟩, nd3.1, fun b hb => S.own b (inB b hb), ok⟩, inB, fun W' xs' μ' Fc' G E ρ' hp S' ndG ownG hE mv => ?_⟩
  obtain ⟨d', rfl⟩ : ∃ d', xs' = [d'] := by
    obtain ⟨F1, F2, h1, _, _⟩ := S'.ex
    exact RS_one h1
  have hne : d' ≠ .un := fun z => by
    subst z
    cases hp
  have hp2 : ρ' = [.obj c ns (ds.set i d')] := by
    cases d' <;> first
      | exact absurd rfl hne
      | (cases hp; rfl)
  subst hp2
  have lt := mv.lt fun b hb => (List.mem_append.mp hb).elim (fun z => (hE b z).1) fun z => S.own b (inB b z)
  have nE : ∀ b, b ∈ F → b ∉ B ++ F0 → b ∉ E ++ (B ++ F0) := fun b h h' z => (List.mem_append.mp z).elim (fun z => (hE b z).2 h) h'
  have inEB : ∀ b, b ∈ E ++ (B ++ F0) → b ∈ E ++ F := fun b z => (List.mem_append.mp z).elim (List.mem_append_left _) fun z => List.mem_append_right _ (inB b z)
  have stay : ∀ b ∈ a :: (A ++ C), W'.H b = W.H b := fun b hb => by
    obtain ⟨h4, h5⟩ := inR b hb
    obtain ⟨_, w⟩ := S.own b h4
    rcases w with ⟨ys, w⟩ | ⟨Cc, dx, fs, w⟩
    · rw [w]
      exact mv.keep b _ w (nE b h4 h5)
    · rw [w]
      exact mv.keep b _ w (nE b h4 h5)
  have apart : ∀ b ∈ G ++ Fc', b ∉ a :: (A ++ C) := fun b hb z => by
    obtain ⟨h4, h5⟩ := inR b z
    rcases mv.own b hb with q | q
    · exact nE b h4 h5 q
    · obtain ⟨_, w⟩ := S.own b h4
      rcases w with ⟨ys, w⟩ | ⟨Cc, dx, fs, w⟩ <;> rw [q] at w <;> cases w
  obtain ⟨G1, Fs, r1, S1, e1⟩ := sta_tail S'
  rw [R1_iff] at r1
  rcases r1 with ⟨z, _⟩ | ⟨v', ev, r1⟩
  · exact absurd z hne
  injection ev with ev
  subst ev
  obtain ⟨⟨F5, F6, w1, w2, w3⟩, nd5, own5, ok5⟩ := S1
  obtain ⟨_, rfl⟩ := w1
  have e6 : Fs = F6 := w3
  subst e6
  subst e1
  have hset : vs.set i v = vs := set_self q1
  have rr := q4 W' d' v G1 lt (fun b hb => stay b (List.mem_cons_of_mem _ hb)) r1
  rw [hset] at rr
  have robj : R K W' (.obj c ns (ds.set i d')) (.ref a) (a :: (A ++ (G1 ++ C))) := ⟨a, dx, vs, _, rfl, by rw [stay a (List.mem_cons_self ..)]; exact hH, by rw [List.length_set]; exact hn, rr, rfl⟩
  have pm2 : (G ++ ((a :: (A ++ (G1 ++ C))) ++ Fs)).Perm (G ++ (G1 ++ Fs) ++ (a :: (A ++ C))) := by
    rw [List.append_assoc G]
    refine List.Perm.append_left G ?_
    have z1 : (a :: (A ++ (G1 ++ C)) ++ Fs).Perm (G1 ++ (a :: (A ++ C)) ++ Fs) := by
      refine List.Perm.append_right Fs ?_
      exact ((List.perm_append_comm_assoc A G1 C).cons a).trans List.perm_middle.symm
    refine z1.trans ?_
    rw [List.append_assoc, List.append_assoc]
    exact List.Perm.append_left G1 List.perm_append_comm
  have ndA : (G ++ ((a :: (A ++ (G1 ++ C))) ++ Fs)).Nodup := nodup_of_perm pm2 (List.nodup_append.mpr ⟨ndG, nd3.2.1, fun b hb b' hb' z => apart b hb (z ▸ hb')⟩)
  have ownA : ∀ b ∈ G ++ (G1 ++ Fs) ++ (a :: (A ++ C)), b ∉ G → Own W' b := fun b hb hG => by
    rcases List.mem_append.mp hb with z | z
    · rcases List.mem_append.mp z with z | z
      · exact absurd z hG
      · exact S'.own b z
    · obtain ⟨h4, h5⟩ := inR b z
      obtain ⟨w1, w2⟩ := S.own b h4
      refine ⟨fun z' => ?_, by rw [stay b z]; exact w2⟩
      rcases mv.nf b z' with q | q | q
      · exact w1 q
      · rcases w2 with ⟨ys, w⟩ | ⟨Cc, dx, fs, w⟩ <;> rw [q] at w <;> cases w
      · exact nE b h4 h5 q
  have ndB := List.nodup_append.mp ndA
  refine ⟨(a :: (A ++ (G1 ++ C))) ++ Fs, ⟨⟨_, Fs, ⟨some (.ref a), [], _, [], rfl, R1_of robj, ⟨rfl, rfl⟩, (List.append_nil _).symm⟩, w2, rfl⟩, ndB.2.1, fun b hb => ownA b (pm2.mem_iff.mp (List.mem_append_right _ hb)) (fun z => ndB.2.2 b z b hb rfl), ok5⟩, ndA, ⟨fun b o e n => mv.keep b o e fun z => n (inEB b z), mv.fr, fun b e => (mv.nf b e).elim .inl fun z => .inr (z.elim .inl fun z => .inr (inEB b z)), fun b hb => ?_, mv.m⟩⟩
  rcases List.mem_append.mp (pm2.mem_iff.mp hb) with z | z
  · exact (mv.own b z).elim (fun q => .inl (inEB b q)) .inr
  · exact .inl (List.mem_append_right _ (inR b z).1)
end
end Fw
/-! # paths; a field is set; PX -/
namespace Fw
open PySem PySem.Spec PyProof.Rows L2
open Evl (Ex)
abbrev OkT := Str → Str → Bool
/-- the classes' table: ok c x: an instance of c may have a field x -/
def CE (K : PySem.W.Frag) (ok : OkT) : Prop := ∀ c x, ok c x = true → Cls K (He.ga K c) ∧ NoAttr K (He.ga K c) x
def pget (ok : OkT) : List Str → D → Option D
  | [], d => if isUn d = true then none else some d
  | x :: p, .obj c ns ds => if ok c x = true then (fidx x ns).bind fun i => (ds[i]?).bind (pget ok p) else none
  | _ :: _, _ => none
def pput : List Str → D → D → Option D
  | [], _, e => if isUn e = true then none else some e
  | x :: p, .obj c ns ds, e => (fidx x ns).bind fun i => (ds[i]?).bind fun d => (pput p d e).map fun d' => .obj c ns (ds.set i d')
  | _ :: _, _, _ => none
theorem pput_ne : ∀ {p : List Str} {d e d' : D}, pput p d e = some d' → isUn d' = false
  | [], _, e, d', h => by
    unfold pput at h
    by_cases z : isUn e = true
    · rw [if_pos z] at h
      cases h
    · rw [if_neg z] at h
      cases h
      exact Bool.eq_false_iff.mpr z
  | x :: p, .obj c ns ds, e, d', h => by
    obtain ⟨i, _, h⟩ := bind_some h
    obtain ⟨d, _, h⟩ := bind_some h
    obtain ⟨d2, _, rfl⟩ := map_some h
    rfl
  | x :: p, .non, e, d', h => by cases h
  | x :: p, .bl _, e, d', h => by cases h
  | x :: p, .int _, e, d', h => by cases h
  | x :: p, .str _, e, d', h => by cases h
  | x :: p, .tup _, e, d', h => by cases h
  | x :: p, .lst _, e, d', h => by cases h
  | x :: p, .ml _, e, d', h => by cases h
  | x :: p, .fo _ _ _, e, d', h => by cases h
  | x :: p, .ref _, e, d', h => by cases h
  | x :: p, .un, e, d', h => by cases h
/-- along the fields of the heap -/
def rdp (K : PySem.W.Frag) (H : Hp) : V → List Str → V → Prop
  | u, [], v => u = v
  | u, x :: p, v => ∃ a C dx fs w, u = .ref a ∧ H a = some (.ins C dx fs) ∧ Cls K C ∧ NoAttr K C x ∧ fs.lookup x = some w ∧ rdp K H w p v
theorem rdp_app {K : PySem.W.Frag} {H : Hp} {q : List Str} : ∀ {p : List Str} {u v : V}, rdp K H u (p ++ q) v → ∃ w, rdp K H u p w ∧ rdp K H w q v
  | [], u, v, h => ⟨u, rfl, h⟩
  | x :: p, u, v, h => by
    obtain ⟨a, C, dx, fs, w, h1, h2, h3, h4, h5, h6⟩ := h
    obtain ⟨z, h7, h8⟩ := rdp_app (p := p) h6
    exact ⟨z, ⟨a, C, dx, fs, w, h1, h2, h3, h4, h5, h7⟩, h8⟩
section
variable {K : PySem.W.Frag} {W : Wd} {σ τ τ2 : L2.St} {ρ μ xs xs2 : List D} {F : List Addr} {ok : OkT}
theorem foc_path (T : CE K ok) : ∀ (p : List Str) {μ : List D} {F : List Addr} {o : Option V} {d e : D}, Sta K W [o] [d] μ F → pget ok p d = some e → ∃ u v, o = some u ∧ rdp K W.H u p v ∧ Foc K W [o] [d] μ F [some v] [e] (put1 fun e' => (pput p d e').map fun d' => [d'])
  | [], μ, F, o, d, e, S, h => by
    unfold pget at h
    by_cases z : isUn d = true
    · rw [if_pos z] at h
      cases h
    rw [if_neg z] at h
    cases h
    obtain ⟨G, F', r, S', e1⟩ := sta_tail S
    rw [R1_iff] at r
    rcases r with ⟨q, _⟩ | ⟨v, rfl, r⟩
    · subst q
      exact absurd rfl z
    refine ⟨v, v, rfl, rfl, F, S, fun _ h => h, fun W' xs' μ' Fc' G E ρ' hp S' nd own hE mv => ?_⟩
    obtain ⟨d', rfl⟩ : ∃ d', xs' = [d'] := by
      obtain ⟨F1, F2, h1, _, _⟩ := S'.ex
      exact RS_one h1
    have hp2 : (pput [] d d').map (fun d' => [d']) = some ρ' := hp
    unfold pput at hp2
    by_cases z : isUn d' = true
    · rw [if_pos z] at hp2
      cases hp2
    rw [if_neg z] at hp2
    cases hp2
    exact ⟨Fc', S', nd, mv⟩
  | x :: p, μ, F, o, .obj c ns ds, e, S, h => by
    unfold pget at h
    by_cases hk : ok c x = true
    case neg => rw [if_neg hk] at h; cases h
    rw [if_pos hk] at h
    obtain ⟨i, h1, h⟩ := bind_some h
    obtain ⟨d, h2, h⟩ := bind_some h
    obtain ⟨a, dx, vs, v, rfl, q1, q2, q3, q4, fo⟩ := foc_fld S h1 h2
    have fo2 := fo
    obtain ⟨Fc, S2, _, _⟩ := fo2
    obtain ⟨w, v2, e1, r2, _⟩ := foc_path T p S2 h
    injection e1 with e1
    subst e1
    obtain ⟨cl, na⟩ := T c x hk
    refine ⟨.ref a, v2, rfl, ⟨a, _, dx, _, v, rfl, q1, cl, na, q4, r2⟩, ?_⟩
    refine (fo.trans (put2 := put1 fun e' => (pput p d e').map fun d' => [d']) (fun Fd Sd => ?_)).put_imp ?_
    · obtain ⟨w', v3, e2, r3, fo3⟩ := foc_path T p Sd h
      injection e2 with e2
      subst e2
      have det : ∀ {p : List Str} {u v v' : V}, rdp K W.H u p v → rdp K W.H u p v' → v = v' := by
        intro p
        induction p with
        | nil => exact fun h h' => h.symm.trans h'
        | cons y p ih =>
          rintro u v v' ⟨a, C, dx, fs, w, h1, h2, h3, h4, h5, h6⟩ ⟨a', C', dx', fs', w', g1, g2, g3, g4, g5, g6⟩
          subst h1
          cases g1
          rw [h2] at g2
          cases g2
          rw [h5] at g5
          cases g5
          exact ih h6 g6
      rw [det r2 r3]
      exact fo3
    · intro ys zs hz
      match ys, hz with
      | [e'], hz =>
        have hz2 : (pput (x :: p) (.obj c ns ds) e').map (fun d' => [d']) = some zs := hz
        unfold pput at hz2
        rw [h1] at hz2
        obtain ⟨d3, hz3, rfl⟩ := map_some hz2
        obtain ⟨d4, h5, hz4⟩ := bind_some (show (ds[i]?).bind (fun d => (pput p d e').map fun d' => D.obj c ns (ds.set i d')) = some d3 from hz3)
        rw [h2] at h5
        cases h5
        obtain ⟨d5, h6, rfl⟩ := map_some hz4
        show ((pput p d e').map fun d' => [d']).bind _ = _
        rw [h6]
        show (if isUn d5 = true then none else some [D.obj c ns (ds.set i d5)]) = _
        rw [if_neg (by rw [pput_ne h6]; exact Bool.false_ne_true)]
  | x :: p, μ, F, o, .non, e, S, h => by cases h
  | x :: p, μ, F, o, .bl _, e, S, h => by cases h
  | x :: p, μ, F, o, .int _, e, S, h => by cases h
  | x :: p, μ, F, o, .str _, e, S, h => by cases h
  | x :: p, μ, F, o, .tup _, e, S, h => by cases h
  | x :: p, μ, F, o, .lst _, e, S, h => by cases h
  | x :: p, μ, F, o, .ml _, e, S, h => by cases h
  | x :: p, μ, F, o, .fo _ _ _, e, S, h => by cases h
  | x :: p, μ, F, o, .ref _, e, S, h => by cases h
  | x :: p, μ, F, o, .un, e, S, h => by cases h
theorem pget_ne : ∀ {p : List Str} {d e : D}, pget ok p d = some e → isUn d = false ∧ isUn e = false
  | [], d, e, h => by
    unfold pget at h
    by_cases z : isUn d = true
    · rw [if_pos z] at h
      cases h
    rw [if_neg z] at h
    cases h
    exact ⟨Bool.eq_false_iff.mpr z, Bool.eq_false_iff.mpr z⟩
  | x :: p, .obj c ns ds, e, h => by
    unfold pget at h
    by_cases hk : ok c x = true
    case neg => rw [if_neg hk] at h; cases h
    rw [if_pos hk] at h
    obtain ⟨i, h1, h⟩ := bind_some h
    obtain ⟨d, h2, h⟩ := bind_some h
    exact ⟨rfl, (pget_ne h).2⟩
  | x :: p, .non, e, h => by cases h
  | x :: p, .bl _, e, h => by cases h
  | x :: p, .int _, e, h => by cases h
  | x :: p, .str _, e, h => by cases h
  | x :: p, .tup _, e, h => by cases h
  | x :: p, .lst _, e, h => by cases h
  | x :: p, .ml _, e, h => by cases h
  | x :: p, .fo _ _ _, e, h => by cases h
  | x :: p, .ref _, e, h => by cases h
  | x :: p, .un, e, h => by cases h
/-- a slot's part at a path -/
theorem foc_sp (T : CE K ok) (S : Sta K W σ ρ μ F) {i : Nat} {p : List Str} {d e : D} (hi : ρ[i]? = some d) (hp : pget ok p d = some e) :
    ∃ u v, σ[i]? = some (some u) ∧ rdp K W.H u p v ∧ Foc K W σ ρ μ F [some v] [e] (put1 fun e' => (pput p d e').map fun d' => ρ.set i d') := by
  obtain ⟨u, hu, fo⟩ := foc_slot S hi (isUn_ne (pget_ne hp).1)
  have fo2 := fo
  obtain ⟨Fc, S2, _⟩ := fo2
  obtain ⟨u', v, e1, r2, _⟩ := foc_path T p S2 hp
  injection e1 with e1
  subst e1
  refine ⟨u, v, hu, r2, ?_⟩
  refine (fo.trans (put2 := put1 fun e' => (pput p d e').map fun d' => [d']) (fun Fd Sd => ?_)).put_imp ?_
  · obtain ⟨w', v3, e2, r3, fo3⟩ := foc_path T p Sd hp
    injection e2 with e2
    subst e2
    have det : ∀ {p : List Str} {u v v' : V}, rdp K W.H u p v → rdp K W.H u p v' → v = v' := by
      intro p
      induction p with
      | nil => exact fun h h' => h.symm.trans h'
      | cons y p ih =>
        rintro u v v' ⟨a, C, dx, fs, w, h1, h2, h3, h4, h5, h6⟩ ⟨a', C', dx', fs', w', g1, g2, g3, g4, g5, g6⟩
        subst h1
        cases g1
        rw [h2] at g2
        cases g2
        rw [h5] at g5
        cases g5
        exact ih h6 g6
    rw [det r2 r3]
    exact fo3
  · intro ys zs hz
    match ys, hz with
    | [e'], hz =>
      obtain ⟨d3, h6, rfl⟩ := map_some (show (pput p d e').map (fun d' => ρ.set i d') = some zs from hz)
      show ((pput p d e').map fun d' => [d']).bind _ = _
      rw [h6]
      rfl
/-! ### a field is set -/
def putD (x : Str) (d : D) (c : Str) (ns : List Str) (ds : List D) : D := match fidx x ns with
  | some i => .obj c ns (ds.set i d)
  | none => .obj c (ns ++ [x]) (ds ++ [d])
theorem Lt.upd_ins {W : Wd} {a C dx C' dx' : Addr} {fs fs' : List (Str × V)} (h : W.H a = some (.ins C dx fs)) (hf : ¬ W.Fr a) : Lt W ⟨upd W.H a (.ins C' dx' fs'), W.Fr, W.m⟩ := by
  have ne : ∀ b o, W.H b = some o → (∀ C dx fs, o ≠ .ins C dx fs) → upd W.H a (.ins C' dx' fs') b = some o := fun b o e n => by
    rw [upd_ne fun z => ?_]
    · exact e
    · subst z
      rw [h] at e
      exact n _ _ _ (Option.some.inj e).symm
  refine ⟨fun b xs r => ?_, fun b xs r => ⟨?_, r.2⟩, fun b C dx fs r r' => ⟨?_, r'⟩, fun _ _ h => h⟩
  · rcases r with r | ⟨o, r⟩
    · exact .inl (ne b _ r fun _ _ _ z => nomatch z)
    · exact .inr ⟨o, ne b _ r fun _ _ _ z => nomatch z⟩
  · rcases r.1 with r | ⟨o, r⟩
    · exact .inl (ne b _ r fun _ _ _ z => nomatch z)
    · exact .inr ⟨o, ne b _ r fun _ _ _ z => nomatch z⟩
  · show upd W.H a _ b = _
    rw [upd_ne fun z => hf (by rw [← z]; exact r')]
    exact r
/-- the instance with the value in its field -/
theorem R_put {a dx : Addr} {c x : Str} {ns : List Str} {ds : List D} {vs : List V} {F' Gy : List Addr} {dy : D} {y : V} (hH : W.H a = some (.ins (He.ga K c) dx (ns.zip vs))) (hn : ns.length = ds.length) (hR : RL K W ds vs F') (ry : R K W dy y Gy)
    (nd : (Gy ++ (a :: F')).Nodup) (hf : ¬ W.Fr a) : ∃ F'', R K ⟨upd W.H a (.ins (He.ga K c) dx (putF x y (ns.zip vs))), W.Fr, W.m⟩ (putD x dy c ns ds) (.ref a) F'' ∧ F''.Nodup ∧ ∀ b ∈ F'', b ∈ Gy ++ (a :: F') := by
  have lt : Lt W ⟨upd W.H a (.ins (He.ga K c) dx (putF x y (ns.zip vs))), W.Fr, W.m⟩ := Lt.upd_ins hH hf
  have nd1 := List.nodup_append.mp nd
  have nd2 := List.nodup_cons.mp nd1.2.1
  have lv := RL_len hR
  have off : ∀ b, b ≠ a → (⟨upd W.H a (.ins (He.ga K c) dx (putF x y (ns.zip vs))), W.Fr, W.m⟩ : Wd).H b = W.H b := fun b hb => upd_ne hb
  have offF : ∀ b ∈ F', b ≠ a := fun b hb z => nd2.1 (z ▸ hb)
  have offG : ∀ b ∈ Gy, b ≠ a := fun b hb z => nd1.2.2 b hb a (List.mem_cons_self ..) z
  have ry' : R K ⟨upd W.H a (.ins (He.ga K c) dx (putF x y (ns.zip vs))), W.Fr, W.m⟩ dy y Gy := R_keep lt dy (fun b hb => off b (offG b hb)) ry
  unfold putD
  cases e : fidx x ns with
  | some i =>
    have hi : i < ds.length := by
      rw [← hn]
      exact fidx_lt e
    obtain ⟨v, A, B, C, q1, q2, q3, q4⟩ := RL_lens (j := i) (d := ds[i]) hR (List.getElem?_eq_getElem hi)
    subst q2
    have rr := q4 _ dy y Gy lt (fun b hb => off b (offF b (by
      rcases List.mem_append.mp hb with z | z
      · exact List.mem_append_left _ z
      · exact List.mem_append_right _ (List.mem_append_right _ z)))) ry'
    refine ⟨a :: (A ++ (Gy ++ C)), ⟨a, dx, vs.set i y, _, rfl, ?_, by rw [List.length_set]; exact hn, rr, rfl⟩, ?_, fun b hb => ?_⟩
    · show upd W.H a _ a = _
      rw [upd_same, putF_set e (by rw [hn, lv])]
    · have pm : (Gy ++ (a :: (A ++ C))).Perm (a :: (A ++ (Gy ++ C))) := List.perm_middle.trans ((List.perm_append_comm_assoc Gy A C).cons a)
      have sub : (Gy ++ (a :: (A ++ C))).Sublist (Gy ++ (a :: (A ++ (B ++ C)))) := List.Sublist.append (List.Sublist.refl Gy) ((List.Sublist.append (List.Sublist.refl A) (List.sublist_append_right B C)).cons₂ a)
      exact nodup_of_perm pm.symm (nd.sublist sub)
    · rcases List.mem_cons.mp hb with z | z
      · rw [z]
        exact List.mem_append_right _ (List.mem_cons_self ..)
      · rcases List.mem_append.mp z with z | z
        · exact List.mem_append_right _ (List.mem_cons_of_mem _ (List.mem_append_left _ z))
        · rcases List.mem_append.mp z with z | z
          · exact List.mem_append_left _ z
          · exact List.mem_append_right _ (List.mem_cons_of_mem _ (List.mem_append_right _ (List.mem_append_right _ z)))
  | none =>
    have rr : RL K ⟨upd W.H a (.ins (He.ga K c) dx (putF x y (ns.zip vs))), W.Fr, W.m⟩ (ds ++ [dy]) (vs ++ [y]) (F' ++ Gy) := RL_app (RL_keep lt ds (fun b hb => off b (offF b hb)) hR) ⟨y, [], Gy, [], rfl, ry', ⟨rfl, rfl⟩, (List.append_nil Gy).symm⟩
    refine ⟨a :: (F' ++ Gy), ⟨a, dx, vs ++ [y], _, rfl, ?_, by rw [List.length_append, List.length_append, hn]; rfl, rr, rfl⟩, ?_, fun b hb => ?_⟩
    · show upd W.H a _ a = _
      rw [upd_same, putF_new e (by rw [hn, lv])]
    · have pm : (Gy ++ (a :: F')).Perm (a :: (F' ++ Gy)) := List.perm_middle.trans (List.perm_append_comm.cons a)
      exact nodup_of_perm pm.symm nd
    · rcases List.mem_cons.mp hb with z | z
      · rw [z]
        exact List.mem_append_right _ (List.mem_cons_self ..)
      · rcases List.mem_append.mp z with z | z
        · exact List.mem_append_right _ (List.mem_cons_of_mem _ z)
        · exact List.mem_append_left _ z
end
end Fw
/-! # PX: expressions that change something, or raise -/
namespace Fw
open PySem PySem.Spec PyProof.Rows L2
open Evl (Ex)
inductive EO where
  | ok (d : D) (ρ μ : List D) | ex (c : Str) (fs : List (Str × D)) (ρ μ : List D)
abbrev FX := List D → List D → Option EO
def GoesE (K : PySem.W.Frag) (Wx : WX) (Q : VK) (σ : L2.St) (W : Wd) (F : List Addr) : EO → Prop
  | .ok d ρ' μ' => ∀ v W' G F', R K W' d v G → Sta K W' σ ρ' μ' F' → (G ++ F').Nodup → (∀ a ∈ G, Own W' a) → Mv W W' F (G ++ F') → Q v W'.H
  | .ex c fs ρ' μ' => ∀ dx W' F', ExAt K W' fs dx → Sta K W' σ ρ' μ' F' → Mv W W' F F' → Wx (.ref (He.ga K c)) dx σ W'.H
def PXr (X : Cx) (Wx : WX) (te : TE) (g : FX) : Prop := ∀ (σ : L2.St) (W : Wd) (ρ μ : List D) (F : List Addr), Sta X.K W σ ρ μ F → ∀ o, g ρ μ = some o → ∀ Q : VK, GoesE X.K Wx Q σ W F o → te σ W.H Q
def PX (X : Cx) (Wx : WX) (e : Expr) (g : FX) : Prop := ∃ te : TE, PE X e te ∧ PXr X Wx te g
def GoesT (K : PySem.W.Frag) (Wx : WX) (Q : Bool → Hp → Prop) (σ : L2.St) (W : Wd) (F : List Addr) : EO → Prop
  | .ok d ρ' μ' => match d with
    | .bl b => ∀ W' F', Sta K W' σ ρ' μ' F' → Mv W W' F F' → Q b W'.H
    | _ => False
  | .ex c fs ρ' μ' => ∀ dx W' F', ExAt K W' fs dx → Sta K W' σ ρ' μ' F' → Mv W W' F F' → Wx (.ref (He.ga K c)) dx σ W'.H
def PTr (X : Cx) (Wx : WX) (tt : TT) (g : FX) : Prop := ∀ (σ : L2.St) (W : Wd) (ρ μ : List D) (F : List Addr), Sta X.K W σ ρ μ F → ∀ o, g ρ μ = some o → ∀ Q : Bool → Hp → Prop, GoesT X.K Wx Q σ W F o → tt σ W.H Q
def PTX (X : Cx) (Wx : WX) (e : Expr) (g : FX) : Prop := ∃ tt : TT, PT X e tt ∧ PTr X Wx tt g
def PWX (X : Cx) (Wx : WX) (e : Expr) (g : FX) : Prop := ∃ tt : TT, PW X e tt ∧ PTr X Wx tt g
theorem GoesE.after {K : PySem.W.Frag} {Wx : WX} {Q : VK} {σ : L2.St} {W W1 : Wd} {F F1 : List Addr} {o : EO} (h : GoesE K Wx Q σ W F o) (m : Mv W W1 F F1) : GoesE K Wx Q σ W1 F1 o := by
  cases o with
  | ok d ρ' μ' => exact fun v W' G F' r S nd own mv => h v W' G F' r S nd own (m.trans mv)
  | ex c fs ρ' μ' => exact fun dx W' F' r S mv => h dx W' F' r S (m.trans mv)
theorem GoesT.after {K : PySem.W.Frag} {Wx : WX} {Q : Bool → Hp → Prop} {σ : L2.St} {W W1 : Wd} {F F1 : List Addr} {o : EO} (h : GoesT K Wx Q σ W F o) (m : Mv W W1 F F1) : GoesT K Wx Q σ W1 F1 o := by
  cases o with
  | ok d ρ' μ' => cases d <;> first
    | exact h
    | exact fun W' F' S mv => h W' F' S (m.trans mv)
  | ex c fs ρ' μ' => exact fun dx W' F' r S mv => h dx W' F' r S (m.trans mv)
theorem GoesE.ex_of {K : PySem.W.Frag} {Wx : WX} {Q Q' : VK} {σ : L2.St} {W : Wd} {F : List Addr} {c : Str} {fs : List (Str × D)} {ρ μ : List D} (h : GoesE K Wx Q σ W F (.ex c fs ρ μ)) : GoesE K Wx Q' σ W F (.ex c fs ρ μ) := h
/-! ### values with no place of their own -/
def fl : D → Bool
  | .ref _ => true
  | d => data d
theorem R_fl {K : PySem.W.Frag} {W : Wd} {d : D} {v : V} {F : List Addr} (h : fl d = true) (r : R K W d v F) : F = [] := by
  cases d with
  | ref k =>
    obtain ⟨a, _, _, e⟩ := r
    exact e
  | _ => exact R_data _ h r
theorem R_mv {K : PySem.W.Frag} {W W' : Wd} {d : D} {v : V} {σ : L2.St} {ρ μ : List D} {F F' : List Addr} (S : Sta K W σ ρ μ F) (m : Mv W W' F F') (r : R K W d v []) : R K W' d v [] := R_lt (m.lt S.own) d r
theorem RL_mv {K : PySem.W.Frag} {W W' : Wd} {ds : List D} {vs : List V} {σ : L2.St} {ρ μ : List D} {F F' : List Addr} (S : Sta K W σ ρ μ F) (m : Mv W W' F F') (r : RL K W ds vs []) : RL K W' ds vs [] := RL_lt (m.lt S.own) ds r
def xB (f : FX) (k : D → FX) : FX := fun ρ μ => (f ρ μ).bind fun o => match o with
  | .ok d ρ' μ' => if fl d = true then k d ρ' μ' else none
  | .ex c fs ρ' μ' => some (.ex c fs ρ' μ')
section
variable {X : Cx} {Wx : WX} {e a b c : Expr} {es : List Expr} {f g : FX} {pos : Pos} {ok : OkT}
theorem run_bind {te : TE} {k : D → FX} (h1 : PXr X Wx te f) {σ : L2.St} {W : Wd} {ρ μ : List D} {F : List Addr} (S : Sta X.K W σ ρ μ F) {o : EO} (ho : xB f k ρ μ = some o) {Q : VK} (hx : ∀ c fs ρ' μ', o = .ex c fs ρ' μ' → GoesE X.K Wx Q σ W F (.ex c fs ρ' μ'))
    (hk : ∀ d v W1 ρ1 μ1 F1, fl d = true → R X.K W1 d v [] → Sta X.K W1 σ ρ1 μ1 F1 → Mv W W1 F F1 → k d ρ1 μ1 = some o → Q v W1.H) : te σ W.H Q := by
  obtain ⟨o1, e1, ho⟩ := bind_some ho
  refine h1 σ W ρ μ F S o1 e1 Q ?_
  cases o1 with
  | ok d ρ1 μ1 =>
    by_cases hd : fl d = true
    case neg =>
      have ho2 : (if fl d = true then k d ρ1 μ1 else none) = some o := ho
      rw [if_neg hd] at ho2
      cases ho2
    have ho2 : (if fl d = true then k d ρ1 μ1 else none) = some o := ho
    rw [if_pos hd] at ho2
    intro v W' G F' r S' nd own mv
    have z := R_fl hd r
    subst z
    exact hk d v W' ρ1 μ1 F' hd r S' mv ho2
  | ex c fs ρ' μ' =>
    cases ho
    exact hx _ _ _ _ rfl
/-- what is quiet -/
def xQ (q : FQ) : FX := fun ρ μ => (q ρ μ).bind fun d => if fl d = true then some (.ok d ρ μ) else none
theorem px_q {q : FQ} (h : PQ X e q) : PX X Wx e (xQ q) := by
  obtain ⟨te, p, k⟩ := h
  refine ⟨te, p, fun σ W ρ μ F S o ho Q hQ => ?_⟩
  obtain ⟨d, e1, ho⟩ := bind_some ho
  by_cases hd : fl d = true
  case neg => rw [if_neg hd] at ho; cases ho
  rw [if_pos hd] at ho
  cases ho
  refine k σ W ρ μ F S d e1 Q fun v W' G x r => ?_
  have z := R_fl hd r
  subst z
  exact hQ v W' [] F r (S.ext x) S.nd (fun _ hb => nomatch hb) x.mvr
/-- a new list -/
def xN (k : FA) : FX := fun ρ μ => (k ρ μ).map fun ds => .ok (.ml ds) ρ μ
theorem px_n {k : FA} (h : PN X e k) : PX X Wx e (xN k) := by
  obtain ⟨te, p, k1⟩ := h
  refine ⟨te, p, fun σ W ρ μ F S o ho Q hQ => ?_⟩
  obtain ⟨ds, e1, z⟩ := map_some ho
  subst z
  refine k1 σ W ρ μ F S ds e1 Q fun p W' n => ?_
  obtain ⟨x, new, nofr, vs, h1, h2⟩ := n
  have pF : p ∉ F := fun z => by
    obtain ⟨_, w⟩ := S.own p z
    rcases w with ⟨xs, w⟩ | ⟨C, dx, fs, w⟩ <;> rw [new] at w <;> cases w
  exact hQ (.ref p) W' [p] F ⟨p, vs, [], rfl, h1, h2, rfl⟩ (S.ext x) (List.nodup_cons.mpr ⟨pF, S.nd⟩) (fun b hb => by
    obtain rfl := List.mem_singleton.mp hb
    exact ⟨nofr, .inl ⟨vs, h1⟩⟩) ⟨fun b o h _ => x.ex b o h, x.fr, fun b h => (x.nf b h).elim .inl fun z => .inr (.inl z), fun b hb => (List.mem_cons.mp hb).elim (fun z => .inr (z ▸ new)) .inl, ⟨[], by rw [x.m, List.append_nil]⟩⟩
/-- what a slot has, handed over -/
def xMove (i : Nat) : FX := fun ρ μ => (ρ[i]?).bind fun d => if isUn d = true then none else some (.ok d (ρ.set i .un) μ)
theorem px_move (i : Nat) {x : Str} (hp : PE X (.Name x pos) (tVar i)) : PX X Wx (.Name x pos) (xMove i) := by
  refine ⟨_, hp, fun σ W ρ μ F S o ho Q hQ => ?_⟩
  obtain ⟨d, e1, ho⟩ := bind_some ho
  by_cases hd : isUn d = true
  case pos => rw [if_pos hd] at ho; cases ho
  rw [if_neg hd] at ho
  cases ho
  obtain ⟨v, F', hv, S', pm⟩ := sta_out S e1 (isUn_ne (Bool.eq_false_iff.mpr hd))
  obtain ⟨G, F2, r, S2, e2⟩ := sta_tail S'
  rw [R1_iff] at r
  rcases r with ⟨z, _⟩ | ⟨v', ev, r⟩
  · exact absurd z (isUn_ne (Bool.eq_false_iff.mpr hd))
  injection ev with ev
  subst ev
  subst e2
  exact ⟨v, hv, hQ v W G F2 r S2 S'.nd (fun b hb => S'.own b (List.mem_append_left _ hb)) (((Ext.refl S.ok).mvr (F := F)).sub (fun _ h => h) fun b hb => pm.mem_iff.mp hb)⟩
/-! ### operators -/
def xOp (o : D → D → Option D) (f g : FX) : FX := xB f fun x => xB g fun y => fun ρ μ => (o x y).bind fun d => if data d = true then some (.ok d ρ μ) else none
theorem runX2 {ta tb : TE} {r : R2} {o : D → D → Option D} (h1 : PXr X Wx ta f) (h2 : PXr X Wx tb g)
    (h3 : ∀ (W : Wd) (x y : D) (u v : V) (G1 G2 : List Addr), WOk W → R X.K W x u G1 → R X.K W y v G2 → ∀ d, o x y = some d → ∀ Q : VK, (∀ v W' G, Ext W W' → R X.K W' d v G → Q v W'.H) → r u v W.H Q) : PXr X Wx (tOp r ta tb) (xOp o f g) := by
  intro σ W ρ μ F S o1 ho Q hQ
  refine run_bind h1 S ho (fun c fs ρ' μ' z => by subst z; exact hQ) fun x u W1 ρ1 μ1 F1 hx rx S1 m1 ho1 => ?_
  refine run_bind h2 S1 ho1 (fun c fs ρ' μ' z => by subst z; exact hQ.after m1) fun y v W2 ρ2 μ2 F2 hy ry S2 m2 ho2 => ?_
  obtain ⟨d, e1, ho2⟩ := bind_some ho2
  by_cases hd : data d = true
  case neg => rw [if_neg hd] at ho2; cases ho2
  rw [if_pos hd] at ho2
  cases ho2
  refine h3 W2 x y u v [] [] S2.ok (R_mv S1 m2 rx) ry d e1 Q fun z W3 G3 x3 r3 => ?_
  have e := R_data d hd r3
  subst e
  exact hQ z W3 [] F2 r3 (S2.ext x3) S2.nd (fun _ hb => nomatch hb) ((m1.trans m2).trans x3.mvr)
theorem px_op {op : Operator} {o : D → D → Option D} (h : OpD X (binaryOp op) o) (ha : PX X Wx a f) (hb : PX X Wx b g) : PX X Wx (.BinOp a op b pos) (xOp o f g) := by
  obtain ⟨r, hr, h3⟩ := h
  obtain ⟨ta, pa, h1⟩ := ha
  obtain ⟨tb, pb, h2⟩ := hb
  exact ⟨_, pe_op hr pa pb, runX2 h1 h2 h3⟩
theorem px_cmp {op : CmpOp} {o : D → D → Option D} (h : OpD X (compareOp op) o) (ha : PX X Wx a f) (hb : PX X Wx b g) (hm : behindInMarks op b = false) : PX X Wx (.Compare a [op] [b] pos) (xOp o f g) := by
  obtain ⟨r, hr, h3⟩ := h
  obtain ⟨ta, pa, h1⟩ := ha
  obtain ⟨tb, pb, h2⟩ := hb
  exact ⟨_, pe_cmpR hr pa pb hm, runX2 h1 h2 h3⟩
theorem px_ix (ha : PX X Wx a f) (hb : PX X Wx b g) (hs : PlainIx b := by exact fun _ _ => rfl) : PX X Wx (.Subscript a b pos) (xOp dIx f g) := by
  obtain ⟨r, hr, h3⟩ := (ixd_all (X := X))
  obtain ⟨ta, pa, h1⟩ := ha
  obtain ⟨tb, pb, h2⟩ := hb
  exact ⟨_, pe_ix hr pa pb hs, runX2 h1 h2 h3⟩
/-! ### tests -/
theorem GoesT.toE {K : PySem.W.Frag} {Q : Bool → Hp → Prop} {σ : L2.St} {W : Wd} {F : List Addr} {o : EO} (h : GoesT K Wx Q σ W F o) : GoesE K Wx (fun v H1 => ∃ b, v = .bl b ∧ Q b H1) σ W F o := by
  cases o with
  | ok d ρ' μ' =>
    cases d with
    | bl b =>
      intro v W' G F' r S nd own mv
      obtain ⟨rfl, rfl⟩ := r
      exact ⟨b, rfl, h W' F' S mv⟩
    | _ => exact h.elim
  | ex c fs ρ' μ' => exact h
theorem ptx_val (ha : PX X Wx a f) (he : ∀ whole, isTrue a X.env whole = (do let v ← whole; standAt a.pos; holding [v] (truthy v)) := by intro _; rfl) : PTX X Wx a f := by
  obtain ⟨ta, pa, h1⟩ := ha
  exact ⟨_, pt_val pa he, fun σ W ρ μ F S o ho Q hQ => h1 σ W ρ μ F S o ho _ hQ.toE⟩
theorem ptx_cmp {op : CmpOp} {o : D → D → Option D} (h : OpD X (compareOp op) o) (ha : PX X Wx a f) (hb : PX X Wx b g) (hm : behindInMarks op b = false) : PTX X Wx (.Compare a [op] [b] pos) (xOp o f g) := by
  obtain ⟨r, hr, h3⟩ := h
  obtain ⟨ta, pa, h1⟩ := ha
  obtain ⟨tb, pb, h2⟩ := hb
  exact ⟨_, pt_cmpR hr pa pb hm, fun σ W ρ μ F S o ho Q hQ => runX2 h1 h2 h3 σ W ρ μ F S o ho _ hQ.toE⟩
theorem ptx_q {t : FB} (h : PB X a t) : PTX X Wx a (fun ρ μ => (t ρ μ).map fun b => .ok (.bl b) ρ μ) := by
  obtain ⟨tt, p, k⟩ := h
  refine ⟨tt, p, fun σ W ρ μ F S o ho Q hQ => ?_⟩
  obtain ⟨b, e1, z⟩ := map_some ho
  subst z
  exact k σ W ρ μ F S b e1 Q fun W' x => hQ W' F (S.ext x) x.mvr
/-- by a truth -/
def xT (f : FX) (k : Bool → FX) : FX := fun ρ μ => (f ρ μ).bind fun o => match o with
  | .ok d ρ' μ' => (match d with
    | .bl b => k b ρ' μ'
    | _ => none)
  | .ex c fs ρ' μ' => some (.ex c fs ρ' μ')
theorem runT_bind {tt : TT} {k : Bool → FX} (h1 : PTr X Wx tt f) {σ : L2.St} {W : Wd} {ρ μ : List D} {F : List Addr} (S : Sta X.K W σ ρ μ F) {o : EO} (ho : xT f k ρ μ = some o) {Q : Bool → Hp → Prop} {Q' : VK} (hx : ∀ c fs ρ' μ', o = .ex c fs ρ' μ' → GoesE X.K Wx Q' σ W F (.ex c fs ρ' μ'))
    (hk : ∀ b W1 ρ1 μ1 F1, Sta X.K W1 σ ρ1 μ1 F1 → Mv W W1 F F1 → k b ρ1 μ1 = some o → Q b W1.H) : tt σ W.H Q := by
  obtain ⟨o1, e1, ho⟩ := bind_some ho
  refine h1 σ W ρ μ F S o1 e1 Q ?_
  cases o1 with
  | ok d ρ1 μ1 =>
    cases d with
    | bl b => exact fun W' F' S' mv => hk b W' ρ1 μ1 F' S' mv ho
    | _ => cases ho
  | ex c fs ρ' μ' =>
    cases ho
    exact hx _ _ _ _ rfl
def xNot (f : FX) : FX := xT f fun b ρ μ => some (.ok (.bl (!b)) ρ μ)
def xAnd (f g : FX) : FX := xT f fun b ρ μ => if b = true then g ρ μ else some (.ok (.bl false) ρ μ)
def xOr (f g : FX) : FX := xT f fun b ρ μ => if b = true then some (.ok (.bl true) ρ μ) else g ρ μ
theorem PWX.pt (h : PWX X Wx e f) : PTX X Wx e f := by
  obtain ⟨tt, p, k⟩ := h
  exact ⟨tt, p.pt, k⟩
theorem ptx_not (ha : PTX X Wx a f) : PTX X Wx (.UnaryOp .Not a pos) (xNot f) := by
  obtain ⟨tt, p, k⟩ := ha
  refine ⟨_, pt_not p, fun σ W ρ μ F S o ho Q hQ => ?_⟩
  refine runT_bind (Q' := fun _ _ => False) k S ho (fun c fs ρ' μ' z => by subst z; exact hQ) fun b W1 ρ1 μ1 F1 S1 m1 ho1 => ?_
  cases ho1
  exact hQ W1 F1 S1 m1
theorem pwx_and1 (h : PTX X Wx a f) : PWX X Wx (.BoolOp .And [a] pos) f := by
  obtain ⟨tt, p, k⟩ := h
  exact ⟨tt, pw_and1 p, k⟩
theorem pwx_or1 (h : PTX X Wx a f) : PWX X Wx (.BoolOp .Or [a] pos) f := by
  obtain ⟨tt, p, k⟩ := h
  exact ⟨tt, pw_or1 p, k⟩
theorem pwx_and (ha : PTX X Wx a f) (hb : PWX X Wx (.BoolOp .And (b :: es) pos) g) : PWX X Wx (.BoolOp .And (a :: b :: es) pos) (xAnd f g) := by
  obtain ⟨t1, p1, k1⟩ := ha
  obtain ⟨t2, p2, k2⟩ := hb
  refine ⟨_, pw_and p1 p2, fun σ W ρ μ F S o ho Q hQ => ?_⟩
  refine runT_bind (Q' := fun _ _ => False) k1 S ho (fun c fs ρ' μ' z => by subst z; exact hQ) fun x W1 ρ1 μ1 F1 S1 m1 ho1 => ?_
  cases x with
  | true =>
    rw [if_pos rfl] at ho1 ⊢
    exact k2 σ W1 ρ1 μ1 F1 S1 o ho1 Q (hQ.after m1)
  | false =>
    rw [if_neg Bool.false_ne_true] at ho1 ⊢
    cases ho1
    exact hQ W1 F1 S1 m1
theorem pwx_or (ha : PTX X Wx a f) (hb : PWX X Wx (.BoolOp .Or (b :: es) pos) g) : PWX X Wx (.BoolOp .Or (a :: b :: es) pos) (xOr f g) := by
  obtain ⟨t1, p1, k1⟩ := ha
  obtain ⟨t2, p2, k2⟩ := hb
  refine ⟨_, pw_or p1 p2, fun σ W ρ μ F S o ho Q hQ => ?_⟩
  refine runT_bind (Q' := fun _ _ => False) k1 S ho (fun c fs ρ' μ' z => by subst z; exact hQ) fun x W1 ρ1 μ1 F1 S1 m1 ho1 => ?_
  cases x with
  | true =>
    rw [if_pos rfl] at ho1 ⊢
    cases ho1
    exact hQ W1 F1 S1 m1
  | false =>
    rw [if_neg Bool.false_ne_true] at ho1 ⊢
    exact k2 σ W1 ρ1 μ1 F1 S1 o ho1 Q (hQ.after m1)
/-! ### as values -/
theorem runE_bind {te : TE} {k : Bool → FX} (h1 : PXr X Wx te f) {σ : L2.St} {W : Wd} {ρ μ : List D} {F : List Addr} (S : Sta X.K W σ ρ μ F) {o : EO} (ho : xT f k ρ μ = some o) {Q : VK} {Q' : VK} (hx : ∀ c fs ρ' μ', o = .ex c fs ρ' μ' → GoesE X.K Wx Q' σ W F (.ex c fs ρ' μ'))
    (hk : ∀ b W1 ρ1 μ1 F1, Sta X.K W1 σ ρ1 μ1 F1 → Mv W W1 F F1 → k b ρ1 μ1 = some o → Q (.bl b) W1.H) : te σ W.H Q := by
  obtain ⟨o1, e1, ho⟩ := bind_some ho
  refine h1 σ W ρ μ F S o1 e1 Q ?_
  cases o1 with
  | ok d ρ1 μ1 =>
    cases d with
    | bl b =>
      intro v W' G F' r S' nd own mv
      obtain ⟨rfl, rfl⟩ := r
      exact hk b W' ρ1 μ1 F' S' mv ho
    | _ => cases ho
  | ex c fs ρ' μ' =>
    cases ho
    exact hx _ _ _ _ rfl
theorem px_not (ha : PX X Wx a f) : PX X Wx (.UnaryOp .Not a pos) (xNot f) := by
  obtain ⟨tt, p, k⟩ := ha
  refine ⟨_, pe_not p, fun σ W ρ μ F S o ho Q hQ => ?_⟩
  refine runE_bind (Q' := fun _ _ => False) k S ho (fun c fs ρ' μ' z => by subst z; exact hQ) fun b W1 ρ1 μ1 F1 S1 m1 ho1 => ?_
  cases ho1
  exact ⟨b, rfl, hQ _ W1 [] F1 ⟨rfl, rfl⟩ S1 S1.nd (fun _ hb => nomatch hb) m1⟩
theorem px_one {op} (h : PX X Wx a f) : PX X Wx (.BoolOp op [a] pos) f := by
  obtain ⟨t, p, k⟩ := h
  exact ⟨t, pe_one p, k⟩
theorem px_and (ha : PX X Wx a f) (hb : PX X Wx (.BoolOp .And (b :: es) pos) g) : PX X Wx (.BoolOp .And (a :: b :: es) pos) (xAnd f g) := by
  obtain ⟨t1, p1, k1⟩ := ha
  obtain ⟨t2, p2, k2⟩ := hb
  refine ⟨_, pe_and p1 p2, fun σ W ρ μ F S o ho Q hQ => ?_⟩
  refine runE_bind (Q' := fun _ _ => False) k1 S ho (fun c fs ρ' μ' z => by subst z; exact hQ) fun x W1 ρ1 μ1 F1 S1 m1 ho1 => ?_
  refine ⟨x, rfl, ?_⟩
  cases x with
  | true =>
    rw [if_pos rfl] at ho1 ⊢
    exact k2 σ W1 ρ1 μ1 F1 S1 o ho1 Q (hQ.after m1)
  | false =>
    rw [if_neg Bool.false_ne_true] at ho1 ⊢
    cases ho1
    exact hQ _ W1 [] F1 ⟨rfl, rfl⟩ S1 S1.nd (fun _ hb => nomatch hb) m1
theorem px_or (ha : PX X Wx a f) (hb : PX X Wx (.BoolOp .Or (b :: es) pos) g) : PX X Wx (.BoolOp .Or (a :: b :: es) pos) (xOr f g) := by
  obtain ⟨t1, p1, k1⟩ := ha
  obtain ⟨t2, p2, k2⟩ := hb
  refine ⟨_, pe_or p1 p2, fun σ W ρ μ F S o ho Q hQ => ?_⟩
  refine runE_bind (Q' := fun _ _ => False) k1 S ho (fun c fs ρ' μ' z => by subst z; exact hQ) fun x W1 ρ1 μ1 F1 S1 m1 ho1 => ?_
  refine ⟨x, rfl, ?_⟩
  cases x with
  | true =>
    rw [if_pos rfl] at ho1 ⊢
    cases ho1
    exact hQ _ W1 [] F1 ⟨rfl, rfl⟩ S1 S1.nd (fun _ hb => nomatch hb) m1
  | false =>
    rw [if_neg Bool.false_ne_true] at ho1 ⊢
    exact k2 σ W1 ρ1 μ1 F1 S1 o ho1 Q (hQ.after m1)
/-! ### fields, read -/
def dFo (ok : OkT) (x : Str) : D → Option D
  | .obj c ns ds => if ok c x = true then (fidx x ns).bind fun i => ds[i]? else none
  | .fo c ns ds => if ok c x = true then (fidx x ns).bind fun i => ds[i]? else none
  | _ => none
def dFld (ok : OkT) (x : Str) (μ : List D) : D → Option D
  | .ref k => (μ[k]?).bind (dFo ok x)
  | d => dFo ok x d
def qFld (ok : OkT) (x : Str) (f : FQ) : FQ := fun ρ μ => (f ρ μ).bind (dFld ok x μ)
theorem RL_map_get {K : PySem.W.Frag} {W : Wd} {μ : List D} {m : List Addr} {F : List Addr} {k : Nat} {d : D} (r : RL K W μ (m.map V.ref) F) (h : μ[k]? = some d) : ∃ a G, m[k]? = some a ∧ R K W d (.ref a) G ∧ ∀ b ∈ G, b ∈ F := by
  obtain ⟨v, G, h1, h2, h3⟩ := RL_get r h
  rw [List.getElem?_map] at h1
  obtain ⟨a, h4, rfl⟩ := map_some h1
  exact ⟨a, G, h4, h2, h3⟩
theorem pq_fld {q : FQ} {x : Str} (T : CE X.K ok) (h : PQ X e q) (hb : attributeBase e x X.env (eval e X.env) = eval e X.env := by rfl) : PQ X (.Attribute e x pos) (qFld ok x q) := by
  obtain ⟨te, p, k⟩ := h
  refine ⟨_, pe_fld p hb, fun σ W ρ μ F S d hd Q hQ => ?_⟩
  obtain ⟨t, e1, hd⟩ := bind_some hd
  refine k σ W ρ μ F S t e1 _ fun u W1 G x1 r1 => ?_
  have S1 := S.ext x1
  have main : ∀ (t : D) (G : List Addr) (u : V), R X.K W1 t u G → dFo ok x t = some d →
      ∃ a C dx fs v, u = .ref a ∧ W1.H a = some (.ins C dx fs) ∧ Cls X.K C ∧ NoAttr X.K C x ∧ fs.lookup x = some v ∧ Q v W1.H := by
    intro t G u r he
    cases t with
    | obj c ns ds =>
      have he2 : (if ok c x = true then (fidx x ns).bind fun i => ds[i]? else none) = some d := he
      by_cases hk : ok c x = true
      case neg => rw [if_neg hk] at he2; cases he2
      rw [if_pos hk] at he2
      obtain ⟨i, h1, h2⟩ := bind_some he2
      obtain ⟨a, dx, vs, F', rfl, hH, hn, hR, rfl⟩ := r
      obtain ⟨v, G1, q1, q2, _⟩ := RL_get hR h2
      obtain ⟨cl, na⟩ := T c x hk
      exact ⟨a, _, dx, _, v, rfl, hH, cl, na, by rw [fidx_lookup h1 (by rw [hn, RL_len hR])]; exact q1, hQ v W1 G1 x1 q2⟩
    | fo c ns ds =>
      have he2 : (if ok c x = true then (fidx x ns).bind fun i => ds[i]? else none) = some d := he
      by_cases hk : ok c x = true
      case neg => rw [if_neg hk] at he2; cases he2
      rw [if_pos hk] at he2
      obtain ⟨i, h1, h2⟩ := bind_some he2
      obtain ⟨a, dx, vs, rfl, hH, _, hn, hR, rfl⟩ := r
      obtain ⟨v, G1, q1, q2, _⟩ := RL_get hR h2
      obtain ⟨cl, na⟩ := T c x hk
      exact ⟨a, _, dx, _, v, rfl, hH, cl, na, by rw [fidx_lookup h1 (by rw [hn, RL_len hR])]; exact q1, hQ v W1 G1 x1 q2⟩
    | _ => cases he
  cases t with
  | ref j =>
    obtain ⟨t2, e2, hd2⟩ := bind_some (show (μ[j]?).bind (dFo ok x) = some d from hd)
    obtain ⟨a, rfl, h3, _⟩ := r1
    obtain ⟨F1, F2, _, h4, _⟩ := S1.ex
    obtain ⟨a', G', h5, h6, _⟩ := RL_map_get h4 e2
    rw [h3] at h5
    cases h5
    exact main t2 G' _ h6 hd2
  | _ => exact main _ _ _ r1 hd
end
end Fw
/-! # arguments; defs and methods that change something -/
namespace Fw
open PySem PySem.Spec PyProof.Rows L2
open Evl (Ex)
/-- an argument: a value with no place of its own, or what a slot has, lent -/
inductive AV where
  | val (d : D) | slot (j : Nat)
inductive AO where
  | ok (as : List AV) (ρ μ : List D) | ex (c : Str) (fs : List (Str × D)) (ρ μ : List D)
abbrev FXA := List D → List D → Option AO
def AVs (K : PySem.W.Frag) (W : Wd) (σ : L2.St) : List AV → List V → Prop
  | [], vs => vs = []
  | .val d :: as, vs => ∃ v vs', vs = v :: vs' ∧ R K W d v [] ∧ AVs K W σ as vs'
  | .slot j :: as, vs => ∃ v vs', vs = v :: vs' ∧ σ[j]? = some (some v) ∧ AVs K W σ as vs'
theorem AVs.lt {K : PySem.W.Frag} {W W' : Wd} {σ : L2.St} (e : Lt W W') : ∀ {as : List AV} {vs : List V}, AVs K W σ as vs → AVs K W' σ as vs
  | [], _, h => h
  | .val d :: as, _, h => by
    obtain ⟨v, vs', h1, h2, h3⟩ := h
    exact ⟨v, vs', h1, R_lt e d h2, AVs.lt e h3⟩
  | .slot j :: as, _, h => by
    obtain ⟨v, vs', h1, h2, h3⟩ := h
    exact ⟨v, vs', h1, h2, AVs.lt e h3⟩
def avals : List AV → Option (List D)
  | [] => some []
  | .val d :: as => (avals as).map fun ds => d :: ds
  | .slot _ :: _ => none
theorem AVs.vals {K : PySem.W.Frag} {W : Wd} {σ : L2.St} : ∀ {as : List AV} {vs : List V} {ds : List D}, AVs K W σ as vs → avals as = some ds → RL K W ds vs []
  | [], _, _, h, e => by
    cases e
    exact ⟨h, rfl⟩
  | .val d :: as, _, _, h, e => by
    obtain ⟨v, vs', h1, h2, h3⟩ := h
    obtain ⟨ds, e1, rfl⟩ := map_some e
    exact ⟨v, vs', [], [], h1, h2, AVs.vals h3 e1, rfl⟩
  | .slot j :: as, _, _, h, e => by cases e
def GoesA (K : PySem.W.Frag) (Wx : WX) (Q : List V → Hp → Prop) (σ : L2.St) (W : Wd) (F : List Addr) : AO → Prop
  | .ok as ρ' μ' => ∀ vs W' F', AVs K W' σ as vs → Sta K W' σ ρ' μ' F' → Mv W W' F F' → Q vs W'.H
  | .ex c fs ρ' μ' => ∀ dx W' F', ExAt K W' fs dx → Sta K W' σ ρ' μ' F' → Mv W W' F F' → Wx (.ref (He.ga K c)) dx σ W'.H
theorem GoesA.after {K : PySem.W.Frag} {Wx : WX} {Q : List V → Hp → Prop} {σ : L2.St} {W W1 : Wd} {F F1 : List Addr} {o : AO} (h : GoesA K Wx Q σ W F o) (m : Mv W W1 F F1) : GoesA K Wx Q σ W1 F1 o := by
  cases o with
  | ok as ρ' μ' => exact fun vs W' F' r S mv => h vs W' F' r S (m.trans mv)
  | ex c fs ρ' μ' => exact fun dx W' F' r S mv => h dx W' F' r S (m.trans mv)
def PAr (X : Cx) (Wx : WX) (ta : TA) (g : FXA) : Prop := ∀ (σ : L2.St) (W : Wd) (ρ μ : List D) (F : List Addr), Sta X.K W σ ρ μ F → ∀ o, g ρ μ = some o → ∀ Q : List V → Hp → Prop, GoesA X.K Wx Q σ W F o → ta σ W.H Q
def PAX (X : Cx) (Wx : WX) (es : List Expr) (g : FXA) : Prop := ∃ ta : TA, PA X es ta ∧ PAr X Wx ta g
def xaNil : FXA := fun ρ μ => some (.ok [] ρ μ)
def aoCons (a : AV) (o : Option AO) : Option AO := o.map fun o => match o with
  | .ok as ρ μ => .ok (a :: as) ρ μ
  | .ex c fs ρ μ => .ex c fs ρ μ
def xaCons (f : FX) (k : FXA) : FXA := fun ρ μ => (f ρ μ).bind fun o => match o with
  | .ok d ρ1 μ1 => if fl d = true then aoCons (.val d) (k ρ1 μ1) else none
  | .ex c fs ρ1 μ1 => some (.ex c fs ρ1 μ1)
def xaSlot (j : Nat) (k : FXA) : FXA := fun ρ μ => (ρ[j]?).bind fun d => if isUn d = true then none else aoCons (.slot j) (k ρ μ)
section
variable {X : Cx} {Wx : WX} {e a b c : Expr} {es : List Expr} {f g : FX} {pos : Pos} {ok : OkT} {k : FXA}
theorem pax_nil : PAX X Wx [] xaNil := ⟨_, pa_nil, fun σ W ρ μ F S o ho Q hQ => by
  cases ho
  exact hQ [] W F rfl S (Ext.refl S.ok).mvr⟩
theorem aoCons_run {ta : TA} (k2 : PAr X Wx ta k) {a : AV} {v : V} {σ : L2.St} {W : Wd} {ρ μ : List D} {F : List Addr} (S : Sta X.K W σ ρ μ F) {o : AO} (ho : aoCons a (k ρ μ) = some o) {Q : List V → Hp → Prop} (hQ : GoesA X.K Wx Q σ W F o)
    (hv : ∀ W' F', Mv W W' F F' → ∀ as vs, AVs X.K W' σ as vs → AVs X.K W' σ (a :: as) (v :: vs)) : ta σ W.H fun vs H2 => Q (v :: vs) H2 := by
  obtain ⟨o1, e1, z⟩ := map_some ho
  subst z
  refine k2 σ W ρ μ F S o1 e1 _ ?_
  cases o1 with
  | ok as ρ1 μ1 => exact fun vs W' F' r S' mv => hQ (v :: vs) W' F' (hv W' F' mv as vs r) S' mv
  | ex c fs ρ1 μ1 => exact hQ
theorem pax_cons (ha : PX X Wx e f) (hr : PAX X Wx es k) (hs : starEach (e :: es) X.env = (false, eval e X.env) :: starEach es X.env := by rfl) : PAX X Wx (e :: es) (xaCons f k) := by
  obtain ⟨t1, p1, k1⟩ := ha
  obtain ⟨t2, p2, k2⟩ := hr
  refine ⟨_, pa_cons p1 p2 hs, fun σ W ρ μ F S o ho Q hQ => ?_⟩
  obtain ⟨o1, e1, ho⟩ := bind_some ho
  refine k1 σ W ρ μ F S o1 e1 _ ?_
  cases o1 with
  | ok d ρ1 μ1 =>
    have ho2 : (if fl d = true then aoCons (.val d) (k ρ1 μ1) else none) = some o := ho
    by_cases hd : fl d = true
    case neg => rw [if_neg hd] at ho2; cases ho2
    rw [if_pos hd] at ho2
    intro v W1 G F1 r S1 nd own mv
    have z := R_fl hd r
    subst z
    exact aoCons_run k2 S1 ho2 (hQ.after mv) fun W' F' m' as vs ra => ⟨v, vs, rfl, R_mv S1 m' r, ra⟩
  | ex c fs ρ1 μ1 =>
    cases ho
    exact hQ
theorem pax_slot {j : Nat} {x : Str} {p : Pos} (hp : PE X (.Name x p) (tVar j)) (hr : PAX X Wx es k) (hs : starEach (.Name x p :: es) X.env = (false, eval (.Name x p) X.env) :: starEach es X.env := by rfl) : PAX X Wx (.Name x p :: es) (xaSlot j k) := by
  obtain ⟨t2, p2, k2⟩ := hr
  refine ⟨_, pa_cons hp p2 hs, fun σ W ρ μ F S o ho Q hQ => ?_⟩
  obtain ⟨d, e1, ho⟩ := bind_some ho
  by_cases hd : isUn d = true
  case pos => rw [if_pos hd] at ho; cases ho
  rw [if_neg hd] at ho
  obtain ⟨F1, F2, h1, _, _⟩ := S.ex
  obtain ⟨v, G, hv, _⟩ := RS_get h1 e1 (isUn_ne (Bool.eq_false_iff.mpr hd))
  exact ⟨v, hv, aoCons_run k2 S ho hQ fun W' F' m' as vs ra => ⟨v, vs, rfl, hv, ra⟩⟩
/-! ### by values alone -/
def xA (k : FXA) (g : List D → FX) : FX := fun ρ μ => (k ρ μ).bind fun o => match o with
  | .ok as ρ1 μ1 => (avals as).bind fun ds => g ds ρ1 μ1
  | .ex c fs ρ1 μ1 => some (.ex c fs ρ1 μ1)
theorem runA_bind {ta : TA} {g : List D → FX} (h1 : PAr X Wx ta k) {σ : L2.St} {W : Wd} {ρ μ : List D} {F : List Addr} (S : Sta X.K W σ ρ μ F) {o : EO} (ho : xA k g ρ μ = some o) {Q : List V → Hp → Prop} {Q' : VK} (hQ : GoesE X.K Wx Q' σ W F o)
    (hk : ∀ ds vs W1 ρ1 μ1 F1, RL X.K W1 ds vs [] → Sta X.K W1 σ ρ1 μ1 F1 → Mv W W1 F F1 → g ds ρ1 μ1 = some o → Q vs W1.H) : ta σ W.H Q := by
  obtain ⟨o1, e1, ho⟩ := bind_some ho
  refine h1 σ W ρ μ F S o1 e1 Q ?_
  cases o1 with
  | ok as ρ1 μ1 =>
    obtain ⟨ds, e2, ho⟩ := bind_some (show (avals as).bind (fun ds => g ds ρ1 μ1) = some o from ho)
    exact fun vs W' F' r S' mv => hk ds vs W' ρ1 μ1 F' (r.vals e2) S' mv ho
  | ex c fs ρ1 μ1 =>
    cases ho
    exact hQ
def xTup (k : FXA) : FX := xA k fun ds ρ μ => if ds.length ≤ 100 ∧ dataL ds = true then some (.ok (.tup ds) ρ μ) else none
theorem px_tup {x1} (h : PAX X Wx es k) : PX X Wx (.Tuple es x1 pos) (xTup k) := by
  obtain ⟨ta, p, k1⟩ := h
  refine ⟨_, pe_tup p, fun σ W ρ μ F S o ho Q hQ => ?_⟩
  refine runA_bind k1 S ho hQ fun ds vs W1 ρ1 μ1 F1 r S1 mv ho1 => ?_
  by_cases hl : ds.length ≤ 100 ∧ dataL ds = true
  case neg => rw [if_neg hl] at ho1; cases ho1
  rw [if_pos hl] at ho1
  cases ho1
  refine ⟨by rw [RL_len r]; exact lim_ok (Nat.le_trans hl.1 (by decide)), fun p hp => ?_⟩
  exact hQ _ (W1.put p (.tup vs)) [] F1 (R_newT S1.ok hp r) (S1.ext (Ext.put S1.ok hp)) S1.nd (fun _ hb => nomatch hb) (mv.trans (Ext.put S1.ok hp).mvr)
def xCall (o : List D → Option D) (k : FXA) : FX := xA k fun ds ρ μ => (o ds).bind fun d => if data d = true then some (.ok d ρ μ) else none
theorem runCX {t : TA} {o : List D → Option D} {r : List V → Hp → VK → Prop} (k1 : PAr X Wx t k)
    (k2 : ∀ (W : Wd) (ds : List D) (vs : List V) (G : List Addr), WOk W → RL X.K W ds vs G → ∀ d, o ds = some d → ∀ Q : VK, (∀ v W' G, Ext W W' → R X.K W' d v G → Q v W'.H) → r vs W.H Q) : PXr X Wx (tCB r t) (xCall o k) := by
  intro σ W ρ μ F S o1 ho Q hQ
  refine runA_bind k1 S ho hQ fun ds vs W1 ρ1 μ1 F1 r1 S1 mv ho1 => ?_
  obtain ⟨d, e1, ho1⟩ := bind_some ho1
  by_cases hd : data d = true
  case neg => rw [if_neg hd] at ho1; cases ho1
  rw [if_pos hd] at ho1
  cases ho1
  refine k2 W1 ds vs [] S1.ok r1 d e1 Q fun v W2 G x2 r2 => ?_
  have z := R_data d hd r2
  subst z
  exact hQ v W2 [] F1 r2 (S1.ext x2) S1.nd (fun _ hb => nomatch hb) (mv.trans x2.mvr)
theorem px_callB {id : String} {x : Str} {p : Pos} {o : List D → Option D} (h : CallD X (.builtin id) o) (hm : X.mg x = none) (hv : bootBuiltins x = some (.builtin id)) (ha : PAX X Wx (e :: es) k) (hg : Gl X x := by rfl)
    (hn : x ≠ "__name__" := by decide) (hdb : (x == ("__debug__" : Str)) = false := by decide) (he : starEach (e :: es) X.env = (false, eval e X.env) :: starEach es X.env := by rfl) (hpl : (backTo pos (starEach es X.env)).any (·.1) = false := by rfl) : PX X Wx (.Call (.Name x p) (e :: es) [] pos) (xCall o k) := by
  obtain ⟨r, hr, k2⟩ := h
  obtain ⟨t, pt, k1⟩ := ha
  exact ⟨_, pe_callB hr hg hm hv pt hn hdb he hpl, runCX k1 k2⟩
theorem px_callTy {T : String} {x : Str} {p : Pos} {o : List D → Option D} (h : CallD X (.type T) o) (hm : X.mg x = none) (hv : bootBuiltins x = some (.type T)) (ha : PAX X Wx (e :: es) k) (hg : Gl X x := by rfl)
    (hn : x ≠ "__name__" := by decide) (hdb : (x == ("__debug__" : Str)) = false := by decide) (he : starEach (e :: es) X.env = (false, eval e X.env) :: starEach es X.env := by rfl) (hpl : (backTo pos (starEach es X.env)).any (·.1) = false := by rfl) : PX X Wx (.Call (.Name x p) (e :: es) [] pos) (xCall o k) := by
  obtain ⟨r, hr, k2⟩ := h
  obtain ⟨t, pt, k1⟩ := ha
  exact ⟨_, pe_callTy hr hg hm hv pt hn hdb he hpl, runCX k1 k2⟩
def xIsi (T : String) (f : FX) : FX := xB f fun d ρ μ => (tyN d).bind fun n => (kitB n T).map fun b => .ok (.bl b) ρ μ
theorem px_isi {T : String} {x : Str} {px p : Pos} (he : PX X Wx e f) (hmi : X.mg "isinstance" = none) (hmx : X.mg x = none) (hv : bootBuiltins x = some (.type T)) (hgi : Gl X "isinstance" := by rfl) (hg : Gl X x := by rfl)
    (hvi : bootBuiltins "isinstance" = some (.builtin "isinstance") := by decide +kernel) (hn : x ≠ "__name__" := by decide) (hd : (x == ("__debug__" : Str)) = false := by decide)
    (hs1 : starEach [e, .Name x px] X.env = (false, eval e X.env) :: starEach [.Name x px] X.env := by rfl) (hs2 : starEach [.Name x px] X.env = (false, eval (.Name x px) X.env) :: starEach [] X.env := by rfl) (hpl : (backTo pos (starEach [.Name x px] X.env)).any (·.1) = false := by rfl) :
    PX X Wx (.Call (.Name "isinstance" p) [e, .Name x px] [] pos) (xIsi T f) := by
  obtain ⟨t, pt, k1⟩ := he
  refine ⟨_, pe_callB call_isi hgi hmi hvi (pa_cons pt (pa_cons (pe_bltn (v := .ty T) hg hmx hv rfl hn hd) pa_nil hs2) hs1) (by decide) (by decide) hs1 hpl, fun σ W ρ μ F S o ho Q hQ => ?_⟩
  refine run_bind k1 S ho (fun c fs ρ' μ' z => by subst z; exact hQ) fun d v W1 ρ1 μ1 F1 hd r1 S1 mv ho1 => ?_
  obtain ⟨n, e2, ho1⟩ := bind_some ho1
  obtain ⟨b, e3, z⟩ := map_some ho1
  subst z
  exact ⟨v, .ty T, .type n, .type T, b, rfl, .ty T, R_ty e2 r1, kit_ty e3, hQ _ W1 [] F1 ⟨rfl, rfl⟩ S1 S1.nd (fun _ hb => nomatch hb) mv⟩
end
/-! ### what is lent goes out and comes back -/
def mo : List AV → List D → Option (List D × List D)
  | [], ρ => some ([], ρ)
  | .val d :: as, ρ => (mo as ρ).map fun z => (d :: z.1, z.2)
  | .slot j :: as, ρ => (mo as ρ).bind fun z => (z.2[j]?).bind fun d => if isUn d = true then none else some (d :: z.1, z.2.set j .un)
def mi : List AV → List D → List D → Option (List D)
  | [], ρ, [] => some ρ
  | .val _ :: as, ρ, _ :: ds => mi as ρ ds
  | .slot j :: as, ρ, d :: ds => mi as (ρ.set j d) ds
  | _, _, _ => none
section
variable {K : PySem.W.Frag} {W : Wd} {σ : L2.St} {μ : List D}
theorem out_all : ∀ {as : List AV} {vs : List V} {ρ ds ρr : List D} {F : List Addr}, Sta K W σ ρ μ F → AVs K W σ as vs → mo as ρ = some (ds, ρr) → vs.length = ds.length ∧ ∃ F', Sta K W (vs.map some ++ σ) (ds ++ ρr) μ F' ∧ F'.Perm F
  | [], vs, ρ, ds, ρr, F, S, ha, h => by
    cases h
    have e : vs = [] := ha
    subst e
    exact ⟨rfl, F, S, List.Perm.refl F⟩
  | .val d :: as, vs, ρ, ds, ρr, F, S, ha, h => by
    obtain ⟨v, vs', rfl, h2, h3⟩ := ha
    obtain ⟨z, e1, e2⟩ := map_some h
    obtain ⟨ds', r'⟩ := z
    cases e2
    obtain ⟨hl, F', S', pm⟩ := out_all S h3 e1
    exact ⟨congrArg Nat.succ hl, F', sta_cons (o := some v) (G := []) (R1_of h2) S' S'.nd (fun _ hb => nomatch hb), pm⟩
  | .slot j :: as, vs, ρ, ds, ρr, F, S, ha, h => by
    obtain ⟨v, vs', rfl, h2, h3⟩ := ha
    obtain ⟨z, e1, h⟩ := bind_some h
    obtain ⟨ds', r'⟩ := z
    obtain ⟨d, e2, h⟩ := bind_some h
    by_cases hd : isUn d = true
    case pos => rw [if_pos hd] at h; cases h
    rw [if_neg hd] at h
    cases h
    obtain ⟨hl, F', S', pm⟩ := out_all S h3 e1
    have e3 : (ds' ++ r')[ds'.length + j]? = some d := by
      rw [List.getElem?_append_right (Nat.le_add_right ..), Nat.add_sub_cancel_left]
      exact e2
    obtain ⟨v', F2, hv, S2, pm2⟩ := sta_out S' e3 (isUn_ne (Bool.eq_false_iff.mpr hd))
    have lm : (vs'.map some : L2.St).length = ds'.length := by rw [List.length_map, hl]
    rw [List.getElem?_append_right (by rw [lm]; exact Nat.le_add_right ..), lm, Nat.add_sub_cancel_left, h2] at hv
    injection hv with hv
    injection hv with hv
    subst hv
    rw [List.set_append_right _ _ (Nat.le_add_right ..), Nat.add_sub_cancel_left] at S2
    exact ⟨congrArg Nat.succ hl, F2, S2, pm2.trans pm⟩
theorem in_all : ∀ {as : List AV} {vs : List V} {ρr ds ρ' : List D} {F : List Addr}, Sta K W (vs.map some ++ σ) (ds ++ ρr) μ F → AVs K W' σ as vs → mi as ρr ds = some ρ' → vs.length = ds.length → ∃ F', Sta K W σ ρ' μ F' ∧ ∀ a ∈ F', a ∈ F
  | [], vs, ρr, [], ρ', F, S, ha, h, hl => by
    cases h
    have e : vs = [] := ha
    subst e
    exact ⟨F, S, fun _ h => h⟩
  | [], vs, ρr, _ :: _, ρ', F, S, ha, h, hl => by cases h
  | .val d :: as, vs, ρr, [], ρ', F, S, ha, h, hl => by cases h
  | .slot j :: as, vs, ρr, [], ρ', F, S, ha, h, hl => by cases h
  | .val d :: as, vs, ρr, d' :: ds, ρ', F, S, ha, h, hl => by
    obtain ⟨v, vs', rfl, h2, h3⟩ := ha
    obtain ⟨G, F', r, S', e⟩ := sta_tail S
    obtain ⟨F2, S2, sub⟩ := in_all (vs := vs') S' h3 h (Nat.succ.inj hl)
    exact ⟨F2, S2, fun a ha => by rw [e]; exact List.mem_append_right _ (sub a ha)⟩
  | .slot j :: as, vs, ρr, d' :: ds, ρ', F, S, ha, h, hl => by
    obtain ⟨v, vs', rfl, h2, h3⟩ := ha
    have hl' : vs'.length = ds.length := Nat.succ.inj hl
    have lm : (vs'.map some : L2.St).length = ds.length := by rw [List.length_map, hl']
    obtain ⟨F', S', sub1⟩ := sta_in (σ := vs'.map some ++ σ) (ρ := ds ++ ρr) (m := ds.length + j) (v := v) S (by rw [List.getElem?_append_right (by rw [lm]; exact Nat.le_add_right ..), lm, Nat.add_sub_cancel_left]; exact h2)
    rw [List.set_append_right _ _ (Nat.le_add_right ..), Nat.add_sub_cancel_left] at S'
    obtain ⟨F2, S2, sub⟩ := in_all (vs := vs') S' h3 h hl'
    exact ⟨F2, S2, fun a ha => sub1 a (sub a ha)⟩
theorem foc_args {as : List AV} {vs : List V} {ρ ds ρr : List D} {F : List Addr} (S : Sta K W σ ρ μ F) (ha : AVs K W σ as vs) (h : mo as ρ = some (ds, ρr)) : Foc K W σ ρ μ F (vs.map some) ds (mi as ρr) := by
  obtain ⟨hl, F1, S1, pm⟩ := out_all S ha h
  obtain ⟨Fc, Sc, sub, k⟩ := sta_frame S1 (by rw [List.length_map, hl])
  refine ⟨Fc, Sc, fun a ha => pm.mem_iff.mp (sub a ha), fun W' xs' μ' Fc' G E ρ' hp S' nd own hE mv => ?_⟩
  obtain ⟨F2, S2, nd2, mv2⟩ := k W' xs' μ' Fc' G E S' nd own (fun a ha => ⟨(hE a ha).1, fun z => (hE a ha).2 (pm.mem_iff.mp z)⟩) mv
  obtain ⟨F3, S3, sub3⟩ := in_all (W' := W) S2 ha hp (by rw [← S'.len, List.length_map])
  have ndG := List.nodup_append.mp nd2
  exact ⟨F3, S3, List.nodup_append.mpr ⟨ndG.1, S3.nd, fun a ha b hb => ndG.2.2 a ha b (sub3 b hb)⟩, mv2.sub (fun a ha => (List.mem_append.mp ha).elim (List.mem_append_left _) fun z => List.mem_append_right _ (pm.mem_iff.mp z)) fun a ha => (List.mem_append.mp ha).elim (List.mem_append_left _) fun z => List.mem_append_right _ (sub3 a z)⟩
end
/-! ### what a def promises that changes something -/
abbrev RX := List D → List D → Option EO
def GoesF (K : PySem.W.Frag) (Q : VK) (E : XK) (vs : List V) (W : Wd) (F : List Addr) : EO → Prop
  | .ok d ds' μ' => ∀ v W' G F', R K W' d v G → Sta K W' (vs.map some) ds' μ' F' → (G ++ F').Nodup → (∀ a ∈ G, Own W' a) → Mv W W' F (G ++ F') → Q v W'.H
  | .ex c fs ds' μ' => ∀ dx W' F', ExAt K W' fs dx → Sta K W' (vs.map some) ds' μ' F' → Mv W W' F F' → E (.ref (He.ga K c)) dx W'.H
def spX (K : PySem.W.Frag) (n : Nat) (run : RX) : Sp := fun vs H Q E => ∃ (W : Wd) (ds μ : List D) (F : List Addr) (o : EO), W.H = H ∧ Sta K W (vs.map some) ds μ F ∧ ds.length = n ∧ run ds μ = some o ∧ GoesF K Q E vs W F o
def xPut (put : List D → Option (List D)) : EO → Option EO
  | .ok d ds' μ' => (put ds').map fun ρ' => .ok d ρ' μ'
  | .ex c fs ds' μ' => (put ds').map fun ρ' => .ex c fs ρ' μ'
theorem spX_of {K : PySem.W.Frag} {Wx : WX} {W : Wd} {σ : L2.St} {ρ μ ds : List D} {F : List Addr} {vs : List V} {put : List D → Option (List D)} {n : Nat} {run : RX} {o1 o : EO} {Q : VK} (fo : Foc K W σ ρ μ F (vs.map some) ds put) (hl : ds.length = n) (hr : run ds μ = some o1)
    (hp : xPut put o1 = some o) (h : GoesE K Wx Q σ W F o) : spX K n run vs W.H Q (WE Wx σ) := by
  obtain ⟨Fc, S, _, k⟩ := fo
  refine ⟨W, ds, μ, Fc, o1, rfl, S, hl, hr, ?_⟩
  cases o1 with
  | ok d ds' μ' =>
    obtain ⟨ρ', e1, z⟩ := map_some (show (put ds').map (fun ρ' => EO.ok d ρ' μ') = some o from hp)
    subst z
    intro v W' G F' r S' nd own mv
    obtain ⟨F2, S2, nd2, mv2⟩ := k W' ds' μ' F' G [] ρ' e1 S' nd own (fun _ hb => nomatch hb) mv
    exact h v W' G F2 r S2 nd2 own mv2
  | ex c fs ds' μ' =>
    obtain ⟨ρ', e1, z⟩ := map_some (show (put ds').map (fun ρ' => EO.ex c fs ρ' μ') = some o from hp)
    subst z
    intro dx W' F' r S' mv
    obtain ⟨F2, S2, nd2, mv2⟩ := k W' ds' μ' F' [] [] ρ' e1 S' S'.nd (fun _ hb => nomatch hb) (fun _ hb => nomatch hb) mv
    exact h dx W' F2 r S2 mv2
end Fw
/-! # defs, methods, makers: called and proved -/
namespace Fw
open PySem PySem.Spec PyProof.Rows L2
open Evl (Ex)
/-! ### a def's end: what was lent and kept goes back -/
def fin : List Bool → List D → List D → Option (List D)
  | [], [], _ => some []
  | true :: ks, _ :: ds, r :: ρ => if isUn r = true then none else (fin ks ds ρ).map fun l => r :: l
  | false :: ks, d :: ds, _ :: ρ => if fl d = true then (fin ks ds ρ).map fun l => d :: l else none
  | _, _, _ => none
theorem fin_rs {K : PySem.W.Frag} {W W' : Wd} (lt : Lt W W') : ∀ {ks : List Bool} {ds ρ ds' : List D} {vs : List V} {σ : L2.St} {F F1 : List Addr}, RS K W ds (vs.map some) F → RS K W' ρ σ F1 → (∀ (i : Nat) (v : V), ks[i]? = some true → vs[i]? = some v → σ[i]? = some (some v)) → fin ks ds ρ = some ds' →
    ∃ F', RS K W' ds' (vs.map some) F' ∧ F'.Sublist F1
  | [], [], ρ, ds', vs, σ, F, F1, h, g, hk, e => by
    cases e
    exact ⟨[], ⟨h.1, rfl⟩, List.nil_sublist _⟩
  | [], d :: ds, ρ, ds', vs, σ, F, F1, h, g, hk, e => by cases e
  | true :: ks, [], ρ, ds', vs, σ, F, F1, h, g, hk, e => by cases e
  | false :: ks, [], ρ, ds', vs, σ, F, F1, h, g, hk, e => by cases e
  | true :: ks, d :: ds, [], ds', vs, σ, F, F1, h, g, hk, e => by cases e
  | false :: ks, d :: ds, [], ds', vs, σ, F, F1, h, g, hk, e => by cases e
  | true :: ks, d :: ds, r :: ρ, ds', [], σ, F, F1, h, g, hk, e => by
    obtain ⟨o, σ', F2, F3, e1, _⟩ := h
    cases e1
  | false :: ks, d :: ds, r :: ρ, ds', [], σ, F, F1, h, g, hk, e => by
    obtain ⟨o, σ', F2, F3, e1, _⟩ := h
    cases e1
  | true :: ks, d :: ds, r :: ρ, ds', v :: vs, σ, F, F1, h, g, hk, e => by
    have e' : (if isUn r = true then none else (fin ks ds ρ).map fun l => r :: l) = some ds' := e
    by_cases hr : isUn r = true
    case pos => rw [if_pos hr] at e'; cases e'
    rw [if_neg hr] at e'
    obtain ⟨l, e2, rfl⟩ := map_some e'
    obtain ⟨o, τ, G1, G2, a1, a2, a3, a4⟩ := h
    injection a1 with a5 a6
    subst a5
    rw [← a6] at a3
    obtain ⟨o', σ', G3, G4, b1, b2, b3, b4⟩ := g
    subst b1
    subst b4
    have hv := hk 0 v rfl rfl
    have hv' : o' = some v := Option.some.inj hv
    subst hv'
    obtain ⟨F', c1, c2⟩ := fin_rs lt a3 b3 (fun i w p q => hk (i + 1) w (by simpa using p) (by simpa using q)) e2
    exact ⟨G3 ++ F', ⟨some v, vs.map some, G3, F', rfl, b2, c1, rfl⟩, List.Sublist.append (List.Sublist.refl G3) c2⟩
  | false :: ks, d :: ds, r :: ρ, ds', v :: vs, σ, F, F1, h, g, hk, e => by
    have e' : (if fl d = true then (fin ks ds ρ).map fun l => d :: l else none) = some ds' := e
    by_cases hd : fl d = true
    case neg => rw [if_neg hd] at e'; cases e'
    rw [if_pos hd] at e'
    obtain ⟨l, e2, rfl⟩ := map_some e'
    obtain ⟨o, τ, G1, G2, a1, a2, a3, a4⟩ := h
    injection a1 with a5 a6
    subst a5
    rw [← a6] at a3
    obtain ⟨o', σ', G3, G4, b1, b2, b3, b4⟩ := g
    subst b1
    subst b4
    obtain ⟨F', c1, c2⟩ := fin_rs lt a3 b3 (fun i w p q => hk (i + 1) w (by simpa using p) (by simpa using q)) e2
    have a7 : R1 K W' d (some v) [] := by
      rw [R1_iff] at a2 ⊢
      rcases a2 with ⟨z, _⟩ | ⟨w, q1, q2⟩
      · exact .inl ⟨z, rfl⟩
      · have z := R_fl hd q2
        subst z
        exact .inr ⟨w, q1, R_lt lt d q2⟩
    exact ⟨F', ⟨some v, vs.map some, [], F', rfl, a7, c1, rfl⟩, c2.trans (List.sublist_append_right G3 G4)⟩
def runX (N : Nat) (ks : List Bool) (f : FS) : RX := fun ds μ => (f (ds ++ List.replicate (N - ds.length) .un) μ).bind fun o => match o with
  | .rt d ρ' μ' => if isUn d = true then none else (fin ks ds ρ').map fun ds' => .ok d ds' μ'
  | .nx ρ' μ' => (fin ks ds ρ').map fun ds' => .ok .non ds' μ'
  | .ex c fs ρ' μ' => (fin ks ds ρ').map fun ds' => .ex c fs ds' μ'
  | _ => none
theorem sta_fin {K : PySem.W.Frag} {W W' : Wd} {ks : List Bool} {ds ds' ρ' μ μ' : List D} {vs : List V} {σ0 σ' : L2.St} {F G F' : List Addr} {ob : List Nat} (S : Sta K W (vs.map some) ds μ F) (S' : Sta K W' σ' ρ' μ' F') (ndG : (G ++ F').Nodup) (mv : Mv W W' F (G ++ F')) (kp : Kept ob σ0 σ')
    (h0 : ∀ (i : Nat) (v : V), vs[i]? = some v → σ0[i]? = some (some v)) (hob : ∀ i : Nat, ks[i]? = some true → i ∈ ob) (e : fin ks ds ρ' = some ds') : ∃ F'', Sta K W' (vs.map some) ds' μ' F'' ∧ (G ++ F'').Nodup ∧ Mv W W' F (G ++ F'') := by
  obtain ⟨F1, F2, a1, a2, a3⟩ := S.ex
  obtain ⟨⟨F3, F4, b1, b2, b3⟩, nd, own, ok⟩ := S'
  subst b3
  obtain ⟨F5, c1, c2⟩ := fin_rs (mv.lt S.own) a1 b1 (fun i v p q => by rw [kp i (hob i p)]; exact h0 i v q) e
  have sub : (F5 ++ F4).Sublist (F3 ++ F4) := List.Sublist.append c2 (List.Sublist.refl F4)
  have sub2 : (G ++ (F5 ++ F4)).Sublist (G ++ (F3 ++ F4)) := List.Sublist.append (List.Sublist.refl G) sub
  exact ⟨F5 ++ F4, ⟨⟨F5, F4, c1, b2, rfl⟩, nd.sublist sub, fun a ha => own a (sub.subset ha), ok⟩, ndG.sublist sub2, mv.sub (fun _ h => h) fun a ha => sub2.subset ha⟩
theorem RS_uns {K : PySem.W.Frag} {W : Wd} : ∀ (m : Nat), RS K W (List.replicate m .un) (List.replicate m none) []
  | 0 => ⟨rfl, rfl⟩
  | m + 1 => ⟨none, List.replicate m none, [], [], rfl, rfl, RS_uns m, rfl⟩
theorem fnx_def {P : Program} {w : World} {K : PySem.W.Frag} {mg : Str → Option Value} {base : Heap} {nm qual : Str} {params : Arguments} {body : List Stmt} {scope : Scope} {dvs0 : List V} {kws : List (Str × V)} {fa : Addr} {fd : FuncData} {N ps : List Str} {k n : Nat} {f : FS} {run : RX} {ks : List Bool} {ob : List Nat}
    (F : FunD K nm qual params body scope dvs0 kws fa fd) (Sc : FnScope N ps scope) (hn : ps.length = n) (hob : ∀ i : Nat, ks[i]? = some true → i ∈ ob)
    (h : ∀ (cdv : Value) (A : Around) (outer : List Env) (s : Shared) (H : Hp) (E : XK), Room k (A.deeper (envOfC qual scope s.heap.objs.size fa cdv)) → PSS (cxOf (L2.CX P w) P w K mg base N qual scope fa cdv A outer s H E) ob (fun cls dx _ H' => E cls dx H') body f)
    (hr : ∀ ds μ o, run ds μ = some o → runX N.length ks f ds μ = some o) : FnOk P w K mg base (L2.CX P w) (k + 1) fa fd ps (spX K n run) := by
  refine F.ok Sc (fun vs H Q E q => ?_) (fun cdv A outer s H vs Q E hroom q => ?_)
  · obtain ⟨W, ds, μ, F0, o, _, S, hl, _⟩ := q
    have := S.len
    rw [List.length_map] at this
    rw [this, hl, hn]
  · obtain ⟨W, ds, μ, F0, o, hH, S, hl, hrun, g⟩ := q
    subst hH
    obtain ⟨ts, p, kk⟩ := h cdv A outer s W.H E hroom
    refine ⟨ts, p, ?_⟩
    have lv : vs.length = ds.length := by
      have := S.len
      rw [List.length_map] at this
      exact this
    have e0 : L2.start N vs = vs.map some ++ List.replicate (N.length - ds.length) none := by
      unfold L2.start
      rw [lv]
    rw [e0]
    have S0 : Sta K W (vs.map some ++ List.replicate (N.length - ds.length) none) (ds ++ List.replicate (N.length - ds.length) .un) μ F0 := by
      obtain ⟨F1, F2, a1, a2, a3⟩ := S.ex
      have a4 := RS_app a1 (RS_uns (K := K) (W := W) (N.length - ds.length))
      rw [List.append_nil] at a4
      exact ⟨⟨F1, F2, a4, a2, a3⟩, S.nd, S.own, S.ok⟩
    have h0 : ∀ (i : Nat) (v : V), vs[i]? = some v → (vs.map some ++ List.replicate (N.length - ds.length) none : L2.St)[i]? = some (some v) := fun i v hv => by
      have hi := (List.getElem?_eq_some_iff.mp hv).1
      rw [List.getElem?_append_left (by rw [List.length_map]; exact hi), List.getElem?_map, hv]
      rfl
    have hq := hr ds μ o hrun
    unfold runX at hq
    obtain ⟨o1, e1, hq⟩ := bind_some hq
    refine kk _ _ W _ μ F0 S0 o1 e1 ?_
    cases o1 with
    | nx ρ' μ' =>
      obtain ⟨ds', e2, z⟩ := map_some (show (fin ks ds ρ').map (fun ds' => EO.ok .non ds' μ') = some o from hq)
      subst z
      intro σ' W' F' S' mv kp
      obtain ⟨F2, S2, nd2, mv2⟩ := sta_fin (G := []) S S' S'.nd mv kp h0 hob e2
      exact g .non W' [] F2 ⟨rfl, rfl⟩ S2 nd2 (fun _ hb => nomatch hb) mv2
    | rt d ρ' μ' =>
      have hq2 : (if isUn d = true then none else (fin ks ds ρ').map fun ds' => EO.ok d ds' μ') = some o := hq
      by_cases hd : isUn d = true
      case pos => rw [if_pos hd] at hq2; cases hq2
      rw [if_neg hd] at hq2
      obtain ⟨ds', e2, z⟩ := map_some hq2
      subst z
      intro v σ' W' G F' rv S' nd own mv kp
      obtain ⟨F2, S2, nd2, mv2⟩ := sta_fin S S' nd mv kp h0 hob e2
      exact g v W' G F2 rv S2 nd2 own mv2
    | ex c fs ρ' μ' =>
      obtain ⟨ds', e2, z⟩ := map_some (show (fin ks ds ρ').map (fun ds' => EO.ex c fs ds' μ') = some o from hq)
      subst z
      intro dx σ' W' F' r S' mv kp
      obtain ⟨F2, S2, nd2, mv2⟩ := sta_fin (G := []) S S' S'.nd mv kp h0 hob e2
      exact g dx W' F2 r S2 mv2
    | _ => cases hq
theorem takes_cx {P : Program} {w : World} {K : PySem.W.Frag} {mg : Str → Option Value} {base : Heap} {N : List Str} {qual : Str} {scope : Scope} {fa : Addr} {cdv : Value} {A : Around} {outer : List Env} {s : Shared} {H : Hp} {E : XK} :
    Takes (cxOf (L2.CX P w) P w K mg base N qual scope fa cdv A outer s H E) (fun cls dx _ H' => E cls dx H') := takes_of rfl rfl rfl rfl
/-! ### calls -/
def OkX (P : Program) (w : World) (K : PySem.W.Frag) (mg : Str → Option Value) (base : Heap) (x : Str) (k n : Nat) (dd : List D) (run : RX) : Prop :=
  ∃ (f : Addr) (fd : FuncData) (ps : List Str) (dvs : List V) (us : List Value), FnOk P w K mg base (L2.CX P w) k f fd ps (spX K n run) ∧ Binds K fd ps us ∧ Vals dvs us ∧ (∀ W : Wd, RL K W dd dvs []) ∧ mg x = some (.ref f) ∧ PySem.W.keepIn K (.ref f) = true
/-- a method m of the class c -/
def OkM (P : Program) (w : World) (K : PySem.W.Frag) (mg : Str → Option Value) (base : Heap) (c m : Str) (k n : Nat) (dd : List D) (run : RX) : Prop :=
  ∃ (f : Addr) (fd : FuncData) (ps : List Str) (dvs : List V) (us : List Value), FnOk P w K mg base (L2.CX P w) k f fd ps (spX K n run) ∧ Binds K fd ps us ∧ Vals dvs us ∧ (∀ W : Wd, RL K W dd dvs []) ∧ Cls K (He.ga K c) ∧ Meth K (He.ga K c) m f
/-- the maker of the class c -/
def OkK (P : Program) (w : World) (K : PySem.W.Frag) (mg : Str → Option Value) (base : Heap) (c : Str) (k n : Nat) (dd : List D) (run : RX) : Prop :=
  ∃ (f : Addr) (fd : FuncData) (ps : List Str) (dvs : List V) (us : List Value), FnOk P w K mg base (L2.CX P w) k f fd ps (spX K n run) ∧ Binds K fd ps us ∧ Vals dvs us ∧ (∀ W : Wd, RL K W dd dvs []) ∧ Mk K (He.ga K c) f ∧ mg c = some (.ref (He.ga K c))
def xRun (n : Nat) (dd : List D) (run : RX) (k : FXA) : FX := fun ρ μ => (k ρ μ).bind fun o => match o with
  | .ok as ρ1 μ1 => (mo as ρ1).bind fun z => if (z.1 ++ dd).length = n then (run (z.1 ++ dd) μ1).bind (xPut fun ys => mi as z.2 (ys.take z.1.length)) else none
  | .ex c fs ρ1 μ1 => some (.ex c fs ρ1 μ1)
section
variable {X : Cx} {Wx : WX} {e a b c o : Expr} {es : List Expr} {f g : FX} {p apos pos : Pos} {kf : FXA} {x m : Str} {k n : Nat} {dd : List D} {run : RX}
theorem px_call (O : OkX X.prog X.w X.K X.mg X.base x k n dd run) (hr : Room k X.A) (tk : Takes X Wx) (ha : PAX X Wx (e :: es) kf) (hg : Gl X x := by rfl) (hdb : (x == ("__debug__" : Str)) = false := by decide)
    (he : starEach (e :: es) X.env = (false, eval e X.env) :: starEach es X.env := by rfl) (hpl : (backTo pos (starEach es X.env)).any (·.1) = false := by rfl) : PX X Wx (.Call (.Name x p) (e :: es) [] pos) (xRun n dd run kf) := by
  obtain ⟨f, fd, ps, dvs, us, hF, hb, hv, hdd, hm, hk⟩ := O
  obtain ⟨t, pt, k1⟩ := ha
  refine ⟨_, pe_callSD hF hr hg hm hk hb hv (fun σ => passAt tk σ) pt hdb he hpl, fun σ W ρ μ F S o ho Q hQ => ?_⟩
  obtain ⟨o1, e1, ho⟩ := bind_some ho
  refine k1 σ W ρ μ F S o1 e1 _ ?_
  cases o1 with
  | ok as ρ1 μ1 =>
    intro vs W1 F1 r S1 mv
    obtain ⟨z, e2, ho⟩ := bind_some (show (mo as ρ1).bind (fun z => if (z.1 ++ dd).length = n then (run (z.1 ++ dd) μ1).bind (xPut fun ys => mi as z.2 (ys.take z.1.length)) else none) = some o from ho)
    obtain ⟨ds, ρr⟩ := z
    by_cases hl : (ds ++ dd).length = n
    case neg => rw [if_neg hl] at ho; cases ho
    rw [if_pos hl] at ho
    obtain ⟨o2, e3, ho⟩ := bind_some ho
    have fo := (foc_args S1 r e2).trans fun Fc Sc => foc_vals Sc (hdd W1)
    rw [← List.map_append] at fo
    exact spX_of fo hl e3 ho (hQ.after mv)
  | ex c fs ρ1 μ1 =>
    cases ho
    exact hQ
theorem px_call0 (O : OkX X.prog X.w X.K X.mg X.base x k n dd run) (hr : Room k X.A) (tk : Takes X Wx) (hg : Gl X x := by rfl) (hdb : (x == ("__debug__" : Str)) = false := by decide) : PX X Wx (.Call (.Name x p) [] [] pos) (xRun n dd run xaNil) := by
  obtain ⟨f, fd, ps, dvs, us, hF, hb, hv, hdd, hm, hk⟩ := O
  refine ⟨fun σ H Q => spX X.K n run ([] ++ dvs) H Q (WE Wx σ), ⟨fun pins s σ H Q I h => ?_⟩, fun σ W ρ μ F S o ho Q hQ => ?_⟩
  · refine wpAny_Call_Name_kw (ld_glob I hg hm ?_ hdb)
    exact PySem.W.callWith_K0 I.kIn hk (run_fnSD (us := []) hF hr hb hv (passAt tk σ) I .nil h)
  · obtain ⟨o1, e1, ho⟩ := bind_some ho
    cases e1
    obtain ⟨z, e2, ho⟩ := bind_some (show (mo [] ρ).bind (fun z => if (z.1 ++ dd).length = n then (run (z.1 ++ dd) μ).bind (xPut fun ys => mi [] z.2 (ys.take z.1.length)) else none) = some o from ho)
    cases e2
    by_cases hl : ([] ++ dd).length = n
    case neg => rw [if_neg hl] at ho; cases ho
    rw [if_pos hl] at ho
    obtain ⟨o2, e3, ho⟩ := bind_some ho
    have fo := (foc_args (as := []) (vs := []) S rfl rfl).trans fun Fc Sc => foc_vals Sc (hdd W)
    rw [← List.map_append] at fo
    exact spX_of fo hl e3 ho hQ
/-! ### methods -/
def tMX (X : Cx) (Wx : WX) (m : Str) (k : Nat) (ta : TE) (t : TA) : TE := fun σ H Q => ta σ H fun x H1 => ∃ (a C dx : Addr) (fs : List (Str × V)) (g : Addr) (fd : FuncData) (ps : List Str) (sp : Sp) (dvs : List V) (us : List Value), x = .ref a ∧ H1 a = some (.ins C dx fs) ∧ Cls X.K C ∧ Meth X.K C m g ∧ fs.lookup m = none ∧
  FnOk X.prog X.w X.K X.mg X.base (L2.CX X.prog X.w) k g fd ps sp ∧ Binds X.K fd ps us ∧ Vals dvs us ∧ t σ H1 fun vs H2 => sp (x :: (vs ++ dvs)) H2 Q (WE Wx σ)
theorem pe_mx {pl : Sem Bool} {ta : TE} {t : TA} (he : PE X o ta) (hr : Room k X.A) (tk : Takes X Wx) (ha : PA X (e :: es) t)
    (hst : starEach (e :: es) X.env = (false, eval e X.env) :: starEach es X.env := by rfl) (hpl : (backTo pos (starEach es X.env)).any (·.1) = false := by rfl)
    (ht : eval (.Call (.Attribute o m apos) (e :: es) [] pos) X.env = (do
      let ov ← eval o X.env
      standAt apos.atName
      let (f, first) ← holding [ov] (getMethod ov m pl)
      callWith pos f first (backTo pos (starEach (e :: es) X.env)) (backToKw pos (keywordEach [] X.env))) := by rfl) :
    PE X (.Call (.Attribute o m apos) (e :: es) [] pos) (tMX X Wx m k ta t) := by
  refine ⟨fun pins s σ H Q I h => ?_⟩
  refine PySem.W.methodCall_KW (pl := pl) (thn (he.run pins s σ H _ I h) fun u s1 ⟨x, H1, I1, rx, a, C, dx, fs, g, fd, ps, sp, dvs, us0, ex, ea, c, hm, l, F, hb, hd, q⟩ => ?_) ht
  subst ex
  obtain rfl : u = Value.ref a := rx
  refine getmeth_ok I1 ea c hm l ?_
  refine PySem.W.callWith_K (first := [.ref a]) (h₀ := X.base) I.ok.mod.kin hm.kp (thn (ha.run pos pins s1 σ H1 _ I1 q) fun us s2 ⟨vs, H2, I2, r, q2⟩ => ⟨I2.kIn, ?_⟩) hst hpl
  exact run_fnSD (us := .ref a :: us) (vs := .ref a :: vs) F hr hb hd (passAt tk σ) I2 (.cons rfl r) q2
theorem pe_mx0 {pl : Sem Bool} {ta : TE} (he : PE X o ta) (hr : Room k X.A) (tk : Takes X Wx)
    (ht : eval (.Call (.Attribute o m apos) [] [] pos) X.env = (do
      let ov ← eval o X.env
      standAt apos.atName
      let (f, first) ← holding [ov] (getMethod ov m pl)
      callWith pos f first (backTo pos (starEach [] X.env)) (backToKw pos (keywordEach [] X.env))) := by rfl) :
    PE X (.Call (.Attribute o m apos) [] [] pos) (tMX X Wx m k ta tNil) := by
  refine ⟨fun pins s σ H Q I h => ?_⟩
  refine PySem.W.methodCall_KW (pl := pl) (thn (he.run pins s σ H _ I h) fun u s1 ⟨x, H1, I1, rx, a, C, dx, fs, g, fd, ps, sp, dvs, us0, ex, ea, c, hm, l, F, hb, hd, q⟩ => ?_) ht
  subst ex
  obtain rfl : u = Value.ref a := rx
  refine getmeth_ok I1 ea c hm l ?_
  exact PySem.W.callWith_K0 (first := [.ref a]) I1.kIn hm.kp (run_fnSD (us := [.ref a]) (vs := [.ref a]) F hr hb hd (passAt tk σ) I1 (.cons rfl .nil) q)
/-- the methods' table -/
abbrev MT := Str → Option RX
def OkMT (X : Cx) (m : Str) (k n : Nat) (dd : List D) (runs : MT) : Prop := ∀ c run, runs c = some run → OkM X.prog X.w X.K X.mg X.base c m k n dd run
/-- o.m(..), o a slot: the arguments may change things -/
def xMethS (i : Nat) (m : Str) (n : Nat) (dd : List D) (runs : MT) (k : FXA) : FX := fun ρ μ => (ρ[i]?).bind fun t => match t with
  | .obj c ns _ => if fidx m ns = none then (runs c).bind fun run => (k ρ μ).bind fun o => match o with
    | .ok as ρ1 μ1 => (mo (.slot i :: as) ρ1).bind fun z => if (z.1 ++ dd).length = n then (run (z.1 ++ dd) μ1).bind (xPut fun ys => mi (.slot i :: as) z.2 (ys.take z.1.length)) else none
    | .ex c fs ρ1 μ1 => some (.ex c fs ρ1 μ1)
    else none
  | _ => none
theorem methS_run {i : Nat} {t : TA} {runs : MT} (OM : OkMT X m k n dd runs) (k1 : PAr X Wx t kf) {σ : L2.St} {W : Wd} {ρ μ : List D} {F : List Addr} (S : Sta X.K W σ ρ μ F) {o : EO} (ho : xMethS i m n dd runs kf ρ μ = some o) {Q : VK} (hQ : GoesE X.K Wx Q σ W F o) : tMX X Wx m k (tVar i) t σ W.H Q := by
  obtain ⟨t0, e0, ho⟩ := bind_some ho
  cases t0 with
  | obj c ns ds0 =>
    have ho2 : (if fidx m ns = none then (runs c).bind fun run => (kf ρ μ).bind fun o => match o with
      | .ok as ρ1 μ1 => (mo (.slot i :: as) ρ1).bind fun z => if (z.1 ++ dd).length = n then (run (z.1 ++ dd) μ1).bind (xPut fun ys => mi (.slot i :: as) z.2 (ys.take z.1.length)) else none
      | .ex c fs ρ1 μ1 => some (.ex c fs ρ1 μ1)
      else none) = some o := ho
    by_cases hf : fidx m ns = none
    case neg => rw [if_neg hf] at ho2; cases ho2
    rw [if_pos hf] at ho2
    obtain ⟨run, e1, ho2⟩ := bind_some ho2
    obtain ⟨o1, e2, ho2⟩ := bind_some ho2
    obtain ⟨g, fd, ps, dvs, us, hF, hb, hv, hdd, hc, hm⟩ := OM c run e1
    obtain ⟨F1, F2, q1, _, _⟩ := S.ex
    obtain ⟨v, G, hv2, r0⟩ := RS_get q1 e0 (fun z => nomatch z)
    obtain ⟨a, dx, vs0, F', rfl, hH, hn, hR, rfl⟩ := r0
    refine ⟨.ref a, hv2, a, _, dx, _, g, fd, ps, _, dvs, us, rfl, hH, hc, hm, fidx_none hf, hF, hb, hv, ?_⟩
    refine k1 σ W ρ μ F S o1 e2 _ ?_
    cases o1 with
    | ok as ρ1 μ1 =>
      intro vs W1 F1 r S1 mv
      obtain ⟨z, e3, ho3⟩ := bind_some (show (mo (.slot i :: as) ρ1).bind (fun z => if (z.1 ++ dd).length = n then (run (z.1 ++ dd) μ1).bind (xPut fun ys => mi (.slot i :: as) z.2 (ys.take z.1.length)) else none) = some o from ho2)
      obtain ⟨ds, ρr⟩ := z
      by_cases hl : (ds ++ dd).length = n
      case neg => rw [if_neg hl] at ho3; cases ho3
      rw [if_pos hl] at ho3
      obtain ⟨o2, e4, ho3⟩ := bind_some ho3
      have fo := (foc_args (as := .slot i :: as) (vs := .ref a :: vs) S1 ⟨.ref a, vs, rfl, hv2, r⟩ e3).trans fun Fc Sc => foc_vals Sc (hdd W1)
      rw [← List.map_append] at fo
      exact spX_of fo hl e4 ho3 (hQ.after mv)
    | ex c fs ρ1 μ1 =>
      cases ho2
      exact hQ
  | _ => cases ho
theorem px_methS {pl : Sem Bool} {i : Nat} {y : Str} {runs : MT} (OM : OkMT X m k n dd runs) (hp : PE X (.Name y p) (tVar i)) (hr : Room k X.A) (tk : Takes X Wx) (ha : PAX X Wx (e :: es) kf)
    (hst : starEach (e :: es) X.env = (false, eval e X.env) :: starEach es X.env := by rfl) (hpl : (backTo pos (starEach es X.env)).any (·.1) = false := by rfl)
    (ht : eval (.Call (.Attribute (.Name y p) m apos) (e :: es) [] pos) X.env = (do
      let ov ← eval (.Name y p) X.env
      standAt apos.atName
      let (f, first) ← holding [ov] (getMethod ov m pl)
      callWith pos f first (backTo pos (starEach (e :: es) X.env)) (backToKw pos (keywordEach [] X.env))) := by rfl) :
    PX X Wx (.Call (.Attribute (.Name y p) m apos) (e :: es) [] pos) (xMethS i m n dd runs kf) := by
  obtain ⟨t, pt, k1⟩ := ha
  exact ⟨_, pe_mx hp hr tk pt hst hpl ht, fun σ W ρ μ F S o ho Q hQ => methS_run OM k1 S ho hQ⟩
theorem px_methS0 {pl : Sem Bool} {i : Nat} {y : Str} {runs : MT} (OM : OkMT X m k n dd runs) (hp : PE X (.Name y p) (tVar i)) (hr : Room k X.A) (tk : Takes X Wx)
    (ht : eval (.Call (.Attribute (.Name y p) m apos) [] [] pos) X.env = (do
      let ov ← eval (.Name y p) X.env
      standAt apos.atName
      let (f, first) ← holding [ov] (getMethod ov m pl)
      callWith pos f first (backTo pos (starEach [] X.env)) (backToKw pos (keywordEach [] X.env))) := by rfl) :
    PX X Wx (.Call (.Attribute (.Name y p) m apos) [] [] pos) (xMethS i m n dd runs xaNil) := by
  refine ⟨_, pe_mx0 hp hr tk ht, fun σ W ρ μ F S o ho Q hQ => methS_run OM (t := tNil) (kf := xaNil) ?_ S ho hQ⟩
  intro σ W ρ μ F S o ho Q hQ
  cases ho
  exact hQ [] W F rfl S (Ext.refl S.ok).mvr
end
end Fw
/-! # methods by paths and of new instances; makers; what is shared -/
namespace Fw
open PySem PySem.Spec PyProof.Rows L2
open Evl (Ex)
theorem rdp_det {K : PySem.W.Frag} {H : Hp} : ∀ {p : List Str} {u v v' : V}, rdp K H u p v → rdp K H u p v' → v = v'
  | [], _, _, _, h, h' => h.symm.trans h'
  | y :: p, u, v, v', ⟨a, C, dx, fs, w, h1, h2, h3, h4, h5, h6⟩, ⟨a', C', dx', fs', w', g1, g2, g3, g4, g5, g6⟩ => by
    subst h1
    cases g1
    rw [h2] at g2
    cases g2
    rw [h5] at g5
    cases g5
    exact rdp_det h6 g6
theorem rdp_ex {K : PySem.W.Frag} {H H' : Hp} (x : Ex H H') : ∀ {p : List Str} {u v : V}, rdp K H u p v → rdp K H' u p v
  | [], _, _, h => h
  | y :: p, u, v, ⟨a, C, dx, fs, w, h1, h2, h3, h4, h5, h6⟩ => ⟨a, C, dx, fs, w, h1, x _ _ h2, h3, h4, h5, rdp_ex x h6⟩
/-- e is the path p from the slot i -/
def PPath (X : Cx) (e : Expr) (i : Nat) (p : List Str) : Prop := ∃ te : TE, PE X e te ∧ ∀ (σ : L2.St) (H : Hp) (Q : VK) (u v : V), σ[i]? = some (some u) → rdp X.K H u p v → Q v H → te σ H Q
def flL (ds : List D) : Bool := ds.all fl
theorem RL_fl {K : PySem.W.Frag} {W : Wd} : ∀ {ds : List D} {vs : List V} {F : List Addr}, flL ds = true → RL K W ds vs F → F = []
  | [], _, _, _, h => h.2
  | d :: ds, _, _, q, h => by
    obtain ⟨v, vs', F1, F2, h1, h2, h3, h4⟩ := h
    have q1 : (fl d && flL ds) = true := q
    obtain ⟨qa, qb⟩ := Bool.and_eq_true_iff.mp q1
    rw [h4, R_fl qa h2, RL_fl qb h3]
    rfl
section
variable {X : Cx} {Wx : WX} {e a b c o : Expr} {es : List Expr} {f g : FX} {p apos pos : Pos} {kq : FA} {kf : FXA} {x m : Str} {k n i : Nat} {dd : List D} {run : RX} {q : List Str} {ok : OkT} {runs : MT}
theorem pp_var {y : Str} (hp : PE X (.Name y pos) (tVar i)) : PPath X (.Name y pos) i [] := ⟨_, hp, fun σ H Q u v hu h hQ => ⟨u, hu, by
  have e : u = v := h
  rw [e]
  exact hQ⟩⟩
theorem pp_fld (h : PPath X e i q) (hb : attributeBase e x X.env (eval e X.env) = eval e X.env := by rfl) : PPath X (.Attribute e x pos) i (q ++ [x]) := by
  obtain ⟨te, p, k⟩ := h
  refine ⟨_, pe_fld p hb, fun σ H Q u v hu hr hQ => ?_⟩
  obtain ⟨w, h1, a, C, dx, fs, w', h2, h3, h4, h5, h6, h7⟩ := rdp_app hr
  refine k σ H _ u w hu h1 ⟨a, C, dx, fs, w', h2, h3, h4, h5, h6, ?_⟩
  have e : w' = v := h7
  rw [e]
  exact hQ
/-- by a path, the arguments quiet -/
def xMethQ (ok : OkT) (i : Nat) (q : List Str) (m : Str) (n : Nat) (dd : List D) (runs : MT) (k : FA) : FX := fun ρ μ => (ρ[i]?).bind fun r => (pget ok q r).bind fun t => match t with
  | .obj c ns _ => if fidx m ns = none then (runs c).bind fun run => (k ρ μ).bind fun as => if flL as = true ∧ (t :: (as ++ dd)).length = n then (run (t :: (as ++ dd)) μ).bind (xPut fun ys => (put1 fun t' => (pput q r t').map fun r' => ρ.set i r') (ys.take 1)) else none else none
  | .ref j => match μ[j]? with
    | some (.obj c ns _) => if fidx m ns = none then (runs c).bind fun run => (k ρ μ).bind fun as => if flL as = true ∧ (t :: (as ++ dd)).length = n then (run (t :: (as ++ dd)) μ).bind (xPut fun ys => some ρ) else none else none
    | _ => none
  | _ => none
theorem foc_nil {K : PySem.W.Frag} {W : Wd} {σ : L2.St} {ρ μ : List D} {F : List Addr} (S : Sta K W σ ρ μ F) : Foc K W σ ρ μ F [] [] fun ys => if ys = [] then some ρ else none := by
  obtain ⟨Fc, S2, sub, k⟩ := sta_frame (τ := []) (xs := []) S rfl
  refine ⟨Fc, S2, sub, fun W' xs' μ' Fc' G E ρ' hp S' nd own hE mv => ?_⟩
  by_cases e : xs' = []
  · subst e
    cases hp
    exact k W' [] μ' Fc' G E S' nd own hE mv
  · have hp2 : (if xs' = [] then some ρ else none) = some ρ' := hp
    rw [if_neg e] at hp2
    cases hp2
theorem methQ_run {te : TE} {t : TA} (T : CE X.K ok) (OM : OkMT X m k n dd runs) (h0 : ∀ (σ : L2.St) (H : Hp) (Q : VK) (u v : V), σ[i]? = some (some u) → rdp X.K H u q v → Q v H → te σ H Q)
    (k1 : ∀ (σ : L2.St) (W : Wd) (ρ μ : List D) (F : List Addr), Sta X.K W σ ρ μ F → ∀ ds, kq ρ μ = some ds → ∀ Q : List V → Hp → Prop, (∀ vs W' G, Ext W W' → RL X.K W' ds vs G → Q vs W'.H) → t σ W.H Q)
    {σ : L2.St} {W : Wd} {ρ μ : List D} {F : List Addr} (S : Sta X.K W σ ρ μ F) {o : EO} (ho : xMethQ ok i q m n dd runs kq ρ μ = some o) {Q : VK} (hQ : GoesE X.K Wx Q σ W F o) : tMX X Wx m k te t σ W.H Q := by
  obtain ⟨r, e0, ho⟩ := bind_some ho
  obtain ⟨t0, e1, ho⟩ := bind_some ho
  obtain ⟨u, v, hu, hr, Fc, Sc, _⟩ := foc_sp T S e0 e1
  refine h0 σ W.H _ u v hu hr ?_
  obtain ⟨G0, F0, r1, _, _⟩ := sta_tail Sc
  rw [R1_iff] at r1
  rcases r1 with ⟨z, _⟩ | ⟨v1, ev, r1⟩
  · have := (pget_ne e1).2
    rw [z] at this
    cases this
  injection ev with ev
  subst ev
  cases t0 with
  | obj c ns ds0 =>
    have ho2 : (if fidx m ns = none then (runs c).bind fun run => (kq ρ μ).bind fun as => if flL as = true ∧ (D.obj c ns ds0 :: (as ++ dd)).length = n then (run (D.obj c ns ds0 :: (as ++ dd)) μ).bind (xPut fun ys => (put1 fun t' => (pput q r t').map fun r' => ρ.set i r') (ys.take 1)) else none else none) = some o := ho
    by_cases hf : fidx m ns = none
    case neg => rw [if_neg hf] at ho2; cases ho2
    rw [if_pos hf] at ho2
    obtain ⟨run, e2, ho2⟩ := bind_some ho2
    obtain ⟨as, e3, ho2⟩ := bind_some ho2
    by_cases hl : flL as = true ∧ (D.obj c ns ds0 :: (as ++ dd)).length = n
    case neg => rw [if_neg hl] at ho2; cases ho2
    rw [if_pos hl] at ho2
    obtain ⟨o2, e4, ho2⟩ := bind_some ho2
    obtain ⟨gf, fd, ps, dvs, us, hF, hb, hv, hdd, hc, hm⟩ := OM c run e2
    obtain ⟨a, dx, vs0, F', rfl, hH, hn, hR, rfl⟩ := r1
    refine ⟨a, _, dx, _, gf, fd, ps, _, dvs, us, rfl, hH, hc, hm, fidx_none hf, hF, hb, hv, ?_⟩
    refine k1 σ W ρ μ F S as e3 _ fun vs W1 G x1 ra => ?_
    have z := RL_fl hl.1 ra
    subst z
    obtain ⟨u', v', hu', hr', fo⟩ := foc_sp T (S.ext x1) e0 e1
    rw [hu] at hu'
    cases hu'
    have ev : v' = .ref a := rdp_det hr' (rdp_ex x1.ex hr)
    subst ev
    have fo2 := fo.trans fun Fc Sc => foc_vals Sc (RL_app ra (hdd W1))
    exact spX_of (vs := .ref a :: (vs ++ dvs)) fo2 hl.2 e4 ho2 (hQ.after x1.mvr)
  | ref j =>
    have ho2 : (match μ[j]? with
      | some (.obj c ns _) => if fidx m ns = none then (runs c).bind fun run => (kq ρ μ).bind fun as => if flL as = true ∧ (D.ref j :: (as ++ dd)).length = n then (run (D.ref j :: (as ++ dd)) μ).bind (xPut fun ys => some ρ) else none else none
      | _ => none) = some o := ho
    cases e9 : μ[j]? with
    | none => rw [e9] at ho2; cases ho2
    | some t2 =>
      rw [e9] at ho2
      cases t2 with
      | obj c ns ds0 =>
        have ho3 : (if fidx m ns = none then (runs c).bind fun run => (kq ρ μ).bind fun as => if flL as = true ∧ (D.ref j :: (as ++ dd)).length = n then (run (D.ref j :: (as ++ dd)) μ).bind (xPut fun ys => some ρ) else none else none) = some o := ho2
        by_cases hf : fidx m ns = none
        case neg => rw [if_neg hf] at ho3; cases ho3
        rw [if_pos hf] at ho3
        obtain ⟨run, e2, ho3⟩ := bind_some ho3
        obtain ⟨as, e3, ho3⟩ := bind_some ho3
        by_cases hl : flL as = true ∧ (D.ref j :: (as ++ dd)).length = n
        case neg => rw [if_neg hl] at ho3; cases ho3
        rw [if_pos hl] at ho3
        obtain ⟨o2, e4, ho3⟩ := bind_some ho3
        obtain ⟨gf, fd, ps, dvs, us, hF, hb, hv, hdd, hc, hm⟩ := OM c run e2
        have rj := r1
        obtain ⟨a, rfl, h3, hG0⟩ := r1
        obtain ⟨F1, F2, _, h4, _⟩ := S.ex
        obtain ⟨a', G', h5, h6, _⟩ := RL_map_get h4 e9
        rw [h3] at h5
        cases h5
        obtain ⟨a2, dx, vs0, F', ea, hH, hn, hR, _⟩ := h6
        cases ea
        refine ⟨_, _, dx, _, gf, fd, ps, _, dvs, us, rfl, hH, hc, hm, fidx_none hf, hF, hb, hv, ?_⟩
        refine k1 σ W ρ μ F S as e3 _ fun vs W1 G x1 ra => ?_
        have z := RL_fl hl.1 ra
        subst z
        subst hG0
        have fo2 := (foc_nil (S.ext x1)).trans fun Fc Sc => foc_vals (ds := D.ref j :: (as ++ dd)) (vs := .ref a :: (vs ++ dvs)) Sc ⟨.ref a, vs ++ dvs, [], [], rfl, R_ext x1 _ rj, RL_app ra (hdd W1), rfl⟩
        exact spX_of (vs := .ref a :: (vs ++ dvs)) (fo2.put_imp (put' := fun ys => some ρ) fun ys zs hz => by
          cases hz
          show (if ys.take ([] : List D).length = [] then some ρ else none) = some ρ
          rw [List.length_nil, List.take_zero, if_pos rfl]) hl.2 e4 ho3 (hQ.after x1.mvr)
      | _ => cases ho2
  | _ => cases ho
theorem px_methQ {pl : Sem Bool} (T : CE X.K ok) (OM : OkMT X m k n dd runs) (hp : PPath X o i q) (hr : Room k X.A) (tk : Takes X Wx) (ha : PAQ X (e :: es) kq)
    (hst : starEach (e :: es) X.env = (false, eval e X.env) :: starEach es X.env := by rfl) (hpl : (backTo pos (starEach es X.env)).any (·.1) = false := by rfl)
    (ht : eval (.Call (.Attribute o m apos) (e :: es) [] pos) X.env = (do
      let ov ← eval o X.env
      standAt apos.atName
      let (f, first) ← holding [ov] (getMethod ov m pl)
      callWith pos f first (backTo pos (starEach (e :: es) X.env)) (backToKw pos (keywordEach [] X.env))) := by rfl) :
    PX X Wx (.Call (.Attribute o m apos) (e :: es) [] pos) (xMethQ ok i q m n dd runs kq) := by
  obtain ⟨t, pt, k1⟩ := ha
  obtain ⟨te, pe, k0⟩ := hp
  exact ⟨_, pe_mx pe hr tk pt hst hpl ht, fun σ W ρ μ F S o ho Q hQ => methQ_run T OM k0 k1 S ho hQ⟩
theorem px_methQ0 {pl : Sem Bool} (T : CE X.K ok) (OM : OkMT X m k n dd runs) (hp : PPath X o i q) (hr : Room k X.A) (tk : Takes X Wx)
    (ht : eval (.Call (.Attribute o m apos) [] [] pos) X.env = (do
      let ov ← eval o X.env
      standAt apos.atName
      let (f, first) ← holding [ov] (getMethod ov m pl)
      callWith pos f first (backTo pos (starEach [] X.env)) (backToKw pos (keywordEach [] X.env))) := by rfl) :
    PX X Wx (.Call (.Attribute o m apos) [] [] pos) (xMethQ ok i q m n dd runs aNil) := by
  obtain ⟨te, pe, k0⟩ := hp
  refine ⟨_, pe_mx0 pe hr tk ht, fun σ W ρ μ F S o ho Q hQ => methQ_run (kq := aNil) T OM k0 (t := tNil) (fun σ W ρ μ F S ds hd Q q => ?_) S ho hQ⟩
  cases hd
  exact q [] W [] (Ext.refl S.ok) ⟨rfl, rfl⟩
/-! ### what stands at the front is dropped behind -/
def consE (t : D) : EO → EO
  | .ok d ρ μ => .ok d (t :: ρ) μ
  | .ex c fs ρ μ => .ex c fs (t :: ρ) μ
theorem goes_drop {K : PySem.W.Frag} {Q : VK} {σ : L2.St} {W W0 : Wd} {F F0 : List Addr} {o : EO} {oo : Option V} {t : D} (hQ : GoesE K Wx Q σ W0 F0 o) (mv0 : Mv W0 W F0 F) : GoesE K (fun cls dx _ H => Wx cls dx σ H) Q (oo :: σ) W F (consE t o) := by
  cases o with
  | ok d ρ' μ' =>
    intro v W' G F' r S nd own mv
    obtain ⟨G1, F2, _, S2, e⟩ := sta_tail S
    subst e
    have sub : (G ++ F2).Sublist (G ++ (G1 ++ F2)) := List.Sublist.append (List.Sublist.refl G) (List.sublist_append_right G1 F2)
    exact hQ v W' G F2 r S2 (nd.sublist sub) own ((mv0.trans mv).sub (fun _ h => h) fun a ha => sub.subset ha)
  | ex c fs ρ' μ' =>
    intro dx W' F' r S mv
    obtain ⟨G1, F2, _, S2, e⟩ := sta_tail S
    subst e
    exact hQ dx W' F2 r S2 ((mv0.trans mv).sub (fun _ h => h) fun a ha => List.mem_append_right _ ha)
/-- a method of a new instance that nobody keeps -/
def xMethT (m : Str) (n : Nat) (dd : List D) (runs : MT) (g : FX) (k : FA) : FX := fun ρ μ => (g ρ μ).bind fun o => match o with
  | .ok t ρ1 μ1 => (match t with
    | .obj c ns _ => if fidx m ns = none then (runs c).bind fun run => (k ρ1 μ1).bind fun as => if flL as = true ∧ (t :: (as ++ dd)).length = n then (run (t :: (as ++ dd)) μ1).bind (xPut fun ys => (ys.head?).map fun _ => ρ1) else none else none
    | _ => none)
  | .ex c fs ρ1 μ1 => some (.ex c fs ρ1 μ1)
theorem front_put {run2 : EO} {ρ1 : List D} {o : EO} (h : xPut (fun ys => (ys.head?).map fun _ => ρ1) run2 = some o) : ∃ t', xPut (fun ys => (put1 fun d' => some (d' :: ρ1)) (ys.take 1)) run2 = some (consE t' o) := by
  cases run2 with
  | ok d ys μ' =>
    cases ys with
    | nil => cases h
    | cons y ys =>
      cases h
      exact ⟨y, rfl⟩
  | ex c fs ys μ' =>
    cases ys with
    | nil => cases h
    | cons y ys =>
      cases h
      exact ⟨y, rfl⟩
theorem methT_run {te : TE} {t : TA} (OM : OkMT X m k n dd runs) (h0 : PXr X Wx te g)
    (k1 : ∀ (σ : L2.St) (W : Wd) (ρ μ : List D) (F : List Addr), Sta X.K W σ ρ μ F → ∀ ds, kq ρ μ = some ds → ∀ Q : List V → Hp → Prop, (∀ vs W' G, Ext W W' → RL X.K W' ds vs G → Q vs W'.H) → t σ W.H Q) : PXr X Wx (tMX X Wx m k te t) (xMethT m n dd runs g kq) := by
  intro σ W ρ μ F S o ho Q hQ
  obtain ⟨o1, e1, ho⟩ := bind_some ho
  refine h0 σ W ρ μ F S o1 e1 _ ?_
  cases o1 with
  | ok t0 ρ1 μ1 =>
    intro v W1 G F1 r S1 nd own mv
    cases t0 with
    | obj c ns ds0 =>
      have ho2 : (if fidx m ns = none then (runs c).bind fun run => (kq ρ1 μ1).bind fun as => if flL as = true ∧ (D.obj c ns ds0 :: (as ++ dd)).length = n then (run (D.obj c ns ds0 :: (as ++ dd)) μ1).bind (xPut fun ys => (ys.head?).map fun _ => ρ1) else none else none) = some o := ho
      by_cases hf : fidx m ns = none
      case neg => rw [if_neg hf] at ho2; cases ho2
      rw [if_pos hf] at ho2
      obtain ⟨run, e2, ho2⟩ := bind_some ho2
      obtain ⟨as, e3, ho2⟩ := bind_some ho2
      by_cases hl : flL as = true ∧ (D.obj c ns ds0 :: (as ++ dd)).length = n
      case neg => rw [if_neg hl] at ho2; cases ho2
      rw [if_pos hl] at ho2
      obtain ⟨o2, e4, ho2⟩ := bind_some ho2
      obtain ⟨gf, fd, ps, dvs, us, hF, hb, hv, hdd, hc, hm⟩ := OM c run e2
      have rt := r
      obtain ⟨a, dx, vs0, F', rfl, hH, hn, hR, hG⟩ := r
      refine ⟨a, _, dx, _, gf, fd, ps, _, dvs, us, rfl, hH, hc, hm, fidx_none hf, hF, hb, hv, ?_⟩
      refine k1 σ W1 ρ1 μ1 F1 S1 as e3 _ fun vs W2 G2 x2 ra => ?_
      have z := RL_fl hl.1 ra
      subst z
      have Sf := sta_cons (o := some (.ref a)) (R1_of (R_ext x2 _ rt)) (S1.ext x2) nd fun b hb => (own b hb).ext x2
      have fo2 := (foc_front Sf).trans fun Fc Sc => foc_vals Sc (RL_app ra (hdd W2))
      obtain ⟨t', ht'⟩ := front_put ho2
      exact spX_of (Wx := fun cls dx _ H => Wx cls dx σ H) (vs := .ref a :: (vs ++ dvs)) fo2 hl.2 e4 ht' (goes_drop hQ (mv.trans x2.mvr))
    | _ => cases ho
  | ex c fs ρ1 μ1 =>
    cases ho
    exact hQ
theorem px_methT {pl : Sem Bool} (OM : OkMT X m k n dd runs) (hp : PX X Wx o g) (hr : Room k X.A) (tk : Takes X Wx) (ha : PAQ X (e :: es) kq)
    (hst : starEach (e :: es) X.env = (false, eval e X.env) :: starEach es X.env := by rfl) (hpl : (backTo pos (starEach es X.env)).any (·.1) = false := by rfl)
    (ht : eval (.Call (.Attribute o m apos) (e :: es) [] pos) X.env = (do
      let ov ← eval o X.env
      standAt apos.atName
      let (f, first) ← holding [ov] (getMethod ov m pl)
      callWith pos f first (backTo pos (starEach (e :: es) X.env)) (backToKw pos (keywordEach [] X.env))) := by rfl) :
    PX X Wx (.Call (.Attribute o m apos) (e :: es) [] pos) (xMethT m n dd runs g kq) := by
  obtain ⟨t, pt, k1⟩ := ha
  obtain ⟨te, pe, k0⟩ := hp
  exact ⟨_, pe_mx pe hr tk pt hst hpl ht, methT_run OM k0 k1⟩
theorem px_methT0 {pl : Sem Bool} (OM : OkMT X m k n dd runs) (hp : PX X Wx o g) (hr : Room k X.A) (tk : Takes X Wx)
    (ht : eval (.Call (.Attribute o m apos) [] [] pos) X.env = (do
      let ov ← eval o X.env
      standAt apos.atName
      let (f, first) ← holding [ov] (getMethod ov m pl)
      callWith pos f first (backTo pos (starEach [] X.env)) (backToKw pos (keywordEach [] X.env))) := by rfl) :
    PX X Wx (.Call (.Attribute o m apos) [] [] pos) (xMethT m n dd runs g aNil) := by
  obtain ⟨te, pe, k0⟩ := hp
  refine ⟨_, pe_mx0 pe hr tk ht, methT_run (kq := aNil) (t := tNil) OM k0 fun σ W ρ μ F S ds hd Q q => ?_⟩
  cases hd
  exact q [] W [] (Ext.refl S.ok) ⟨rfl, rfl⟩
/-! ### makers -/
def xMake (c : Str) (n : Nat) (dd : List D) (run : RX) (k : FXA) : FX := xA k fun ds ρ μ => if (D.obj c [] [] :: (ds ++ dd)).length = n then (run (D.obj c [] [] :: (ds ++ dd)) μ).bind fun o => match o with
  | .ok d (t :: _) μ' => (match d with
    | .non => if isUn t = true then none else some (.ok t ρ μ')
    | _ => none)
  | .ex cx fs (_ :: _) μ' => some (.ex cx fs ρ μ')
  | _ => none
  else none
theorem runM {pins : List (Addr × Obj)} {σ : L2.St} {H : Hp} {s : Shared} {Q : VK} {us : List Value} {vs dvs : List V} {ds : List Value} {C f : Addr} {fd : FuncData} {ps : List Str} {sp : Sp} (M : Mk X.K C f) (F : FnOk X.prog X.w X.K X.mg X.base (L2.CX X.prog X.w) k f fd ps sp) (hr : Room (k + 1) X.A) (hb : Binds X.K fd ps ds) (hd : Vals dvs ds)
    (tk : Takes X Wx) (I : Inv X pins σ H s) (r : Vals vs us)
    (h : ∀ x dx, H x = none → H dx = none → dx ≠ x → sp (.ref x :: (vs ++ dvs)) (upd (upd H dx (.own x)) x (.ins C dx [])) (fun v H2 => v = .non ∧ Q (.ref x) H2) (WE Wx σ)) :
    wpAny (model X.prog X.w) X.A (call (.ref C) us) (EP X pins σ Q) X.xe s := by
  have hq := h (s.heap.objs.size + 1) s.heap.objs.size (I.hok.fresh (Nat.le_succ _)) (I.hok.fresh (Nat.le_refl _)) (Nat.ne_of_lt (Nat.lt_succ_self _))
  have I2 := Inv.made (C := C) I
  have r2 : Vals (V.ref (s.heap.objs.size + 1) :: (vs ++ dvs)) (Value.ref (s.heap.objs.size + 1) :: (us ++ ds)) := .cons rfl (r.append hd)
  have hl : (Value.ref (s.heap.objs.size + 1) :: us ++ ds).length = ps.length := by
    have e := r2.length
    rw [F.len _ _ _ _ hq] at e
    exact e.symm
  refine wpAny_call (make_map (f := f) I.kIn M.makes M.init (beq_iff_eq.mp M.fn) (codeAny_mono (F.run _ X.stack _ _ ⟨Value.ref (s.heap.objs.size + 1) :: us, []⟩ (Value.ref (s.heap.objs.size + 1) :: (us ++ ds)) _ _ _ (hr.make C us [])
    (I2.env0.make C us []) (hb _ (Value.ref (s.heap.objs.size + 1) :: us) I2.kIn hl) r2 hq) fun r s' hq' => ?_))
  cases r with
  | error e => exact passAt tk σ pins _ _ e s' I2 hq'
  | ok fl =>
    cases fl with
    | ret u =>
      obtain ⟨v, H', I3, rv, ev, q3⟩ := I2.after hq'
      subst ev
      exact ⟨rv, ⟨V.ref (s.heap.objs.size + 1), H', I3, rfl, q3⟩⟩
    | next => exact False.elim hq'
    | brk => exact False.elim hq'
    | cont => exact False.elim hq'
def tMk (C : Addr) (sp : Sp) (dvs : List V) (Wx : WX) (t : TA) : TE := fun σ H Q => t σ H fun vs H1 => ∀ x dx, H1 x = none → H1 dx = none → dx ≠ x →
  sp (.ref x :: (vs ++ dvs)) (upd (upd H1 dx (.own x)) x (.ins C dx [])) (fun v H2 => v = .non ∧ Q (.ref x) H2) (WE Wx σ)
theorem make_run {c : Str} {t : TA} {dvs : List V} (hdd : ∀ W : Wd, RL X.K W dd dvs []) (k1 : PAr X Wx t kf) : PXr X Wx (tMk (He.ga X.K c) (spX X.K n run) dvs Wx t) (xMake c n dd run kf) := by
  intro σ W ρ μ F S o ho Q hQ
  refine runA_bind k1 S ho hQ fun ds vs W1 ρ1 μ1 F1 ra S1 mv ho1 x dx hx hdx ne => ?_
  by_cases hl : (D.obj c [] [] :: (ds ++ dd)).length = n
  case neg => rw [if_neg hl] at ho1; cases ho1
  rw [if_pos hl] at ho1
  obtain ⟨o2, e4, ho1⟩ := bind_some ho1
  have x1 : Ext W1 (W1.put dx (.own x)) := Ext.put S1.ok hdx
  have hx2 : (W1.put dx (.own x)).H x = none := by
    show upd W1.H dx _ x = none
    rw [upd_ne fun z => ne z.symm]
    exact hx
  have x2 : Ext W1 ((W1.put dx (.own x)).put x (.ins (He.ga X.K c) dx [])) := x1.trans (Ext.put x1.ok hx2)
  have rt : R X.K ((W1.put dx (.own x)).put x (.ins (He.ga X.K c) dx [])) (.obj c [] []) (.ref x) [x] := ⟨x, dx, [], [], rfl, upd_same, rfl, ⟨rfl, rfl⟩, rfl⟩
  have xF : x ∉ F1 := fun z => by
    obtain ⟨_, w⟩ := S1.own x z
    rcases w with ⟨xs, w⟩ | ⟨C, dx, fs, w⟩ <;> rw [hx] at w <;> cases w
  have nofr : ¬ W1.Fr x := fun z => S1.ok x z hx
  have Sf := sta_cons (o := some (.ref x)) (R1_of rt) (S1.ext x2) (List.nodup_cons.mpr ⟨xF, S1.nd⟩) fun b hb => by
    obtain rfl := List.mem_singleton.mp hb
    exact ⟨nofr, .inr ⟨_, dx, _, upd_same⟩⟩
  have mv2 : Mv W ((W1.put dx (.own x)).put x (.ins (He.ga X.K c) dx [])) F ([x] ++ F1) := mv.trans ⟨fun b o h _ => x2.ex b o h, x2.fr, fun b h => (x2.nf b h).elim .inl fun z => .inr (.inl z), fun b hb => (List.mem_cons.mp hb).elim (fun z => .inr (z ▸ hx)) .inl, ⟨[], (List.append_nil _).symm⟩⟩
  have fo2 := (foc_front Sf).trans fun Fc Sc => foc_vals Sc (RL_app (RL_ext x2 ds ra) (hdd _))
  cases o2 with
  | ok d ys μ' =>
    cases ys with
    | nil => cases ho1
    | cons t' ys =>
      cases d with
      | non =>
        have ho3 : (if isUn t' = true then none else some (EO.ok t' ρ1 μ')) = some o := ho1
        by_cases hu : isUn t' = true
        case pos => rw [if_pos hu] at ho3; cases ho3
        rw [if_neg hu] at ho3
        cases ho3
        refine spX_of (Wx := fun cls dx _ H => Wx cls dx σ H) (vs := .ref x :: (vs ++ dvs)) (o := .ok .non (t' :: ρ1) μ') fo2 hl e4 rfl ?_
        intro v W' G F' r S' nd own mv3
        obtain ⟨rfl, rfl⟩ := r
        obtain ⟨G1, F2, r1, S2, e⟩ := sta_tail S'
        subst e
        rw [R1_iff] at r1
        rcases r1 with ⟨z, _⟩ | ⟨v1, ev, r1⟩
        · rw [z] at hu
          exact absurd rfl hu
        injection ev with ev
        subst ev
        exact ⟨rfl, hQ (.ref x) W' G1 F2 r1 S2 nd (fun b hb => S'.own b (List.mem_append_left _ hb)) (mv2.trans mv3)⟩
      | _ => cases ho1
  | ex cx fs ys μ' =>
    cases ys with
    | nil => cases ho1
    | cons t' ys =>
      cases ho1
      exact spX_of (Wx := fun cls dx _ H => Wx cls dx σ H) (vs := .ref x :: (vs ++ dvs)) (o := .ex cx fs (t' :: ρ1) μ') fo2 hl e4 rfl (goes_drop (o := .ex cx fs ρ1 μ') (t := t') (Q := fun v H2 => v = .non ∧ Q (.ref x) H2) hQ mv2)
theorem px_make {c : Str} (O : OkK X.prog X.w X.K X.mg X.base c k n dd run) (hr : Room (k + 1) X.A) (tk : Takes X Wx) (ha : PAX X Wx (e :: es) kf) (hg : Gl X c := by rfl) (hdb : (c == ("__debug__" : Str)) = false := by decide)
    (he : starEach (e :: es) X.env = (false, eval e X.env) :: starEach es X.env := by rfl) (hpl : (backTo pos (starEach es X.env)).any (·.1) = false := by rfl) : PX X Wx (.Call (.Name c p) (e :: es) [] pos) (xMake c n dd run kf) := by
  obtain ⟨f, fd, ps, dvs, us, hF, hb, hv, hdd, M, hm⟩ := O
  obtain ⟨t, pt, k1⟩ := ha
  refine ⟨tMk (He.ga X.K c) (spX X.K n run) dvs Wx t, ⟨fun pins s σ H Q I h => ?_⟩, make_run hdd k1⟩
  refine wpAny_Call_Name_kw (ld_glob I hg hm ?_ hdb)
  refine PySem.W.callWith_K (h₀ := X.base) I.ok.mod.kin M.kp (thn (pt.run pos pins s σ H _ I h) fun us s1 ⟨vs, H1, I1, r, q⟩ => ⟨I1.kIn, ?_⟩) he hpl
  exact runM M hF hr hb hv tk I1 r q
theorem px_make0 {c : Str} (O : OkK X.prog X.w X.K X.mg X.base c k n dd run) (hr : Room (k + 1) X.A) (tk : Takes X Wx) (hg : Gl X c := by rfl) (hdb : (c == ("__debug__" : Str)) = false := by decide) : PX X Wx (.Call (.Name c p) [] [] pos) (xMake c n dd run xaNil) := by
  obtain ⟨f, fd, ps, dvs, us, hF, hb, hv, hdd, M, hm⟩ := O
  refine ⟨tMk (He.ga X.K c) (spX X.K n run) dvs Wx tNil, ⟨fun pins s σ H Q I h => ?_⟩, make_run hdd ?_⟩
  · refine wpAny_Call_Name_kw (ld_glob I hg hm ?_ hdb)
    exact PySem.W.callWith_K0 I.kIn M.kp (runM (us := []) M hF hr hb hv tk I .nil h)
  · intro σ W ρ μ F S o ho Q hQ
    cases ho
    exact hQ [] W F rfl S (Ext.refl S.ok).mvr
/-- a new instance that several will know -/
def xShare (g : FX) : FX := fun ρ μ => (g ρ μ).bind fun o => match o with
  | .ok d ρ1 μ1 => (match d with
    | .obj _ _ _ => some (.ok (.ref μ1.length) ρ1 (μ1 ++ [d]))
    | _ => none)
  | .ex c fs ρ1 μ1 => some (.ex c fs ρ1 μ1)
theorem px_share (h : PX X Wx e g) : PX X Wx e (xShare g) := by
  obtain ⟨te, p, k1⟩ := h
  refine ⟨te, p, fun σ W ρ μ F S o ho Q hQ => ?_⟩
  obtain ⟨o1, e1, ho⟩ := bind_some ho
  refine k1 σ W ρ μ F S o1 e1 _ ?_
  cases o1 with
  | ex c fs ρ1 μ1 =>
    cases ho
    exact hQ
  | ok d ρ1 μ1 =>
    cases d with
    | obj c ns ds =>
      cases ho
      intro v W' G F' r S' nd own mv
      have rt := r
      obtain ⟨a, dx, vs, F0, rfl, hH, hn, hR, hG⟩ := r
      have lt : Lt W' ⟨W'.H, W'.Fr, W'.m ++ [a]⟩ := ⟨fun _ _ z => z, fun _ _ z => z, fun _ _ _ _ z z' => ⟨z, z'⟩, fun k b z => by
        show (W'.m ++ [a])[k]? = some b
        rw [List.getElem?_append_left (List.getElem?_eq_some_iff.mp z).1]
        exact z⟩
      obtain ⟨⟨F1, F2, h1, h2, h3⟩, nd2, own2, ok2⟩ := S'
      subst h3
      have lm : μ1.length = W'.m.length := by
        have := RL_len h2
        rw [List.length_map] at this
        exact this.symm
      have pm : (F1 ++ (F2 ++ G)).Perm (G ++ (F1 ++ F2)) := by
        rw [← List.append_assoc]
        exact List.perm_append_comm
      have r2 : RL X.K ⟨W'.H, W'.Fr, W'.m ++ [a]⟩ (μ1 ++ [.obj c ns ds]) ((W'.m ++ [a]).map V.ref) (F2 ++ G) := by
        rw [List.map_append]
        exact RL_app (RL_same lt rfl μ1 h2) ⟨.ref a, [], G, [], rfl, R_same lt rfl _ rt, ⟨rfl, rfl⟩, (List.append_nil G).symm⟩
      refine hQ (.ref a) ⟨W'.H, W'.Fr, W'.m ++ [a]⟩ [] (F1 ++ (F2 ++ G)) ⟨a, rfl, ?_, rfl⟩ ⟨⟨F1, F2 ++ G, RS_same lt rfl h1, r2, rfl⟩, nodup_of_perm pm nd, fun b hb => ?_, ok2⟩ (nodup_of_perm pm nd) (fun _ hb => nomatch hb) ⟨mv.keep, mv.fr, mv.nf, fun b hb => mv.own b (pm.mem_iff.mp hb), ?_⟩
      · show (W'.m ++ [a])[μ1.length]? = some a
        rw [lm, List.getElem?_append_right (Nat.le_refl _), Nat.sub_self]
        rfl
      · rcases List.mem_append.mp (pm.mem_iff.mp hb) with z | z
        · exact own b z
        · exact own2 b z
      · obtain ⟨l, hl⟩ := mv.m
        exact ⟨l ++ [a], by show W'.m ++ [a] = _; rw [hl, List.append_assoc]⟩
    | _ => cases ho
end
end Fw
/-! # statements that change something -/
namespace Fw
open PySem PySem.Spec PyProof.Rows L2
open Evl (Ex)
/-- by a statement's own end -/
def xS (g : FX) (k : D → FS) : FS := fun ρ μ => (g ρ μ).bind fun o => match o with
  | .ok d ρ1 μ1 => k d ρ1 μ1
  | .ex c fs ρ1 μ1 => some (.ex c fs ρ1 μ1)
section
variable {X : Cx} {Wx : WX} {e a b c o : Expr} {es : List Expr} {f g : FX} {p apos pos pos' : Pos} {kq : FA} {kf : FXA} {x m : Str} {k n i : Nat} {q : List Str} {ok : OkT} {ob : List Nat} {ss ss' : List Stmt} {f1 f2 : FS}
theorem runS_bind {te : TE} {k : D → FS} (h1 : PXr X Wx te g) {E : Ends} {σ : L2.St} {W : Wd} {ρ μ : List D} {F : List Addr} (S : Sta X.K W σ ρ μ F) {o : SO} (ho : xS g k ρ μ = some o) (h : Goes X.K ob Wx E σ W F o) {Q : VK}
    (hk : ∀ d v W1 G ρ1 μ1 F1, R X.K W1 d v G → Sta X.K W1 σ ρ1 μ1 F1 → (G ++ F1).Nodup → (∀ a ∈ G, Own W1 a) → Mv W W1 F (G ++ F1) → k d ρ1 μ1 = some o → Q v W1.H) : te σ W.H Q := by
  obtain ⟨o1, e1, ho⟩ := bind_some ho
  refine h1 σ W ρ μ F S o1 e1 Q ?_
  cases o1 with
  | ok d ρ1 μ1 => exact fun v W1 G F1 r S1 nd own mv => hk d v W1 G ρ1 μ1 F1 r S1 nd own mv ho
  | ex c fs ρ1 μ1 =>
    cases ho
    exact fun dx W' F' r S' mv => h dx σ W' F' r S' mv Kept.refl
/-! ### a name is set, a value is dropped, returned, asked -/
def fSetX (i : Nat) (g : FX) : FS := xS g fun d ρ μ => if isUn d = true then none else some (.nx (ρ.set i d) μ)
theorem R_notun {K : PySem.W.Frag} {W : Wd} {d : D} {v : V} {G : List Addr} (r : R K W d v G) : isUn d = false := by
  cases d <;> first
    | rfl
    | exact r.elim
theorem sta_setG {K : PySem.W.Frag} {W : Wd} {σ : L2.St} {ρ μ : List D} {G F : List Addr} {d : D} {v : V} (r : R K W d v G) (S : Sta K W σ ρ μ F) (nd : (G ++ F).Nodup) (own : ∀ a ∈ G, Own W a) (i : Nat) : ∃ F', Sta K W (σ.set i (some v)) (ρ.set i d) μ F' ∧ ∀ a ∈ F', a ∈ G ++ F := by
  have hl := S.len
  by_cases hi : i < ρ.length
  · obtain ⟨F1, S1, sub1⟩ := S.set (i := i) (d := .un) (o := some v) (show R1 K W .un (some v) [] from rfl)
    have nd1 : (G ++ F1).Nodup := by
      have z := List.nodup_append.mp nd
      exact List.nodup_append.mpr ⟨z.1, S1.nd, fun a ha b hb => z.2.2 a ha b (sub1 b hb)⟩
    have Sf := sta_cons (o := some v) (R1_of r) S1 nd1 own
    obtain ⟨F2, S2, sub2⟩ := sta_in (m := i) Sf (by rw [List.getElem?_set_self (by omega)])
    rw [List.set_set] at S2
    exact ⟨F2, S2, fun a ha => (List.mem_append.mp (sub2 a ha)).elim (List.mem_append_left _) fun z => List.mem_append_right _ (sub1 a z)⟩
  · rw [List.set_eq_of_length_le (by omega), List.set_eq_of_length_le (by omega)]
    exact ⟨F, S, fun a ha => List.mem_append_right _ ha⟩
theorem ps1_setX {i : Nat} {y : Str} {py : Pos} (hN : X.N.Nodup) (hi : X.N[i]? = some y) (hx : Loc X.env.scope y) (he : PX X Wx e g) (hs : swapsWith e (some (.Name y py)) pos.line X.env = pure false := by rfl) (hf : X.fn y = true ∨ X.env.scope.names.lookup y = some .local := by first | exact .inl rfl | exact .inr rfl) (ho : i ∉ ob := by decide) :
    PS1 X ob Wx (.Assign [.Name y py] e pos) (fSetX i g) := by
  obtain ⟨te, p, k⟩ := he
  refine ⟨_, ps_set hN hi hx p hs hf, fun E σ W ρ μ F S o ho1 h => ?_⟩
  refine runS_bind k S ho1 h fun d v W1 G ρ1 μ1 F1 r S1 nd own mv hk => ?_
  rw [if_neg (by rw [R_notun r]; exact Bool.false_ne_true)] at hk
  cases hk
  obtain ⟨F2, S2, sub⟩ := sta_setG r S1 nd own i
  exact h _ W1 F2 S2 (mv.sub (fun _ h => h) sub) (Kept.set ho)
def fSetTX (gt : D → List D → Option (List D)) (g : FX) : FS := xS g fun d ρ μ => if data d = true then (gt d ρ).map fun ρ' => .nx ρ' μ else none
def fExX (g : FX) : FS := xS g fun _ ρ μ => some (.nx ρ μ)
theorem mv_drop {W W1 : Wd} {F G F1 : List Addr} (mv : Mv W W1 F (G ++ F1)) : Mv W W1 F F1 := mv.sub (fun _ h => h) fun a ha => List.mem_append_right _ ha
theorem ps1_exX (he : PX X Wx e g) (hsw : swapsWith e none pos.line X.env = pure false := by rfl) : PS1 X ob Wx (.Expr e pos) (fExX g) := by
  obtain ⟨te, p, k⟩ := he
  refine ⟨_, ps_expr p hsw, fun E σ W ρ μ F S o ho1 h => ?_⟩
  refine runS_bind k S ho1 h fun d v W1 G ρ1 μ1 F1 r S1 nd own mv hk => ?_
  cases hk
  exact h σ W1 F1 S1 (mv_drop mv) Kept.refl
def fRetX (g : FX) : FS := xS g fun d ρ μ => some (.rt d ρ μ)
theorem ps1_retX (he : PX X Wx e g) : PS1 X ob Wx (.Return (some e) pos) (fRetX g) := by
  obtain ⟨te, p, k⟩ := he
  refine ⟨_, ps_ret p, fun E σ W ρ μ F S o ho1 h => ?_⟩
  refine runS_bind k S ho1 h fun d v W1 G ρ1 μ1 F1 r S1 nd own mv hk => ?_
  cases hk
  exact h v σ W1 G F1 r S1 nd own mv Kept.refl
def fIfX (t : FX) (f g : FS) : FS := xS t fun d ρ μ => match d with
  | .bl b => if b = true then f ρ μ else g ρ μ
  | _ => none
theorem ps1_ifX (hc : PTX X Wx e g) (ha : PSS X ob Wx ss f1) (hb : PSS X ob Wx ss' f2) : PS1 X ob Wx (.If e ss ss' pos) (fIfX g f1 f2) := by
  obtain ⟨t0, p0, k0⟩ := hc
  obtain ⟨t1, p1, k1⟩ := ha
  obtain ⟨t2, p2, k2⟩ := hb
  refine ⟨_, ps_if p0 p1 p2, fun E σ W ρ μ F S o ho h => ?_⟩
  obtain ⟨o1, e1, ho⟩ := bind_some ho
  refine k0 σ W ρ μ F S o1 e1 _ ?_
  cases o1 with
  | ok d ρ1 μ1 =>
    cases d with
    | bl b =>
      intro W1 F1 S1 mv
      have ho2 : (if b = true then f1 ρ1 μ1 else f2 ρ1 μ1) = some o := ho
      cases b with
      | true =>
        rw [if_pos rfl] at ho2 ⊢
        exact k1 E σ W1 ρ1 μ1 F1 S1 o ho2 (h.after mv Kept.refl)
      | false =>
        rw [if_neg Bool.false_ne_true] at ho2 ⊢
        exact k2 E σ W1 ρ1 μ1 F1 S1 o ho2 (h.after mv Kept.refl)
    | _ => cases ho
  | ex c fs ρ1 μ1 =>
    cases ho
    exact fun dx W' F' r S' mv => h dx σ W' F' r S' mv Kept.refl
/-! ### a field is set -/
def fFldX (ok : OkT) (i : Nat) (q : List Str) (x : Str) (g : FX) : FS := xS g fun d ρ μ => (ρ[i]?).bind fun r => (pget ok q r).bind fun t => match t with
  | .obj c ns ds => if ok c x = true ∧ ns.length < 1000 then (pput q r (putD x d c ns ds)).map fun r' => .nx (ρ.set i r') μ else none
  | .ref j => match μ[j]? with
    | some (.obj c ns ds) => if ok c x = true ∧ ns.length < 1000 ∧ fl d = true then some (.nx ρ (μ.set j (putD x d c ns ds))) else none
    | _ => none
  | _ => none
theorem zip_len {ns : List Str} {vs : List V} (h : ns.length = vs.length) : (ns.zip vs).length = ns.length := by
  rw [List.length_zip, h, Nat.min_self]
theorem putD_ne {d : D} {c : Str} {ns : List Str} {ds : List D} : isUn (putD x d c ns ds) = false := by
  unfold putD
  cases fidx x ns <;> rfl
theorem fld_run {te : TE} (T : CE X.K ok) {E : Ends} {σ : L2.St} {W W1 : Wd} (h0 : ∀ (Q : VK) (u v : V), σ[i]? = some (some u) → rdp X.K W1.H u q v → Q v W1.H → te σ W1.H Q) {ρ1 μ1 : List D} {F F1 G : List Addr} {d : D} {y : V}
    (ry : R X.K W1 d y G) (S1 : Sta X.K W1 σ ρ1 μ1 F1) (nd : (G ++ F1).Nodup) (own : ∀ a ∈ G, Own W1 a) (mv : Mv W W1 F (G ++ F1)) {o : SO} (h : Goes X.K ob Wx E σ W F o)
    (hk : ((ρ1[i]?).bind fun r => (pget ok q r).bind fun t => match t with
      | .obj c ns ds => if ok c x = true ∧ ns.length < 1000 then (pput q r (putD x d c ns ds)).map fun r' => SO.nx (ρ1.set i r') μ1 else none
      | .ref j => match μ1[j]? with
        | some (.obj c ns ds) => if ok c x = true ∧ ns.length < 1000 ∧ fl d = true then some (.nx ρ1 (μ1.set j (putD x d c ns ds))) else none
        | _ => none
      | _ => none) = some o) :
    te σ W1.H fun z H2 => ∃ a C dx fs, z = .ref a ∧ H2 a = some (.ins C dx fs) ∧ Cls X.K C ∧ NoAttr X.K C x ∧ fs.length < 1000 ∧ E.nx σ (upd H2 a (.ins C dx (putF x y fs))) := by
  obtain ⟨r, e0, hk⟩ := bind_some hk
  obtain ⟨t0, e1, hk⟩ := bind_some hk
  obtain ⟨u, v, hu, hr, Fc, Sc, subc, put⟩ := foc_sp T S1 e0 e1
  refine h0 _ u v hu hr ?_
  obtain ⟨G0, F0, r1, S0, eF⟩ := sta_tail Sc
  rw [R1_iff] at r1
  rcases r1 with ⟨z, _⟩ | ⟨v1, ev, r1⟩
  · have := (pget_ne e1).2
    rw [z] at this
    cases this
  injection ev with ev
  subst ev
  cases t0 with
  | obj c ns ds =>
    have hk2 : (if ok c x = true ∧ ns.length < 1000 then (pput q r (putD x d c ns ds)).map fun r' => SO.nx (ρ1.set i r') μ1 else none) = some o := hk
    by_cases hc : ok c x = true ∧ ns.length < 1000
    case neg => rw [if_neg hc] at hk2; cases hk2
    rw [if_pos hc] at hk2
    obtain ⟨r', e2, z⟩ := map_some hk2
    subst z
    obtain ⟨a, dx, vs, F', rfl, hH, hn, hR, rfl⟩ := r1
    obtain ⟨cl, na⟩ := T c x hc.1
    have lv := RL_len hR
    refine ⟨a, _, dx, _, rfl, hH, cl, na, by rw [zip_len (by rw [hn, lv])]; exact hc.2, ?_⟩
    have nd0 := List.nodup_append.mp nd
    have ndFc := Sc.nd
    rw [eF] at ndFc
    have ndO := List.nodup_append.mp ndFc
    have inFc : ∀ b ∈ a :: F', b ∈ F1 := fun b hb => subc b (by rw [eF]; exact List.mem_append_left _ hb)
    have ndG : (G ++ (a :: F')).Nodup := List.nodup_append.mpr ⟨nd0.1, ndO.1, fun b hb b' hb' => nd0.2.2 b hb b' (inFc b' hb')⟩
    have oa : Own W1 a := S1.own a (inFc a (List.mem_cons_self ..))
    obtain ⟨F'', rn, nd2, sub2⟩ := R_put (x := x) hH hn hR ry ndG oa.1
    obtain ⟨⟨F3, F4, p1, p2, p3⟩, nd3, own3, ok3⟩ := S0
    obtain ⟨_, rfl⟩ := p1
    have e6 : F0 = F4 := p3
    subst e6
    have naF : a ∉ F0 := fun z => ndO.2.2 a (List.mem_cons_self ..) a z rfl
    have lt : Lt W1 ⟨upd W1.H a (.ins (He.ga X.K c) dx (putF x y (ns.zip vs))), W1.Fr, W1.m⟩ := Lt.upd_ins hH oa.1
    have hst : RL X.K ⟨upd W1.H a (.ins (He.ga X.K c) dx (putF x y (ns.zip vs))), W1.Fr, W1.m⟩ μ1 (W1.m.map V.ref) F0 := RL_keep lt μ1 (fun b hb => upd_ne fun z => naF (z ▸ hb)) p2
    have okW : WOk ⟨upd W1.H a (.ins (He.ga X.K c) dx (putF x y (ns.zip vs))), W1.Fr, W1.m⟩ := fun b hb => by
      show upd W1.H a _ b ≠ none
      by_cases z : b = a
      · rw [z, upd_same]
        exact fun z => nomatch z
      · rw [upd_ne z]
        exact S1.ok b hb
    have ownU : ∀ b, Own W1 b → Own ⟨upd W1.H a (.ins (He.ga X.K c) dx (putF x y (ns.zip vs))), W1.Fr, W1.m⟩ b := fun b hb => by
      refine ⟨hb.1, ?_⟩
      show (∃ xs, upd W1.H a _ b = _) ∨ ∃ C dx fs, upd W1.H a _ b = _
      by_cases z : b = a
      · rw [z, upd_same]
        exact .inr ⟨_, _, _, rfl⟩
      · rw [upd_ne z]
        exact hb.2
    have ndN : (F'' ++ F0).Nodup := List.nodup_append.mpr ⟨nd2, ndO.2.1, fun b hb b' hb' z => by
      subst z
      rcases List.mem_append.mp (sub2 b hb) with w | w
      · exact nd0.2.2 b w b (subc b (by rw [eF]; exact List.mem_append_right _ hb')) rfl
      · exact ndO.2.2 b w b hb' rfl⟩
    have ownN : ∀ b ∈ F'' ++ F0, Own W1 b := fun b hb => by
      rcases List.mem_append.mp hb with w | w
      · rcases List.mem_append.mp (sub2 b w) with w | w
        · exact own b w
        · exact S1.own b (inFc b w)
      · exact S1.own b (subc b (by rw [eF]; exact List.mem_append_right _ w))
    have mvU : Mv W1 ⟨upd W1.H a (.ins (He.ga X.K c) dx (putF x y (ns.zip vs))), W1.Fr, W1.m⟩ (G ++ Fc) ([] ++ (F'' ++ F0)) := ⟨fun b o hb nb => by
        show upd W1.H a _ b = some o
        rw [upd_ne fun z => nb (List.mem_append_right _ (by rw [z, eF]; exact List.mem_append_left _ (List.mem_cons_self ..)))]
        exact hb, fun _ h => h, fun _ h => .inl h, fun b hb => .inl (by
        rcases List.mem_append.mp hb with w | w
        · cases w
        · rcases List.mem_append.mp w with w | w
          · rcases List.mem_append.mp (sub2 b w) with w | w
            · exact List.mem_append_left _ w
            · exact List.mem_append_right _ (by rw [eF]; exact List.mem_append_left _ w)
          · exact List.mem_append_right _ (by rw [eF]; exact List.mem_append_right _ w)), ⟨[], (List.append_nil _).symm⟩⟩
    obtain ⟨F9, S9, _, mv9⟩ := put _ [putD x d c ns ds] μ1 (F'' ++ F0) [] G _ (by
        show (pput q r (putD x d c ns ds)).map (fun d' => ρ1.set i d') = some (ρ1.set i r')
        rw [e2]
        rfl) ⟨⟨F'', F0, ⟨some (.ref a), [], F'', [], rfl, R1_of rn, ⟨rfl, rfl⟩, (List.append_nil _).symm⟩, hst, rfl⟩, ndN, fun b hb => ownU b (ownN b hb), okW⟩ ndN (fun _ hb => nomatch hb) (fun b hb => ⟨own b hb, fun z => nd0.2.2 b hb b z rfl⟩) mvU
    exact h σ _ F9 S9 (mv.trans mv9) Kept.refl
  | ref j =>
    have hk2 : (match μ1[j]? with
      | some (.obj c ns ds) => if ok c x = true ∧ ns.length < 1000 ∧ fl d = true then some (SO.nx ρ1 (μ1.set j (putD x d c ns ds))) else none
      | _ => none) = some o := hk
    cases e9 : μ1[j]? with
    | none => rw [e9] at hk2; cases hk2
    | some t2 =>
      rw [e9] at hk2
      cases t2 with
      | obj c ns ds =>
        have hk3 : (if ok c x = true ∧ ns.length < 1000 ∧ fl d = true then some (SO.nx ρ1 (μ1.set j (putD x d c ns ds))) else none) = some o := hk2
        by_cases hc : ok c x = true ∧ ns.length < 1000 ∧ fl d = true
        case neg => rw [if_neg hc] at hk3; cases hk3
        rw [if_pos hc] at hk3
        cases hk3
        have z := R_fl hc.2.2 ry
        subst z
        obtain ⟨a, rfl, h3, hG0⟩ := r1
        obtain ⟨⟨FA, F2, p1, p2, p3⟩, nd3, own3, ok3⟩ := S1
        subst p3
        obtain ⟨v0, A, B, C, q1, q2, q3, q4⟩ := RL_lens p2 e9
        subst q2
        rw [List.getElem?_map, h3] at q1
        injection q1 with q1
        subst q1
        obtain ⟨a2, dx, vs, F', ea, hH, hn, hR, eB⟩ := q3
        injection ea with ea
        subst ea
        obtain ⟨cl, na⟩ := T c x hc.1
        have lv := RL_len hR
        refine ⟨a, _, dx, _, rfl, hH, cl, na, by rw [zip_len (by rw [hn, lv])]; exact hc.2.1, ?_⟩
        subst eB
        have ndAll := List.nodup_append.mp nd3
        have ndB := List.nodup_append.mp ndAll.2.1
        have ndB2 := List.nodup_append.mp ndB.2.1
        have oa : Own W1 a := own3 a (List.mem_append_right _ (List.mem_append_right _ (List.mem_append_left _ (List.mem_cons_self ..))))
        obtain ⟨F'', rn, nd2, sub2⟩ := R_put (x := x) (Gy := []) hH hn hR ry ndB2.1 oa.1
        have sub3 : ∀ b ∈ F'', b ∈ a :: F' := fun b hb => (List.mem_append.mp (sub2 b hb)).elim (fun z => nomatch z) id
        have lt : Lt W1 ⟨upd W1.H a (.ins (He.ga X.K c) dx (putF x y (ns.zip vs))), W1.Fr, W1.m⟩ := Lt.upd_ins hH oa.1
        have off : ∀ b, b ≠ a → (⟨upd W1.H a (.ins (He.ga X.K c) dx (putF x y (ns.zip vs))), W1.Fr, W1.m⟩ : Wd).H b = W1.H b := fun b hb => upd_ne hb
        have aFA : a ∉ FA := fun z => ndAll.2.2 a z a (List.mem_append_right _ (List.mem_append_left _ (List.mem_cons_self ..))) rfl
        have aAC : a ∉ A ++ C := fun z => by
          rcases List.mem_append.mp z with w | w
          · exact ndB.2.2 a w a (List.mem_append_left _ (List.mem_cons_self ..)) rfl
          · exact ndB2.2.2 a (List.mem_cons_self ..) a w rfl
        have rr := q4 _ (putD x d c ns ds) (.ref a) F'' lt (fun b hb => off b fun z => aAC (z ▸ hb)) rn
        have es : (W1.m.map V.ref).set j (.ref a) = W1.m.map V.ref := set_self (by rw [List.getElem?_map, h3]; rfl)
        rw [es] at rr
        have okW : WOk ⟨upd W1.H a (.ins (He.ga X.K c) dx (putF x y (ns.zip vs))), W1.Fr, W1.m⟩ := fun b hb => by
          show upd W1.H a _ b ≠ none
          by_cases z : b = a
          · rw [z, upd_same]
            exact fun z => nomatch z
          · rw [upd_ne z]
            exact ok3 b hb
        have subF : ∀ b ∈ FA ++ (A ++ (F'' ++ C)), b ∈ FA ++ (A ++ ((a :: F') ++ C)) := fun b hb => by
          rcases List.mem_append.mp hb with w | w
          · exact List.mem_append_left _ w
          · refine List.mem_append_right _ ?_
            rcases List.mem_append.mp w with w | w
            · exact List.mem_append_left _ w
            · refine List.mem_append_right _ ?_
              rcases List.mem_append.mp w with w | w
              · exact List.mem_append_left _ (sub3 b w)
              · exact List.mem_append_right _ w
        have ndN : (FA ++ (A ++ (F'' ++ C))).Nodup := List.nodup_append.mpr ⟨ndAll.1, List.nodup_append.mpr ⟨ndB.1, List.nodup_append.mpr ⟨nd2, ndB2.2.1, fun b hb b' hb' => ndB2.2.2 b (sub3 b hb) b' hb'⟩, fun b hb b' hb' => ndB.2.2 b hb b' ((List.mem_append.mp hb').elim (fun w => List.mem_append_left _ (sub3 b' w)) (List.mem_append_right _))⟩, fun b hb b' hb' => by
          have w := subF b' (List.mem_append_right _ hb')
          rcases List.mem_append.mp w with w | w
          · intro e
            subst e
            rcases List.mem_append.mp hb' with z | z
            · exact ndAll.2.2 b hb b (List.mem_append_left _ z) rfl
            · refine ndAll.2.2 b hb b (List.mem_append_right _ ?_) rfl
              rcases List.mem_append.mp z with z | z
              · exact List.mem_append_left _ (sub3 b z)
              · exact List.mem_append_right _ z
          · exact ndAll.2.2 b hb b' w⟩
        refine h σ ⟨upd W1.H a (.ins (He.ga X.K c) dx (putF x y (ns.zip vs))), W1.Fr, W1.m⟩ (FA ++ (A ++ (F'' ++ C))) ⟨⟨FA, _, RS_keep lt (fun b hb => off b fun z => aFA (z ▸ hb)) p1, rr, rfl⟩, ndN, fun b hb => ?_, okW⟩ (mv.trans ⟨fun b o hb nb => ?_, fun _ h => h, fun _ h => .inl h, fun b hb => .inl (List.mem_append_right _ (subF b hb)), ⟨[], (List.append_nil _).symm⟩⟩) Kept.refl
        · have hb1 := own3 b (subF b hb)
          refine ⟨hb1.1, ?_⟩
          show (∃ xs, upd W1.H a _ b = _) ∨ ∃ C dx fs, upd W1.H a _ b = _
          by_cases z : b = a
          · rw [z, upd_same]
            exact .inr ⟨_, _, _, rfl⟩
          · rw [upd_ne z]
            exact hb1.2
        · show upd W1.H a _ b = some o
          rw [upd_ne fun z => nb (List.mem_append_right _ (List.mem_append_right _ (List.mem_append_right _ (List.mem_append_left _ (by rw [z]; exact List.mem_cons_self ..)))))]
          exact hb
      | _ => cases hk2
  | _ => cases hk
theorem ps1_fldX {ep : Expr} (T : CE X.K ok) (hp : PPath X ep i q) (he : PX X Wx e g) (hs : swapsWith e (some (.Attribute ep x pos')) pos.line X.env = pure false := by rfl) : PS1 X ob Wx (.Assign [.Attribute ep x pos'] e pos) (fFldX ok i q x g) := by
  obtain ⟨tv, pv, kv⟩ := he
  obtain ⟨te, pe, k0⟩ := hp
  refine ⟨_, ps_fld pe pv hs, fun E σ W ρ μ F S o ho1 h => ?_⟩
  exact runS_bind kv S ho1 h fun d v W1 G ρ1 μ1 F1 r S1 nd own mv hk => fld_run T (fun Q u v => k0 σ _ Q u v) r S1 nd own mv h hk
/-! ### raise -/
def fRaise (c : Str) : FS := fun ρ μ => some (.ex c [] ρ μ)
theorem ps1_raise {c : Str} {t : L2.St → Hp → XK → Prop} (hc : X.calm = true) (tk : Takes X Wx) (he : PMk X e t) (ht : ∀ (σ : L2.St) (H : Hp) (Q : XK), Q (.ref (He.ga X.K c)) none H → t σ H Q) : PS1 X ob Wx (.Raise (some e) none pos) (fRaise c) :=
  ⟨_, ps_raise hc tk he, fun E σ W ρ μ F S o ho h => by
    cases ho
    exact ht σ W.H _ (h none σ W F (.inl ⟨rfl, rfl⟩) S (Ext.refl S.ok).mvr Kept.refl)⟩
end
end Fw
/-! # defs and methods that only look at what is lent -/
namespace Fw
open PySem PySem.Spec PyProof.Rows L2
open Evl (Ex)
mutual
/-- nothing of it is changed meanwhile -/
def fz : D → D
  | .tup ds => .tup (fzL ds)
  | .lst ds => .lst (fzL ds)
  | .ml ds => .lst (fzL ds)
  | .obj c ns ds => .fo c ns (fzL ds)
  | .fo c ns ds => .fo c ns (fzL ds)
  | d => d
def fzL : List D → List D
  | [] => []
  | d :: ds => fz d :: fzL ds
end
theorem fzL_len : ∀ ds : List D, (fzL ds).length = ds.length
  | [] => rfl
  | d :: ds => congrArg Nat.succ (fzL_len ds)
mutual
theorem fz_data : ∀ d : D, data d = true → fz d = d
  | .non, _ => rfl
  | .bl _, _ => rfl
  | .int _, _ => rfl
  | .str _, _ => rfl
  | .tup ds, h => congrArg D.tup (fzL_data ds h)
  | .lst ds, h => congrArg D.lst (fzL_data ds h)
  | .ml _, h => by cases h
  | .obj _ _ _, h => by cases h
  | .fo _ _ _, h => by cases h
  | .ref _, h => by cases h
  | .un, h => by cases h
theorem fzL_data : ∀ ds : List D, dataL ds = true → fzL ds = ds
  | [], _ => rfl
  | d :: ds, h => by
    obtain ⟨a, b⟩ := Bool.and_eq_true_iff.mp (show (data d && dataL ds) = true from h)
    show fz d :: fzL ds = d :: ds
    rw [fz_data d a, fzL_data ds b]
end
abbrev Wd.all (W : Wd) : Wd := ⟨W.H, fun a => W.H a ≠ none, W.m⟩
theorem Wd.all_ok {W : Wd} : WOk W.all := fun _ h => h
section
variable {K : PySem.W.Frag} {W : Wd}
mutual
theorem R_fz (ok : WOk W) : ∀ (d : D) {v : V} {F : List Addr}, R K W d v F → R K W.all (fz d) v []
  | .non, _, _, h => ⟨h.1, rfl⟩
  | .bl _, _, _, h => ⟨h.1, rfl⟩
  | .int _, _, _, h => ⟨h.1, rfl⟩
  | .str _, _, _, h => ⟨h.1, rfl⟩
  | .tup ds, _, _, h => by
    obtain ⟨a, vs, h1, h2, h3⟩ := h
    exact ⟨a, vs, h1, h2, RL_fz ok ds h3⟩
  | .lst ds, _, _, h => by
    obtain ⟨a, vs, h1, h2, h3, h4⟩ := h
    exact ⟨a, vs, h1, h2.imp (fun z => ⟨z.1, ok a z.2⟩) id, RL_fz ok ds h3, rfl⟩
  | .ml ds, _, _, h => by
    obtain ⟨a, vs, F', h1, h2, h3, h4⟩ := h
    exact ⟨a, vs, h1, .inl ⟨.inl h2, fun z => by rw [show W.H a = some (.lst vs) from h2] at z; cases z⟩, RL_fz ok ds h3, rfl⟩
  | .obj c ns ds, _, _, h => by
    obtain ⟨a, dx, vs, F', h1, h2, h3, h4, h5⟩ := h
    have nf : W.H a ≠ none := by
      rw [h2]
      exact fun z => nomatch z
    exact ⟨a, dx, vs, h1, h2, nf, by rw [fzL_len]; exact h3, RL_fz ok ds h4, rfl⟩
  | .fo c ns ds, _, _, h => by
    obtain ⟨a, dx, vs, h1, h2, h3, h4, h5, h6⟩ := h
    exact ⟨a, dx, vs, h1, h2, ok a h3, by rw [fzL_len]; exact h4, RL_fz ok ds h5, rfl⟩
  | .ref k, _, _, h => by
    obtain ⟨a, h1, h2, h3⟩ := h
    exact ⟨a, h1, h2, rfl⟩
  | .un, _, _, h => h.elim
theorem RL_fz (ok : WOk W) : ∀ (ds : List D) {vs : List V} {F : List Addr}, RL K W ds vs F → RL K W.all (fzL ds) vs []
  | [], _, _, h => ⟨h.1, rfl⟩
  | d :: ds, _, _, h => by
    obtain ⟨v, vs', F1, F2, h1, h2, h3, h4⟩ := h
    exact ⟨v, vs', [], [], h1, R_fz ok d h2, RL_fz ok ds h3, rfl⟩
end
mutual
/-- data without lists -/
def noL : D → Bool
  | .non => true
  | .bl _ => true
  | .int _ => true
  | .str _ => true
  | .tup ds => noLL ds
  | _ => false
def noLL : List D → Bool
  | [] => true
  | d :: ds => noL d && noLL ds
end
mutual
theorem R_noL {W' : Wd} (hH : W'.H = W.H) : ∀ (d : D) {v : V} {F : List Addr}, noL d = true → R K W d v F → R K W' d v []
  | .non, _, _, _, h => ⟨h.1, rfl⟩
  | .bl _, _, _, _, h => ⟨h.1, rfl⟩
  | .int _, _, _, _, h => ⟨h.1, rfl⟩
  | .str _, _, _, _, h => ⟨h.1, rfl⟩
  | .tup ds, _, _, q, h => by
    obtain ⟨a, vs, h1, h2, h3⟩ := h
    exact ⟨a, vs, h1, by rw [hH]; exact h2, RL_noL hH ds q h3⟩
  | .lst _, _, _, q, _ => by cases q
  | .ml _, _, _, q, _ => by cases q
  | .obj _ _ _, _, _, q, _ => by cases q
  | .fo _ _ _, _, _, q, _ => by cases q
  | .ref _, _, _, q, _ => by cases q
  | .un, _, _, q, _ => by cases q
theorem RL_noL {W' : Wd} (hH : W'.H = W.H) : ∀ (ds : List D) {vs : List V} {F : List Addr}, noLL ds = true → RL K W ds vs F → RL K W' ds vs []
  | [], _, _, _, h => ⟨h.1, rfl⟩
  | d :: ds, _, _, q, h => by
    obtain ⟨v, vs', F1, F2, h1, h2, h3, h4⟩ := h
    obtain ⟨qa, qb⟩ := Bool.and_eq_true_iff.mp (show (noL d && noLL ds) = true from q)
    exact ⟨v, vs', [], [], h1, R_noL hH d qa h2, RL_noL hH ds qb h3, rfl⟩
end
/-- what may come back -/
def resF : D → Option D
  | .ml ds => if noLL ds = true then some (.lst ds) else none
  | d => if noL d = true then some d else none
end
theorem resF_noL {d d' : D} (h : resF d = some d') (hn : ∀ ds, d ≠ .ml ds) : noL d = true ∧ d' = d := by
  unfold resF at h
  split at h
  · exact absurd rfl (hn _)
  · by_cases z : noL d = true
    · rw [if_pos z] at h
      exact ⟨z, (Option.some.inj h).symm⟩
    · rw [if_neg z] at h
      cases h
abbrev RF := List D → List D → Option D
def spF (K : PySem.W.Frag) (n : Nat) (run : RF) : Sp := fun vs H Q _ => ∃ (W : Wd) (ds μ : List D) (d : D), W.H = H ∧ WOk W ∧ RL K W ds vs [] ∧ RL K W μ (W.m.map V.ref) [] ∧ ds.length = n ∧ run ds μ = some d ∧
  ∀ v W' G, R K W' d v G → WOk W' → (∀ a ∈ G, Own W' a) → Mv W W' [] G → Q v W'.H
def runF (N : Nat) (f : FS) : RF := fun ds μ => match f (ds ++ List.replicate (N - ds.length) .un) μ with
  | some (.rt d _ _) => some d
  | some (.nx _ _) => some .non
  | _ => none
theorem fnf_def {P : Program} {w : World} {K : PySem.W.Frag} {mg : Str → Option Value} {base : Heap} {nm qual : Str} {params : Arguments} {body : List Stmt} {scope : Scope} {dvs0 : List V} {kws : List (Str × V)} {fa : Addr} {fd : FuncData} {N ps : List Str} {k n : Nat} {f : FS} {run : RF} {ob : List Nat}
    (F : FunD K nm qual params body scope dvs0 kws fa fd) (Sc : FnScope N ps scope) (hn : ps.length = n)
    (h : ∀ (cdv : Value) (A : Around) (outer : List Env) (s : Shared) (H : Hp) (E : XK), Room k (A.deeper (envOfC qual scope s.heap.objs.size fa cdv)) → PSS (cxOf (L2.CX P w) P w K mg base N qual scope fa cdv A outer s H E) ob (fun _ _ _ _ => False) body f)
    (hr : ∀ ds μ d, run ds μ = some d → runF N.length f ds μ = some d) : FnOk P w K mg base (L2.CX P w) (k + 1) fa fd ps (spF K n run) := by
  refine F.ok Sc (fun vs H Q E q => ?_) (fun cdv A outer s H vs Q E hroom q => ?_)
  · obtain ⟨W, ds, μ, d, _, _, r, _, hl, _⟩ := q
    rw [RL_len r, hl, hn]
  · obtain ⟨W, ds, μ, d, hH, okW, r, rm, hl, hrun, q⟩ := q
    subst hH
    obtain ⟨ts, p, kk⟩ := h cdv A outer s W.H E hroom
    refine ⟨ts, p, ?_⟩
    have lv : vs.length = ds.length := RL_len r
    have e0 : L2.start N vs = vs.map some ++ List.replicate (N.length - ds.length) none := by
      unfold L2.start
      rw [lv]
    rw [e0]
    have S : Sta K W (vs.map some ++ List.replicate (N.length - ds.length) none) (ds ++ List.replicate (N.length - ds.length) .un) μ [] := ⟨⟨[], [], RS_start _ r, rm, rfl⟩, List.nodup_nil, (fun _ h => nomatch h), okW⟩
    have hq := hr ds μ d hrun
    unfold runF at hq
    cases e1 : f (ds ++ List.replicate (N.length - ds.length) .un) μ with
    | none => rw [e1] at hq; cases hq
    | some o =>
      rw [e1] at hq
      refine kk _ _ W _ μ [] S o e1 ?_
      cases o with
      | nx ρ' μ' =>
        cases hq
        intro σ' W' F' S' mv kp
        exact q .non W' [] ⟨rfl, rfl⟩ S'.ok (fun _ hb => nomatch hb) (mv.sub (fun _ h => h) fun _ hb => nomatch hb)
      | rt d' ρ' μ' =>
        cases hq
        intro v σ' W' G F' rv S' nd own mv kp
        exact q v W' G rv S'.ok own (mv.sub (fun _ h => h) fun _ hb => List.mem_append_left _ hb)
      | _ => cases hq
def OkF (P : Program) (w : World) (K : PySem.W.Frag) (mg : Str → Option Value) (base : Heap) (x : Str) (k n : Nat) (dd : List D) (run : RF) : Prop :=
  ∃ (f : Addr) (fd : FuncData) (ps : List Str) (dvs : List V) (us : List Value), FnOk P w K mg base (L2.CX P w) k f fd ps (spF K n run) ∧ Binds K fd ps us ∧ Vals dvs us ∧ (∀ W : Wd, RL K W dd dvs []) ∧ mg x = some (.ref f) ∧ PySem.W.keepIn K (.ref f) = true
def OkFM (P : Program) (w : World) (K : PySem.W.Frag) (mg : Str → Option Value) (base : Heap) (c m : Str) (k n : Nat) (dd : List D) (run : RF) : Prop :=
  ∃ (f : Addr) (fd : FuncData) (ps : List Str) (dvs : List V) (us : List Value), FnOk P w K mg base (L2.CX P w) k f fd ps (spF K n run) ∧ Binds K fd ps us ∧ Vals dvs us ∧ (∀ W : Wd, RL K W dd dvs []) ∧ Cls K (He.ga K c) ∧ Meth K (He.ga K c) m f
/-- into a def that only looks, and back -/
theorem look_back {K : PySem.W.Frag} {n : Nat} {run : RF} {W : Wd} {σ : L2.St} {ρ μ ds : List D} {F : List Addr} {vs : List V} {d d' : D} {Q : VK} {E : XK} (S : Sta K W σ ρ μ F) (r : RL K W.all ds vs []) (hn : ds.length = n) (hr : run ds (fzL μ) = some d) (hd : resF d = some d')
    (q : ∀ v W', Ext W W' → R K W' d' v [] → Q v W'.H) : spF K n run vs W.H Q E := by
  obtain ⟨F1, F2, _, h2, _⟩ := S.ex
  refine ⟨W.all, ds, fzL μ, d, rfl, Wd.all_ok, r, RL_fz S.ok μ h2, hn, hr, fun v W2 G rv ok2 own mv => ?_⟩
  have hx : Ext W ⟨W2.H, fun a => W.Fr a ∨ ((W2.Fr a ∨ a ∈ G) ∧ W.H a = none), W.m⟩ := by
    refine ⟨fun a o e => mv.keep a o e (fun z => nomatch z), fun a h => .inl h, fun a h => ?_, rfl, fun a h => ?_⟩
    · rcases h with h | h
      · exact .inl h
      · exact .inr h.2
    · rcases h with h | ⟨h | h, _⟩
      · intro z
        cases e : W.H a with
        | none => exact S.ok a h e
        | some o =>
          have := mv.keep a o e (fun z => nomatch z)
          rw [show W2.H a = none from z] at this
          cases this
      · exact ok2 a h
      · obtain ⟨_, w⟩ := own a h
        intro z
        rcases w with ⟨xs, w⟩ | ⟨C, dx, fs, w⟩ <;> rw [show W2.H a = none from z] at w <;> cases w
  refine q v ⟨W2.H, fun a => W.Fr a ∨ ((W2.Fr a ∨ a ∈ G) ∧ W.H a = none), W.m⟩ hx ?_
  have hH : (⟨W2.H, fun a => W.Fr a ∨ ((W2.Fr a ∨ a ∈ G) ∧ W.H a = none), W.m⟩ : Wd).H = W2.H := rfl
  cases d with
  | ml es =>
    have hd2 : (if noLL es = true then some (D.lst es) else none) = some d' := hd
    by_cases hl : noLL es = true
    case neg => rw [if_neg hl] at hd2; cases hd2
    rw [if_pos hl] at hd2
    cases hd2
    obtain ⟨a, ws, F', h1, h3, h4, h5⟩ := rv
    have ha : a ∈ G := by
      rw [h5]
      exact List.mem_cons_self ..
    have hf : W.Fr a ∨ ((W2.Fr a ∨ a ∈ G) ∧ W.H a = none) := .inr ⟨.inr ha, (mv.own a ha).elim (fun z => nomatch z) id⟩
    exact ⟨a, ws, h1, .inl ⟨.inl h3, hf⟩, RL_noL hH es hl h4, rfl⟩
  | _ =>
    obtain ⟨hl, rfl⟩ := resF_noL hd fun _ z => nomatch z
    exact R_noL hH _ hl rv
def qRunF (n : Nat) (dd : List D) (run : RF) (k : FA) : FQ := fun ρ μ => (k ρ μ).bind fun as => if (fzL as ++ dd).length = n then (run (fzL as ++ dd) (fzL μ)).bind resF else none
section
variable {X : Cx} {Wx : WX} {e o : Expr} {es : List Expr} {p apos pos : Pos} {kq : FA} {x m : Str} {k n : Nat} {dd : List D} {run : RF} {f : FQ}
theorem pq_callF (O : OkF X.prog X.w X.K X.mg X.base x k n dd run) (hr : Room k X.A) (ha : PAQ X (e :: es) kq) (hg : Gl X x := by rfl) (hdb : (x == ("__debug__" : Str)) = false := by decide)
    (he : starEach (e :: es) X.env = (false, eval e X.env) :: starEach es X.env := by rfl) (hpl : (backTo pos (starEach es X.env)).any (·.1) = false := by rfl) : PQ X (.Call (.Name x p) (e :: es) [] pos) (qRunF n dd run kq) := by
  obtain ⟨f, fd, ps, dvs, us, hF, hb, hv, hdd, hm, hk⟩ := O
  obtain ⟨t, pt, k1⟩ := ha
  refine ⟨_, pe_call hF hr hg hm hk hb hv passL pt hdb he hpl, fun σ W ρ μ F S d hd Q q => ?_⟩
  obtain ⟨as, e1, hd⟩ := bind_some hd
  by_cases hl : (fzL as ++ dd).length = n
  case neg => rw [if_neg hl] at hd; cases hd
  rw [if_pos hl] at hd
  obtain ⟨d', e2, hd⟩ := bind_some hd
  refine k1 σ W ρ μ F S as e1 _ fun vs W1 G1 x1 r1 => ?_
  exact look_back (S.ext x1) (RL_app (RL_fz x1.ok as r1) (hdd _)) hl e2 hd fun v W2 x2 r2 => q v W2 [] (x1.trans x2) r2
abbrev MTF := Str → Option RF
def OkMTF (X : Cx) (m : Str) (k n : Nat) (dd : List D) (runs : MTF) : Prop := ∀ c run, runs c = some run → OkFM X.prog X.w X.K X.mg X.base c m k n dd run
def clsO : D → Option (Str × List Str)
  | .obj c ns _ => some (c, ns)
  | .fo c ns _ => some (c, ns)
  | _ => none
def clsOf (μ : List D) : D → Option (Str × List Str)
  | .ref j => (μ[j]?).bind clsO
  | d => clsO d
theorem R_cls {K : PySem.W.Frag} {W : Wd} {t : D} {v : V} {G : List Addr} {z : Str × List Str} (r : R K W t v G) (h : clsO t = some z) : ∃ a dx vs, v = .ref a ∧ W.H a = some (.ins (He.ga K z.1) dx (z.2.zip vs)) := by
  cases t with
  | obj c ns ds =>
    cases h
    obtain ⟨a, dx, vs, F', h1, h2, _⟩ := r
    exact ⟨a, dx, vs, h1, h2⟩
  | fo c ns ds =>
    cases h
    obtain ⟨a, dx, vs, h1, h2, _⟩ := r
    exact ⟨a, dx, vs, h1, h2⟩
  | _ => cases h
def qMethF (m : Str) (n : Nat) (dd : List D) (runs : MTF) (f : FQ) (k : FA) : FQ := fun ρ μ => (f ρ μ).bind fun t => (clsOf μ t).bind fun z => if fidx m z.2 = none then (runs z.1).bind fun run => (k ρ μ).bind fun as => if (fz t :: (fzL as ++ dd)).length = n then (run (fz t :: (fzL as ++ dd)) (fzL μ)).bind resF else none else none
theorem methF_run {te : TE} {t : TA} {runs : MTF} (OM : OkMTF X m k n dd runs) (h0 : ∀ (σ : L2.St) (W : Wd) (ρ μ : List D) (F : List Addr), Sta X.K W σ ρ μ F → ∀ d, f ρ μ = some d → ∀ Q : VK, (∀ v W' G, Ext W W' → R X.K W' d v G → Q v W'.H) → te σ W.H Q)
    (k1 : ∀ (σ : L2.St) (W : Wd) (ρ μ : List D) (F : List Addr), Sta X.K W σ ρ μ F → ∀ ds, kq ρ μ = some ds → ∀ Q : List V → Hp → Prop, (∀ vs W' G, Ext W W' → RL X.K W' ds vs G → Q vs W'.H) → t σ W.H Q)
    {σ : L2.St} {W : Wd} {ρ μ : List D} {F : List Addr} (S : Sta X.K W σ ρ μ F) {d : D} (hd : qMethF m n dd runs f kq ρ μ = some d) {Q : VK} (q : ∀ v W' G, Ext W W' → R X.K W' d v G → Q v W'.H) : tMX X (fun _ _ _ _ => False) m k te t σ W.H Q := by
  obtain ⟨t0, e0, hd⟩ := bind_some hd
  obtain ⟨z, e1, hd⟩ := bind_some hd
  by_cases hf : fidx m z.2 = none
  case neg => rw [if_neg hf] at hd; cases hd
  rw [if_pos hf] at hd
  obtain ⟨run, e2, hd⟩ := bind_some hd
  obtain ⟨as, e3, hd⟩ := bind_some hd
  by_cases hl : (fz t0 :: (fzL as ++ dd)).length = n
  case neg => rw [if_neg hl] at hd; cases hd
  rw [if_pos hl] at hd
  obtain ⟨d', e4, hd⟩ := bind_some hd
  obtain ⟨g, fd, ps, dvs, us, hF, hb, hv, hdd, hc, hm⟩ := OM z.1 run e2
  refine h0 σ W ρ μ F S t0 e0 _ fun v W1 G1 x1 r1 => ?_
  have S1 := S.ext x1
  have hv2 : ∃ a dx vs, v = .ref a ∧ W1.H a = some (.ins (He.ga X.K z.1) dx (z.2.zip vs)) := by
    cases t0 with
    | ref j =>
      obtain ⟨t2, e5, e6⟩ := bind_some (show (μ[j]?).bind clsO = some z from e1)
      obtain ⟨a, rfl, h3, _⟩ := r1
      obtain ⟨F1, F2, _, h4, _⟩ := S1.ex
      obtain ⟨a', G', h5, h6, _⟩ := RL_map_get h4 e5
      rw [h3] at h5
      cases h5
      exact R_cls h6 e6
    | _ => exact R_cls r1 e1
  obtain ⟨a, dx, vs0, rfl, hH⟩ := hv2
  refine ⟨a, _, dx, _, g, fd, ps, _, dvs, us, rfl, hH, hc, hm, fidx_none hf, hF, hb, hv, ?_⟩
  refine k1 σ W1 ρ μ F S1 as e3 _ fun vs W2 G2 x2 r2 => ?_
  exact look_back (ds := fz t0 :: (fzL as ++ dd)) (vs := .ref a :: (vs ++ dvs)) (S1.ext x2) ⟨.ref a, vs ++ dvs, [], [], rfl, R_fz x2.ok t0 (R_ext x2 t0 r1), RL_app (RL_fz x2.ok as r2) (hdd _), rfl⟩ hl e4 hd fun v W3 x3 r3 => q v W3 [] ((x1.trans x2).trans x3) r3
theorem pq_methF {pl : Sem Bool} {runs : MTF} (OM : OkMTF X m k n dd runs) (hp : PQ X o f) (hr : Room k X.A) (ha : PAQ X (e :: es) kq)
    (hst : starEach (e :: es) X.env = (false, eval e X.env) :: starEach es X.env := by rfl) (hpl : (backTo pos (starEach es X.env)).any (·.1) = false := by rfl)
    (ht : eval (.Call (.Attribute o m apos) (e :: es) [] pos) X.env = (do
      let ov ← eval o X.env
      standAt apos.atName
      let (f, first) ← holding [ov] (getMethod ov m pl)
      callWith pos f first (backTo pos (starEach (e :: es) X.env)) (backToKw pos (keywordEach [] X.env))) := by rfl) :
    PQ X (.Call (.Attribute o m apos) (e :: es) [] pos) (qMethF m n dd runs f kq) := by
  obtain ⟨t, pt, k1⟩ := ha
  obtain ⟨te, pe, k0⟩ := hp
  exact ⟨_, pe_mx pe hr takes0 pt hst hpl ht, fun σ W ρ μ F S d hd Q q => methF_run OM k0 k1 S hd q⟩
theorem pq_methF0 {pl : Sem Bool} {runs : MTF} (OM : OkMTF X m k n dd runs) (hp : PQ X o f) (hr : Room k X.A)
    (ht : eval (.Call (.Attribute o m apos) [] [] pos) X.env = (do
      let ov ← eval o X.env
      standAt apos.atName
      let (f, first) ← holding [ov] (getMethod ov m pl)
      callWith pos f first (backTo pos (starEach [] X.env)) (backToKw pos (keywordEach [] X.env))) := by rfl) :
    PQ X (.Call (.Attribute o m apos) [] [] pos) (qMethF m n dd runs f aNil) := by
  obtain ⟨te, pe, k0⟩ := hp
  refine ⟨_, pe_mx0 pe hr takes0 ht, fun σ W ρ μ F S d hd Q q => methF_run (kq := aNil) (t := tNil) OM k0 (fun σ W ρ μ F S ds hd Q q => ?_) S hd q⟩
  cases hd
  exact q [] W [] (Ext.refl S.ok) ⟨rfl, rfl⟩
end
end Fw
/-! # more statements; tables -/
namespace Fw
open PySem PySem.Spec PyProof.Rows L2
open Evl (Ex)
section
variable {X : Cx} {Wx : WX} {e a b c o ep : Expr} {es : List Expr} {f g : FX} {p apos pos pos' tpos : Pos} {kq : FA} {kf : FXA} {x m : Str} {k n i : Nat} {q : List Str} {ok : OkT} {ob : List Nat} {qq : FQ}
/-! ### o.x += e, o.x -= e of whole numbers -/
def iAdd : D → D → Option D
  | .int a, .int b => some (.int (a + b))
  | _, _ => none
def iSub : D → D → Option D
  | .int a, .int b => some (.int (a - b))
  | _, _ => none
def xAug (ok : OkT) (i : Nat) (q : List Str) (x : Str) (op : D → D → Option D) (f : FQ) : FX := fun ρ μ => (ρ[i]?).bind fun r => (pget ok q r).bind fun t => (dFld ok x μ t).bind fun a => (f ρ μ).bind fun b => (op a b).map fun d => .ok d ρ μ
def fFldAug (ok : OkT) (i : Nat) (q : List Str) (x : Str) (op : D → D → Option D) (f : FQ) : FS := fFldX ok i q x (xAug ok i q x op f)
theorem ps1_fldaug {op : Operator} {o2 : D → D → Option D} {rd : V → V → Hp → VK → Prop} (T : CE X.K ok) (hop : InOp X op rd) (h2 : ∀ u v d (W : Wd), o2 u v = some d → ∃ z, fl d = true ∧ R X.K W d z [] ∧ ∀ u' v' F G, R X.K W u u' F → R X.K W v v' G → ∀ Q : VK, Q z W.H → rd u' v' W.H Q) (hp : PPath X ep i q) (he : PQ X e qq) :
    PS1 X ob Wx (.AugAssign (.Attribute ep x tpos) op e pos) (fFldAug ok i q x o2 qq) := by
  obtain ⟨tv, pv, kv⟩ := he
  obtain ⟨te, pe, k0⟩ := hp
  refine ⟨_, ps_fldaug pe pv hop, fun E σ W ρ μ F S o ho h => ?_⟩
  obtain ⟨o1, e1, ho⟩ := bind_some ho
  obtain ⟨r, e2, e1⟩ := bind_some e1
  obtain ⟨t, e3, e1⟩ := bind_some e1
  obtain ⟨a, e4, e1⟩ := bind_some e1
  obtain ⟨b, e5, e1⟩ := bind_some e1
  obtain ⟨d, e6, z⟩ := map_some e1
  subst z
  -- the field, read
  have rdq : ∀ (W1 : Wd) (S1 : Sta X.K W1 σ ρ μ F), ∃ u v ad C dx fs w G, σ[i]? = some (some u) ∧ rdp X.K W1.H u q v ∧ v = .ref ad ∧ W1.H ad = some (.ins C dx fs) ∧ Cls X.K C ∧ NoAttr X.K C x ∧ fs.lookup x = some w ∧ R X.K W1 a w G := by
    intro W1 S1
    obtain ⟨u, v, hu, hr, Fc, Sc, _, _⟩ := foc_sp T S1 e2 e3
    obtain ⟨G0, F0, r1, _, _⟩ := sta_tail Sc
    rw [R1_iff] at r1
    rcases r1 with ⟨z, _⟩ | ⟨v1, ev, r1⟩
    · have := (pget_ne e3).2
      rw [z] at this
      cases this
    injection ev with ev
    subst ev
    have main : ∀ (t : D) (G : List Addr) (u : V), R X.K W1 t u G → dFo ok x t = some a → ∃ ad C dx fs w G, u = .ref ad ∧ W1.H ad = some (.ins C dx fs) ∧ Cls X.K C ∧ NoAttr X.K C x ∧ fs.lookup x = some w ∧ R X.K W1 a w G := by
      intro t G u r he
      cases t with
      | obj c ns ds =>
        have he2 : (if ok c x = true then (fidx x ns).bind fun i => ds[i]? else none) = some a := he
        by_cases hk : ok c x = true
        case neg => rw [if_neg hk] at he2; cases he2
        rw [if_pos hk] at he2
        obtain ⟨j, h1, h2⟩ := bind_some he2
        obtain ⟨ad, dx, vs, F', rfl, hH, hn, hR, rfl⟩ := r
        obtain ⟨w, G1, q1, q2, _⟩ := RL_get hR h2
        obtain ⟨cl, na⟩ := T c x hk
        exact ⟨ad, _, dx, _, w, G1, rfl, hH, cl, na, by rw [fidx_lookup h1 (by rw [hn, RL_len hR])]; exact q1, q2⟩
      | fo c ns ds =>
        have he2 : (if ok c x = true then (fidx x ns).bind fun i => ds[i]? else none) = some a := he
        by_cases hk : ok c x = true
        case neg => rw [if_neg hk] at he2; cases he2
        rw [if_pos hk] at he2
        obtain ⟨j, h1, h2⟩ := bind_some he2
        obtain ⟨ad, dx, vs, rfl, hH, _, hn, hR, rfl⟩ := r
        obtain ⟨w, G1, q1, q2, _⟩ := RL_get hR h2
        obtain ⟨cl, na⟩ := T c x hk
        exact ⟨ad, _, dx, _, w, G1, rfl, hH, cl, na, by rw [fidx_lookup h1 (by rw [hn, RL_len hR])]; exact q1, q2⟩
      | _ => cases he
    cases t with
    | ref j =>
      obtain ⟨t2, e7, e8⟩ := bind_some (show (μ[j]?).bind (dFo ok x) = some a from e4)
      obtain ⟨ad, rfl, h3, _⟩ := r1
      obtain ⟨F1, F2, _, h4, _⟩ := S1.ex
      obtain ⟨ad', G', h5, h6, _⟩ := RL_map_get h4 e7
      rw [h3] at h5
      cases h5
      obtain ⟨ad2, C, dx, fs, w, G2, z1, z2⟩ := main t2 G' _ h6 e8
      exact ⟨u, _, ad2, C, dx, fs, w, G2, hu, hr, z1, z2⟩
    | _ =>
      obtain ⟨ad2, C, dx, fs, w, G2, z1, z2⟩ := main _ _ _ r1 e4
      exact ⟨u, _, ad2, C, dx, fs, w, G2, hu, hr, z1, z2⟩
  obtain ⟨u, v, ad, C, dx, fs, w, G, hu, hr, rfl, hH, cl, na, hl, rw_⟩ := rdq W S
  refine k0 σ W.H _ u _ hu hr ⟨ad, C, dx, fs, w, rfl, hH, cl, na, hl, ?_⟩
  refine kv σ W ρ μ F S b e5 _ fun y W1 G1 x1 r1 => ?_
  obtain ⟨z, hfl, rz, hrd⟩ := h2 a b d W1 e6
  refine hrd w y G G1 (R_ext x1 a rw_) r1 _ ?_
  have S1 := S.ext x1
  have run := fld_run (te := fun _ H Q => Q (.ref ad) H) (E := E) (F := F) (G := []) (x := x) (q := q) (ok := ok) (i := i) (d := d) (y := z) (ob := ob) (Wx := Wx) T (fun Q u' v' hu' hr' hQ => by
    rw [hu] at hu'
    cases hu'
    have ev : v' = .ref ad := rdp_det hr' (rdp_ex x1.ex hr)
    rw [ev] at hQ
    exact hQ) rz S1 S1.nd (fun _ hb => nomatch hb) x1.mvr h (by
      show ((ρ[i]?).bind fun r => (pget ok q r).bind _) = _
      exact ho)
  obtain ⟨a2, C2, dx2, fs2, ea, h3, _, _, h4, h5⟩ := run
  cases ea
  have e := h3
  rw [x1.ex _ _ hH] at e
  cases e
  exact ⟨_, _, h3, h4, h5⟩
theorem aug_add (W : Wd) (u v d : D) (h : iAdd u v = some d) : ∃ z, fl d = true ∧ R X.K W d z [] ∧ ∀ u' v' F G, R X.K W u u' F → R X.K W v v' G → ∀ Q : VK, Q z W.H → rAdd u' v' W.H Q := by
  cases u with
  | int a =>
    cases v with
    | int b =>
      cases h
      refine ⟨.int (a + b), rfl, ⟨rfl, rfl⟩, fun u' v' F G r1 r2 Q hQ => ?_⟩
      obtain ⟨rfl, _⟩ := r1
      obtain ⟨rfl, _⟩ := r2
      exact ⟨a, b, rfl, rfl, hQ⟩
    | _ => cases h
  | _ => cases h
theorem aug_sub (W : Wd) (u v d : D) (h : iSub u v = some d) : ∃ z, fl d = true ∧ R X.K W d z [] ∧ ∀ u' v' F G, R X.K W u u' F → R X.K W v v' G → ∀ Q : VK, Q z W.H → rSub u' v' W.H Q := by
  cases u with
  | int a =>
    cases v with
    | int b =>
      cases h
      refine ⟨.int (a - b), rfl, ⟨rfl, rfl⟩, fun u' v' F G r1 r2 Q hQ => ?_⟩
      obtain ⟨rfl, _⟩ := r1
      obtain ⟨rfl, _⟩ := r2
      exact ⟨a, b, rfl, rfl, hQ⟩
    | _ => cases h
  | _ => cases h
theorem ps1_fldadd (T : CE X.K ok) (hp : PPath X ep i q) (he : PQ X e qq) : PS1 X ob Wx (.AugAssign (.Attribute ep x tpos) .Add e pos) (fFldAug ok i q x iAdd qq) := ps1_fldaug T in_add (fun u v d W h => aug_add W u v d h) hp he
theorem ps1_fldsub (T : CE X.K ok) (hp : PPath X ep i q) (he : PQ X e qq) : PS1 X ob Wx (.AugAssign (.Attribute ep x tpos) .Sub e pos) (fFldAug ok i q x iSub qq) := ps1_fldaug T in_sub (fun u v d W h => aug_sub W u v d h) hp he
/-! ### o.xs.append(e) -/
def fAppF (ok : OkT) (i : Nat) (q : List Str) (f : FQ) : FS := fun ρ μ => (ρ[i]?).bind fun r => (pget ok q r).bind fun t => match t with
  | .ml ds => (f ρ μ).bind fun d => if data d = true ∧ ds.length ≤ LIM then (pput q r (.ml (ds ++ [d]))).map fun r' => .nx (ρ.set i r') μ else none
  | _ => none
theorem ps1_appF (T : CE X.K ok) (hp : PPath X ep i q) (hcall : ∀ (to te : TE), PE X ep to → PE X e te → PE X (.Call (.Attribute ep "append" apos) [e] [] p) (tBM X.K "list" rAppend to (tCons te tNil))) (he : PQ X e qq)
    (hsw : swapsWith (.Call (.Attribute ep "append" apos) [e] [] p) none pos.line X.env = pure false := by rfl) : PS1 X ob Wx (.Expr (.Call (.Attribute ep "append" apos) [e] [] p) pos) (fAppF ok i q qq) := by
  obtain ⟨te, pe, kv⟩ := he
  obtain ⟨to, po, k0⟩ := hp
  refine ⟨_, ps_expr (hcall to te po pe) hsw, fun E σ W ρ μ F S o ho h => ?_⟩
  obtain ⟨r, e2, ho⟩ := bind_some ho
  obtain ⟨t, e3, ho⟩ := bind_some ho
  cases t with
  | ml ds =>
    obtain ⟨d, e1, ho⟩ := bind_some (show (qq ρ μ).bind (fun d => if data d = true ∧ ds.length ≤ LIM then (pput q r (.ml (ds ++ [d]))).map fun r' => SO.nx (ρ.set i r') μ else none) = some o from ho)
    by_cases hd : data d = true ∧ ds.length ≤ LIM
    case neg => rw [if_neg hd] at ho; cases ho
    rw [if_pos hd] at ho
    obtain ⟨r', e4, z⟩ := map_some ho
    subst z
    obtain ⟨u, v, hu, hr, Fc, Sc, _, _⟩ := foc_sp T S e2 e3
    obtain ⟨G0, F0, r1, _, _⟩ := sta_tail Sc
    rw [R1_iff] at r1
    rcases r1 with ⟨z, _⟩ | ⟨v1, ev, r1⟩
    · cases z
    injection ev with ev
    subst ev
    obtain ⟨ad, vs, F', rfl, h2, h3, hB⟩ := r1
    refine k0 σ W.H _ u _ hu hr ⟨.inl ⟨rfl, vs, Evl.sq_of h2⟩, ?_⟩
    refine kv σ W ρ μ F S d e1 _ fun y W1 G x1 r1 => ?_
    have z := R_data d hd.1 r1
    subst z
    have S1 := S.ext x1
    obtain ⟨u', v', hu', hr', Fc, Sc, subc, put⟩ := foc_sp T S1 e2 e3
    rw [hu] at hu'
    cases hu'
    have ev : v' = .ref ad := rdp_det hr' (rdp_ex x1.ex hr)
    subst ev
    obtain ⟨G0, F0, r2, S0, eF⟩ := sta_tail Sc
    rw [R1_iff] at r2
    rcases r2 with ⟨z, _⟩ | ⟨v1, ev, r2⟩
    · cases z
    injection ev with ev
    subst ev
    obtain ⟨a2, vs2, F2, ea, h4, h5, hB2⟩ := r2
    cases ea
    rw [x1.ex _ _ h2] at h4
    cases h4
    subst hB2
    have lv : vs.length = ds.length := RL_len h5
    obtain ⟨⟨F3, F4, p1, p2, p3⟩, nd3, own3, ok3⟩ := S0
    obtain ⟨_, rfl⟩ := p1
    have e6 : F0 = F4 := p3
    subst e6
    have ndFc := Sc.nd
    rw [eF] at ndFc
    have ndO := List.nodup_append.mp ndFc
    have nd2 := List.nodup_cons.mp ndO.1
    have ha : Own W1 ad := S1.own ad (subc ad (by rw [eF]; exact List.mem_append_left _ (List.mem_cons_self ..)))
    have lt : Lt W1 ⟨upd W1.H ad (.lst (vs ++ [y])), W1.Fr, W1.m⟩ := Lt.upd_lst (x1.ex _ _ h2) ha.1
    have off : ∀ b, b ≠ ad → (⟨upd W1.H ad (.lst (vs ++ [y])), W1.Fr, W1.m⟩ : Wd).H b = W1.H b := fun b hb => upd_ne hb
    have naF : ad ∉ F0 := fun z => ndO.2.2 ad (List.mem_cons_self ..) ad z rfl
    have rn : R X.K ⟨upd W1.H ad (.lst (vs ++ [y])), W1.Fr, W1.m⟩ (.ml (ds ++ [d])) (.ref ad) (ad :: F2) := ⟨ad, vs ++ [y], F2, rfl, upd_same, by
      have k1 : RL X.K ⟨upd W1.H ad (.lst (vs ++ [y])), W1.Fr, W1.m⟩ ds vs F2 := RL_keep lt ds (fun b hb => off b fun z => nd2.1 (z ▸ hb)) h5
      have k2 : RL X.K ⟨upd W1.H ad (.lst (vs ++ [y])), W1.Fr, W1.m⟩ [d] [y] [] := ⟨y, [], [], [], rfl, R_lt lt d r1, ⟨rfl, rfl⟩, rfl⟩
      have z := RL_app k1 k2
      rw [List.append_nil] at z
      exact z, rfl⟩
    have hst : RL X.K ⟨upd W1.H ad (.lst (vs ++ [y])), W1.Fr, W1.m⟩ μ (W1.m.map V.ref) F0 := RL_keep lt μ (fun b hb => off b fun z => naF (z ▸ hb)) p2
    obtain ⟨F9, S9, _, mv9⟩ := put ⟨upd W1.H ad (.lst (vs ++ [y])), W1.Fr, W1.m⟩ [.ml (ds ++ [d])] μ ((ad :: F2) ++ F0) [] [] _ (by
        show (pput q r (.ml (ds ++ [d]))).map (fun d' => ρ.set i d') = some (ρ.set i r')
        rw [e4]
        rfl) ⟨⟨ad :: F2, F0, ⟨some (.ref ad), [], ad :: F2, [], rfl, R1_of rn, ⟨rfl, rfl⟩, (List.append_nil _).symm⟩, hst, rfl⟩, ndFc, fun b hb => by
          have hb1 := Sc.own b (by rw [eF]; exact hb)
          refine ⟨hb1.1, ?_⟩
          show (∃ xs, upd W1.H ad _ b = _) ∨ ∃ C dx fs, upd W1.H ad _ b = _
          by_cases z : b = ad
          · rw [z, upd_same]
            exact .inl ⟨_, rfl⟩
          · rw [upd_ne z]
            exact hb1.2, fun b hb => by
          show upd W1.H ad _ b ≠ none
          by_cases z : b = ad
          · rw [z, upd_same]
            exact fun z => nomatch z
          · rw [upd_ne z]
            exact x1.ok b hb⟩ ndFc (fun _ hb => nomatch hb) (fun _ hb => nomatch hb) ⟨fun b o hb nb => by
        show upd W1.H ad _ b = some o
        rw [upd_ne fun z => nb (by rw [z, eF]; exact List.mem_append_right _ (List.mem_append_left _ (List.mem_cons_self ..)))]
        exact hb, fun _ h => h, fun _ h => .inl h, fun b hb => .inl (by rw [eF]; exact hb), ⟨[], (List.append_nil _).symm⟩⟩
    exact ⟨ad, vs, y, rfl, rfl, x1.ex _ _ h2, lim_lt (by omega), h σ _ F9 S9 (x1.mvr.trans mv9) Kept.refl⟩
  | _ => cases ho
/-! ### list(e) -/
def qListOf (f : FQ) : FA := fun ρ μ => (f ρ μ).bind fun d => (seqD d).bind fun ds => if dataL ds = true then some ds else none
theorem pn_list {px : Pos} (he : PQ X e qq) (hm : X.mg "list" = none) (hg : Gl X "list" := by rfl) (hv : bootBuiltins "list" = some (.type "list") := by decide +kernel) (hs : starEach [e] X.env = (false, eval e X.env) :: starEach [] X.env := by rfl) (hpl : (backTo pos (starEach [] X.env)).any (·.1) = false := by rfl) :
    PN X (.Call (.Name "list" px) [e] [] pos) (qListOf qq) := by
  obtain ⟨te, pe, kv⟩ := he
  refine ⟨_, pe_callTy call_list_of hg hm hv (pa_cons pe pa_nil hs) (by decide) (by decide) hs hpl, fun σ W ρ μ F S ds hd Q q => ?_⟩
  obtain ⟨d, e1, hd⟩ := bind_some hd
  obtain ⟨es, e2, hd⟩ := bind_some hd
  by_cases hl : dataL es = true
  case neg => rw [if_neg hl] at hd; cases hd
  rw [if_pos hl] at hd
  cases hd
  refine kv σ W ρ μ F S d e1 _ fun y W1 G x1 r1 => ?_
  obtain ⟨a, vs, G', rfl, h2, h3⟩ := R_seq e2 r1
  have z := RL_data _ hl h3
  subst z
  refine ⟨a, vs, rfl, h2, fun l hl2 => ?_⟩
  have x2 : Ext W1 (W1.put l (.lst vs)) := Ext.put x1.ok hl2
  exact q l (W1.put l (.lst vs)) ⟨x1.trans x2, Evl.fresh_back x1.ex hl2, fun z => x1.ok l z hl2, vs, upd_same, RL_ext x2 _ h3⟩
end
/-! ### tables -/
def okT (L : List (Str × Str)) : OkT := fun c x => L.any fun p => decide (p.1 = c ∧ p.2 = x)
theorem ce_of {K : PySem.W.Frag} {L : List (Str × Str)} (h : ∀ p ∈ L, Cls K (He.ga K p.1) ∧ NoAttr K (He.ga K p.1) p.2) : CE K (okT L) := fun c x hk => by
  obtain ⟨p, hp, h2⟩ := List.any_eq_true.mp hk
  obtain ⟨rfl, rfl⟩ := of_decide_eq_true h2
  exact h p hp
section
variable {P : Program} {w : World} {K : PySem.W.Frag} {mg : Str → Option Value} {base : Heap} {x c m : Str} {j k n : Nat} {dd : List D}
theorem OkQ.mono {run : List D → Option D} (h : OkQ P w K mg base x j n dd run) (hk : j ≤ k) : OkQ P w K mg base x k n dd run := by
  obtain ⟨f, fd, ps, dvs, us, a1, a2⟩ := h
  exact ⟨f, fd, ps, dvs, us, a1.mono hk, a2⟩
theorem OkX.mono {run : RX} (h : OkX P w K mg base x j n dd run) (hk : j ≤ k) : OkX P w K mg base x k n dd run := by
  obtain ⟨f, fd, ps, dvs, us, a1, a2⟩ := h
  exact ⟨f, fd, ps, dvs, us, a1.mono hk, a2⟩
theorem OkM.mono {run : RX} (h : OkM P w K mg base c m j n dd run) (hk : j ≤ k) : OkM P w K mg base c m k n dd run := by
  obtain ⟨f, fd, ps, dvs, us, a1, a2⟩ := h
  exact ⟨f, fd, ps, dvs, us, a1.mono hk, a2⟩
theorem OkK.mono {run : RX} (h : OkK P w K mg base c j n dd run) (hk : j ≤ k) : OkK P w K mg base c k n dd run := by
  obtain ⟨f, fd, ps, dvs, us, a1, a2⟩ := h
  exact ⟨f, fd, ps, dvs, us, a1.mono hk, a2⟩
theorem OkF.mono {run : RF} (h : OkF P w K mg base x j n dd run) (hk : j ≤ k) : OkF P w K mg base x k n dd run := by
  obtain ⟨f, fd, ps, dvs, us, a1, a2⟩ := h
  exact ⟨f, fd, ps, dvs, us, a1.mono hk, a2⟩
theorem OkFM.mono {run : RF} (h : OkFM P w K mg base c m j n dd run) (hk : j ≤ k) : OkFM P w K mg base c m k n dd run := by
  obtain ⟨f, fd, ps, dvs, us, a1, a2⟩ := h
  exact ⟨f, fd, ps, dvs, us, a1.mono hk, a2⟩
end
/-- a table by the class's name -/
def tbl {α : Type} (L : List (Str × α)) : Str → Option α := fun c => match L with
  | [] => none
  | (d, a) :: L => if d = c then some a else tbl L c
theorem tbl_ok {α : Type} {p : Str → α → Prop} : ∀ {L : List (Str × α)}, (∀ z ∈ L, p z.1 z.2) → ∀ c a, tbl L c = some a → p c a
  | [], _, c, a, h => by cases h
  | (d, b) :: L, hp, c, a, h => by
    have h2 : (if d = c then some b else tbl L c) = some a := h
    by_cases e : d = c
    · rw [if_pos e] at h2
      cases h2
      exact e ▸ hp _ (List.mem_cons_self ..)
    · rw [if_neg e] at h2
      exact tbl_ok (fun z hz => hp z (List.mem_cons_of_mem _ hz)) c a h2
end Fw
/-! # the law that looks; quiet defs within what changes; reckoning -/
namespace Fw
open PySem PySem.Spec PyProof.Rows L2
open Evl (Ex)
theorem hob_of {ks : List Bool} {ob : List Nat} (h : ((List.range ks.length).all fun i => !(ks.getD i false) || ob.contains i) = true) : ∀ i : Nat, ks[i]? = some true → i ∈ ob := fun i hi => by
  have hl := (List.getElem?_eq_some_iff.mp hi).1
  have := List.all_eq_true.mp h i (List.mem_range.mpr hl)
  rw [List.getD_eq_getElem?_getD, hi] at this
  simpa using this
theorem law_spF {K : PySem.W.Frag} {run : RF} {H : Hp} {a : Addr} {ns : List Int} {E : XK} (hS : SqL K H a (ns.map V.int)) (hr : run [.lst (ns.map D.int)] [] = some (.bl true)) : spF K 1 run [.ref a] H (fun v _ => v = .bl true) E := by
  have rl : ∀ (W : Wd) (l : List Int), RL K W (l.map D.int) (l.map V.int) [] := fun W l => by
    induction l with
    | nil => exact ⟨rfl, rfl⟩
    | cons i l ih => exact rl_int ih
  refine ⟨⟨H, fun b => H b ≠ none, []⟩, [.lst (ns.map D.int)], [], .bl true, rfl, fun b h => h, ⟨.ref a, [], [], [], rfl, ⟨a, _, rfl, ?_, rl _ ns, rfl⟩, ⟨rfl, rfl⟩, rfl⟩, ⟨rfl, rfl⟩, rfl, hr, fun v W' G r _ _ _ => r.1⟩
  rcases hS with h | h
  · refine .inl ⟨h, ?_⟩
    rcases h with h | ⟨o, h⟩
    · show H a ≠ none
      rw [h]
      exact fun z => nomatch z
    · show H a ≠ none
      rw [h]
      exact fun z => nomatch z
  · exact .inr (.inr h)
section
variable {X : Cx} {Wx : WX} {e a b c o : Expr} {es : List Expr} {f g : FX} {p apos pos : Pos} {kf : FXA} {x m : Str} {k n i : Nat} {dd : List D} {ob : List Nat}
def xPB (t : FB) : FX := fun ρ μ => (t ρ μ).map fun b => .ok (.bl b) ρ μ
theorem ptx_b {t : FB} (h : PB X a t) : PTX X Wx a (xPB t) := ptx_q h
theorem ps1_setTX {tg : Expr} {vs : List Nat} {gt : D → List D → Option (List D)} (he : PX X Wx e g) (hg : PGD X tg vs gt) (hs : swapsWithSole [tg] e pos.line X.env = pure false := by rfl) (hw : swappedStores [tg] e X.env = pure none := by rfl)
    (h1 : (assignEach [tg] X.env).map (·.2) = [assign tg X.env] := by rfl) (hv : ∀ i ∈ ob, i ∉ vs := by decide) : PS1 X ob Wx (.Assign [tg] e pos) (fSetTX gt g) := by
  obtain ⟨te, p, k⟩ := he
  obtain ⟨tgt, p1, k1⟩ := hg
  refine ⟨_, ps_asg p p1 hs hw h1, fun E σ W ρ μ F S o ho h => ?_⟩
  refine runS_bind k S ho h fun d v W1 G ρ1 μ1 F1 r S1 nd own mv hk => ?_
  by_cases hd : data d = true
  case neg => rw [if_neg hd] at hk; cases hk
  rw [if_pos hd] at hk
  obtain ⟨ρ', e2, z⟩ := map_some hk
  subst z
  have z := R_data d hd r
  subst z
  exact k1 σ W1 ρ1 μ1 F1 d v S1 r ρ' e2 _ fun σ' F' S' sub hw => h σ' W1 F' S' (mv.sub (fun _ h => h) fun a ha => sub a ha) (Kept.of_wipe hw hv)
/-- a quiet def, the arguments of any sort -/
def xRunQ (n : Nat) (dd : List D) (run : List D → Option D) (k : FXA) : FX := xA k fun ds ρ μ => if dataL ds = true ∧ (ds ++ dd).length = n then (run (ds ++ dd)).bind fun d => if data d = true then some (.ok d ρ μ) else none else none
theorem px_callQ {run : List D → Option D} (O : OkQ X.prog X.w X.K X.mg X.base x k n dd run) (hr : Room k X.A) (ha : PAX X Wx (e :: es) kf) (hg : Gl X x := by rfl) (hdb : (x == ("__debug__" : Str)) = false := by decide)
    (he : starEach (e :: es) X.env = (false, eval e X.env) :: starEach es X.env := by rfl) (hpl : (backTo pos (starEach es X.env)).any (·.1) = false := by rfl) : PX X Wx (.Call (.Name x p) (e :: es) [] pos) (xRunQ n dd run kf) := by
  obtain ⟨f, fd, ps, dvs, us, hF, hb, hv, hdd, hdt, hm, hk⟩ := O
  obtain ⟨t, pt, k1⟩ := ha
  refine ⟨_, pe_call hF hr hg hm hk hb hv passL pt hdb he hpl, fun σ W ρ μ F S o ho Q hQ => ?_⟩
  refine runA_bind k1 S ho hQ fun ds vs W1 ρ1 μ1 F1 r S1 mv ho1 => ?_
  by_cases hl : dataL ds = true ∧ (ds ++ dd).length = n
  case neg => rw [if_neg hl] at ho1; cases ho1
  rw [if_pos hl] at ho1
  obtain ⟨d', e2, ho1⟩ := bind_some ho1
  by_cases hd : data d' = true
  case neg => rw [if_neg hd] at ho1; cases ho1
  rw [if_pos hd] at ho1
  cases ho1
  exact call_back hl.1 hdt S1.ok (RL_app r (hdd W1)) hl.2 e2 hd fun v W2 x2 r2 => hQ v W2 [] F1 r2 (S1.ext x2) S1.nd (fun _ hb => nomatch hb) (mv.trans x2.mvr)
end
/-! ### reckoning -/
section
variable {x0 : D} {ρ μ : List D}
def eB (o : Option EO) (k : D → FX) : Option EO := match o with
  | some (.ok d ρ' μ') => if fl d = true then k d ρ' μ' else none
  | some (.ex c fs ρ' μ') => some (.ex c fs ρ' μ')
  | none => none
theorem xB_eq (f : FX) (k : D → FX) : xB f k (x0 :: ρ) μ = eB (f (x0 :: ρ) μ) k := by
  unfold xB eB
  cases f (x0 :: ρ) μ with
  | none => rfl
  | some o => cases o <;> rfl
theorem eB_ok (d : D) (ρ' μ' : List D) (k : D → FX) : eB (some (.ok d ρ' μ')) k = if fl d = true then k d ρ' μ' else none := rfl
theorem eB_ex (c : Str) (fs : List (Str × D)) (ρ' μ' : List D) (k : D → FX) : eB (some (.ex c fs ρ' μ')) k = some (.ex c fs ρ' μ') := rfl
def eT (o : Option EO) (k : Bool → FX) : Option EO := match o with
  | some (.ok d ρ' μ') => (match d with
    | .bl b => k b ρ' μ'
    | _ => none)
  | some (.ex c fs ρ' μ') => some (.ex c fs ρ' μ')
  | none => none
theorem xT_eq (f : FX) (k : Bool → FX) : xT f k (x0 :: ρ) μ = eT (f (x0 :: ρ) μ) k := by
  unfold xT eT
  cases f (x0 :: ρ) μ with
  | none => rfl
  | some o => cases o <;> rfl
theorem eT_bl (b : Bool) (ρ' μ' : List D) (k : Bool → FX) : eT (some (.ok (.bl b) ρ' μ')) k = k b ρ' μ' := rfl
theorem eT_ex (c : Str) (fs : List (Str × D)) (ρ' μ' : List D) (k : Bool → FX) : eT (some (.ex c fs ρ' μ')) k = some (.ex c fs ρ' μ') := rfl
def eS (o : Option EO) (k : D → FS) : Option SO := match o with
  | some (.ok d ρ' μ') => k d ρ' μ'
  | some (.ex c fs ρ' μ') => some (.ex c fs ρ' μ')
  | none => none
theorem xS_eq (f : FX) (k : D → FS) : xS f k (x0 :: ρ) μ = eS (f (x0 :: ρ) μ) k := by
  unfold xS eS
  cases f (x0 :: ρ) μ with
  | none => rfl
  | some o => cases o <;> rfl
theorem eS_ok (d : D) (ρ' μ' : List D) (k : D → FS) : eS (some (.ok d ρ' μ')) k = k d ρ' μ' := rfl
theorem eS_ex (c : Str) (fs : List (Str × D)) (ρ' μ' : List D) (k : D → FS) : eS (some (.ex c fs ρ' μ')) k = some (.ex c fs ρ' μ') := rfl
theorem xQ_eq (q : FQ) : xQ q (x0 :: ρ) μ = (q (x0 :: ρ) μ).bind fun d => if fl d = true then some (.ok d (x0 :: ρ) μ) else none := rfl
theorem xN_eq (k : FA) : xN k (x0 :: ρ) μ = (k (x0 :: ρ) μ).map fun ds => .ok (.ml ds) (x0 :: ρ) μ := rfl
theorem xMove_eq (i : Nat) : xMove i (x0 :: ρ) μ = ((x0 :: ρ)[i]?).bind fun d => if isUn d = true then none else some (.ok d ((x0 :: ρ).set i .un) μ) := rfl
theorem xOp_eq (o : D → D → Option D) (f g : FX) : xOp o f g (x0 :: ρ) μ = eB (f (x0 :: ρ) μ) fun x => xB g fun y => fun ρ μ => (o x y).bind fun d => if data d = true then some (.ok d ρ μ) else none := xB_eq _ _
theorem xNot_eq (f : FX) : xNot f (x0 :: ρ) μ = eT (f (x0 :: ρ) μ) fun b ρ μ => some (.ok (.bl (!b)) ρ μ) := xT_eq _ _
theorem xAnd_eq (f g : FX) : xAnd f g (x0 :: ρ) μ = eT (f (x0 :: ρ) μ) fun b ρ μ => if b = true then g ρ μ else some (.ok (.bl false) ρ μ) := xT_eq _ _
theorem xOr_eq (f g : FX) : xOr f g (x0 :: ρ) μ = eT (f (x0 :: ρ) μ) fun b ρ μ => if b = true then some (.ok (.bl true) ρ μ) else g ρ μ := xT_eq _ _
theorem xPB_eq (t : FB) : xPB t (x0 :: ρ) μ = (t (x0 :: ρ) μ).map fun b => .ok (.bl b) (x0 :: ρ) μ := rfl
theorem xIsi_eq (T : String) (f : FX) : xIsi T f (x0 :: ρ) μ = eB (f (x0 :: ρ) μ) fun d ρ μ => (tyN d).bind fun n => (kitB n T).map fun b => .ok (.bl b) ρ μ := xB_eq _ _
def aB (o : Option AO) (k : List AV → List D → List D → Option EO) : Option EO := match o with
  | some (.ok as ρ' μ') => k as ρ' μ'
  | some (.ex c fs ρ' μ') => some (.ex c fs ρ' μ')
  | none => none
theorem aB_ok (as : List AV) (ρ' μ' : List D) (k : List AV → List D → List D → Option EO) : aB (some (.ok as ρ' μ')) k = k as ρ' μ' := rfl
theorem aB_ex (c : Str) (fs : List (Str × D)) (ρ' μ' : List D) (k : List AV → List D → List D → Option EO) : aB (some (.ex c fs ρ' μ')) k = some (.ex c fs ρ' μ') := rfl
theorem xA_eq (k : FXA) (g : List D → FX) : xA k g (x0 :: ρ) μ = aB (k (x0 :: ρ) μ) fun as ρ1 μ1 => (avals as).bind fun ds => g ds ρ1 μ1 := by
  unfold xA aB
  cases k (x0 :: ρ) μ with
  | none => rfl
  | some o => cases o <;> rfl
theorem xaNil_eq : xaNil (x0 :: ρ) μ = some (.ok [] (x0 :: ρ) μ) := rfl
def eA (o : Option EO) (k : D → List D → List D → Option AO) : Option AO := match o with
  | some (.ok d ρ' μ') => k d ρ' μ'
  | some (.ex c fs ρ' μ') => some (.ex c fs ρ' μ')
  | none => none
theorem eA_ok (d : D) (ρ' μ' : List D) (k : D → List D → List D → Option AO) : eA (some (.ok d ρ' μ')) k = k d ρ' μ' := rfl
theorem eA_ex (c : Str) (fs : List (Str × D)) (ρ' μ' : List D) (k : D → List D → List D → Option AO) : eA (some (.ex c fs ρ' μ')) k = some (.ex c fs ρ' μ') := rfl
theorem xaCons_eq (f : FX) (k : FXA) : xaCons f k (x0 :: ρ) μ = eA (f (x0 :: ρ) μ) fun d ρ1 μ1 => if fl d = true then aoCons (.val d) (k ρ1 μ1) else none := by
  unfold xaCons eA
  cases f (x0 :: ρ) μ with
  | none => rfl
  | some o => cases o <;> rfl
theorem aoCons_ok (a : AV) (as : List AV) (ρ μ : List D) : aoCons a (some (.ok as ρ μ)) = some (.ok (a :: as) ρ μ) := rfl
theorem aoCons_ex (a : AV) (c : Str) (fs : List (Str × D)) (ρ μ : List D) : aoCons a (some (.ex c fs ρ μ)) = some (.ex c fs ρ μ) := rfl
theorem xaSlot_eq (j : Nat) (k : FXA) : xaSlot j k (x0 :: ρ) μ = ((x0 :: ρ)[j]?).bind fun d => if isUn d = true then none else aoCons (.slot j) (k (x0 :: ρ) μ) := rfl
theorem avals_nil : avals [] = some [] := rfl
theorem avals_val (d : D) (as : List AV) : avals (.val d :: as) = (avals as).map fun ds => d :: ds := rfl
theorem xTup_eq (k : FXA) : xTup k (x0 :: ρ) μ = aB (k (x0 :: ρ) μ) fun as ρ1 μ1 => (avals as).bind fun ds => if ds.length ≤ 100 ∧ dataL ds = true then some (.ok (.tup ds) ρ1 μ1) else none := xA_eq _ _
theorem xCall_eq (o : List D → Option D) (k : FXA) : xCall o k (x0 :: ρ) μ = aB (k (x0 :: ρ) μ) fun as ρ1 μ1 => (avals as).bind fun ds => (o ds).bind fun d => if data d = true then some (.ok d ρ1 μ1) else none := xA_eq _ _
theorem xRunQ_eq (n : Nat) (dd : List D) (run : List D → Option D) (k : FXA) : xRunQ n dd run k (x0 :: ρ) μ = aB (k (x0 :: ρ) μ) fun as ρ1 μ1 => (avals as).bind fun ds => if dataL ds = true ∧ (ds ++ dd).length = n then (run (ds ++ dd)).bind fun d => if data d = true then some (.ok d ρ1 μ1) else none else none := xA_eq _ _
theorem xRun_eq (n : Nat) (dd : List D) (run : RX) (k : FXA) : xRun n dd run k (x0 :: ρ) μ = aB (k (x0 :: ρ) μ) fun as ρ1 μ1 => (mo as ρ1).bind fun z => if (z.1 ++ dd).length = n then (run (z.1 ++ dd) μ1).bind (xPut fun ys => mi as z.2 (ys.take z.1.length)) else none := by
  unfold xRun aB
  cases k (x0 :: ρ) μ with
  | none => rfl
  | some o => cases o <;> rfl
theorem xPut_ok (put : List D → Option (List D)) (d : D) (ds μ : List D) : xPut put (.ok d ds μ) = (put ds).map fun ρ' => .ok d ρ' μ := rfl
theorem xPut_ex (put : List D → Option (List D)) (c : Str) (fs : List (Str × D)) (ds μ : List D) : xPut put (.ex c fs ds μ) = (put ds).map fun ρ' => .ex c fs ρ' μ := rfl
theorem mo_nil : mo [] ρ = some ([], ρ) := rfl
theorem mo_val (d : D) (as : List AV) : mo (.val d :: as) ρ = (mo as ρ).map fun z => (d :: z.1, z.2) := rfl
theorem mo_slot (j : Nat) (as : List AV) : mo (.slot j :: as) ρ = (mo as ρ).bind fun z => (z.2[j]?).bind fun d => if isUn d = true then none else some (d :: z.1, z.2.set j .un) := rfl
theorem mi_nil : mi [] ρ [] = some ρ := by unfold mi; rfl
theorem mi_val (d d' : D) (as : List AV) (ds : List D) : mi (.val d :: as) ρ (d' :: ds) = mi as ρ ds := by rw [mi]
theorem mi_slot (j : Nat) (d' : D) (as : List AV) (ds : List D) : mi (.slot j :: as) ρ (d' :: ds) = mi as (ρ.set j d') ds := by rw [mi]
/-- methods of a slot -/
def mSK (i : Nat) (m : Str) (n : Nat) (dd : List D) (runs : MT) (o : Option AO) (t : Option D) : Option EO := match t with
  | some (.obj c ns _) => if fidx m ns = none then (runs c).bind fun run => aB o fun as ρ1 μ1 => (mo (.slot i :: as) ρ1).bind fun z => if (z.1 ++ dd).length = n then (run (z.1 ++ dd) μ1).bind (xPut fun ys => mi (.slot i :: as) z.2 (ys.take z.1.length)) else none else none
  | _ => none
theorem xMethS_eq (i : Nat) (m : Str) (n : Nat) (dd : List D) (runs : MT) (k : FXA) : xMethS i m n dd runs k (x0 :: ρ) μ = mSK i m n dd runs (k (x0 :: ρ) μ) ((x0 :: ρ)[i]?) := by
  unfold xMethS mSK
  cases (x0 :: ρ)[i]? with
  | none => rfl
  | some t =>
    cases t with
    | obj c ns ds =>
      show (if fidx m ns = none then _ else none) = (if fidx m ns = none then _ else none)
      by_cases h : fidx m ns = none
      · rw [if_pos h, if_pos h]
        cases runs c with
        | none => rfl
        | some run =>
          unfold aB
          cases k (x0 :: ρ) μ with
          | none => rfl
          | some o => cases o <;> rfl
      · rw [if_neg h, if_neg h]
    | _ => rfl
theorem mSK_obj (i : Nat) (m : Str) (n : Nat) (dd : List D) (runs : MT) (o : Option AO) (c : Str) (ns : List Str) (ds : List D) : mSK i m n dd runs o (some (.obj c ns ds)) = if fidx m ns = none then (runs c).bind fun run => aB o fun as ρ1 μ1 => (mo (.slot i :: as) ρ1).bind fun z => if (z.1 ++ dd).length = n then (run (z.1 ++ dd) μ1).bind (xPut fun ys => mi (.slot i :: as) z.2 (ys.take z.1.length)) else none else none := rfl
/-- methods by a path -/
def mQK (q : List Str) (m : Str) (n : Nat) (dd : List D) (runs : MT) (ρ μ : List D) (i : Nat) (r : D) (o : Option (List D)) (t : Option D) : Option EO := match t with
  | some (.obj c ns ds) => if fidx m ns = none then (runs c).bind fun run => o.bind fun as => if flL as = true ∧ (D.obj c ns ds :: (as ++ dd)).length = n then (run (D.obj c ns ds :: (as ++ dd)) μ).bind (xPut fun ys => (put1 fun t' => (pput q r t').map fun r' => ρ.set i r') (ys.take 1)) else none else none
  | some (.ref j) => (match μ[j]? with
    | some (.obj c ns _) => if fidx m ns = none then (runs c).bind fun run => o.bind fun as => if flL as = true ∧ (D.ref j :: (as ++ dd)).length = n then (run (D.ref j :: (as ++ dd)) μ).bind (xPut fun ys => some ρ) else none else none
    | _ => none)
  | _ => none
theorem xMethQ_eq (ok : OkT) (i : Nat) (q : List Str) (m : Str) (n : Nat) (dd : List D) (runs : MT) (k : FA) : xMethQ ok i q m n dd runs k (x0 :: ρ) μ = ((x0 :: ρ)[i]?).bind fun r => mQK q m n dd runs (x0 :: ρ) μ i r (k (x0 :: ρ) μ) (pget ok q r) := by
  unfold xMethQ mQK
  cases (x0 :: ρ)[i]? with
  | none => rfl
  | some r =>
    simp only [Option.bind_some]
    generalize pget ok q r = t
    cases t with
    | none => rfl
    | some t => cases t <;> rfl
theorem mQK_obj (q : List Str) (m : Str) (n : Nat) (dd : List D) (runs : MT) (ρ μ : List D) (i : Nat) (r : D) (o : Option (List D)) (c : Str) (ns : List Str) (ds : List D) : mQK q m n dd runs ρ μ i r o (some (.obj c ns ds)) = if fidx m ns = none then (runs c).bind fun run => o.bind fun as => if flL as = true ∧ (D.obj c ns ds :: (as ++ dd)).length = n then (run (D.obj c ns ds :: (as ++ dd)) μ).bind (xPut fun ys => (put1 fun t' => (pput q r t').map fun r' => ρ.set i r') (ys.take 1)) else none else none := rfl
theorem put1_one (g : D → Option (List D)) (d : D) : put1 g [d] = g d := rfl
theorem pget_nil (ok : OkT) (d : D) : pget ok [] d = if isUn d = true then none else some d := by rw [pget]
theorem pget_cons (ok : OkT) (x : Str) (p : List Str) (c : Str) (ns : List Str) (ds : List D) : pget ok (x :: p) (.obj c ns ds) = if ok c x = true then (fidx x ns).bind fun i => (ds[i]?).bind (pget ok p) else none := by rw [pget]
theorem pput_nil (d e : D) : pput [] d e = if isUn e = true then none else some e := by rw [pput]
theorem pput_cons (x : Str) (p : List Str) (c : Str) (ns : List Str) (ds : List D) (e : D) : pput (x :: p) (.obj c ns ds) e = (fidx x ns).bind fun i => (ds[i]?).bind fun d => (pput p d e).map fun d' => .obj c ns (ds.set i d') := by rw [pput]
theorem qFld_eq (ok : OkT) (x : Str) (f : FQ) : qFld ok x f (x0 :: ρ) μ = (f (x0 :: ρ) μ).bind (dFld ok x μ) := rfl
theorem dFld_obj (ok : OkT) (x : Str) (c : Str) (ns : List Str) (ds : List D) : dFld ok x μ (.obj c ns ds) = if ok c x = true then (fidx x ns).bind fun i => ds[i]? else none := rfl
theorem dFld_fo (ok : OkT) (x : Str) (c : Str) (ns : List Str) (ds : List D) : dFld ok x μ (.fo c ns ds) = if ok c x = true then (fidx x ns).bind fun i => ds[i]? else none := rfl
theorem dFld_ref (ok : OkT) (x : Str) (k : Nat) : dFld ok x μ (.ref k) = (μ[k]?).bind (dFo ok x) := rfl
theorem dFo_obj (ok : OkT) (x : Str) (c : Str) (ns : List Str) (ds : List D) : dFo ok x (.obj c ns ds) = if ok c x = true then (fidx x ns).bind fun i => ds[i]? else none := rfl
theorem dFo_fo (ok : OkT) (x : Str) (c : Str) (ns : List Str) (ds : List D) : dFo ok x (.fo c ns ds) = if ok c x = true then (fidx x ns).bind fun i => ds[i]? else none := rfl
theorem varK_obj (c : Str) (ns : List Str) (ds : List D) : varK (some (.obj c ns ds)) = some (.obj c ns ds) := rfl
theorem varK_fo (c : Str) (ns : List Str) (ds : List D) : varK (some (.fo c ns ds)) = some (.fo c ns ds) := rfl
theorem varK_ref (k : Nat) : varK (some (.ref k)) = some (.ref k) := rfl
theorem qRunF_eq (n : Nat) (dd : List D) (run : RF) (k : FA) : qRunF n dd run k (x0 :: ρ) μ = (k (x0 :: ρ) μ).bind fun as => if (fzL as ++ dd).length = n then (run (fzL as ++ dd) (fzL μ)).bind resF else none := rfl
theorem qMethF_eq (m : Str) (n : Nat) (dd : List D) (runs : MTF) (f : FQ) (k : FA) : qMethF m n dd runs f k (x0 :: ρ) μ = (f (x0 :: ρ) μ).bind fun t => (clsOf μ t).bind fun z => if fidx m z.2 = none then (runs z.1).bind fun run => (k (x0 :: ρ) μ).bind fun as => if (fz t :: (fzL as ++ dd)).length = n then (run (fz t :: (fzL as ++ dd)) (fzL μ)).bind resF else none else none := rfl
theorem clsOf_obj (c : Str) (ns : List Str) (ds : List D) : clsOf μ (.obj c ns ds) = some (c, ns) := rfl
theorem clsOf_fo (c : Str) (ns : List Str) (ds : List D) : clsOf μ (.fo c ns ds) = some (c, ns) := rfl
theorem clsOf_ref (k : Nat) : clsOf μ (.ref k) = (μ[k]?).bind clsO := rfl
theorem xMake_eq (c : Str) (n : Nat) (dd : List D) (run : RX) (k : FXA) : xMake c n dd run k (x0 :: ρ) μ = aB (k (x0 :: ρ) μ) fun as ρ1 μ1 => (avals as).bind fun ds => if (D.obj c [] [] :: (ds ++ dd)).length = n then (run (D.obj c [] [] :: (ds ++ dd)) μ1).bind fun o => match o with
  | .ok d (t :: _) μ' => (match d with
    | .non => if isUn t = true then none else some (.ok t ρ1 μ')
    | _ => none)
  | .ex cx fs (_ :: _) μ' => some (.ex cx fs ρ1 μ')
  | _ => none
  else none := xA_eq _ _
theorem fSetX_eq (i : Nat) (g : FX) : fSetX i g (x0 :: ρ) μ = eS (g (x0 :: ρ) μ) fun d ρ μ => if isUn d = true then none else some (.nx (ρ.set i d) μ) := xS_eq _ _
theorem fSetTX_eq (gt : D → List D → Option (List D)) (g : FX) : fSetTX gt g (x0 :: ρ) μ = eS (g (x0 :: ρ) μ) fun d ρ μ => if data d = true then (gt d ρ).map fun ρ' => .nx ρ' μ else none := xS_eq _ _
theorem fExX_eq (g : FX) : fExX g (x0 :: ρ) μ = eS (g (x0 :: ρ) μ) fun _ ρ μ => some (.nx ρ μ) := xS_eq _ _
theorem fRetX_eq (g : FX) : fRetX g (x0 :: ρ) μ = eS (g (x0 :: ρ) μ) fun d ρ μ => some (.rt d ρ μ) := xS_eq _ _
def ifK (f g : FS) (d : D) (ρ μ : List D) : Option SO := match d with
  | .bl b => if b = true then f ρ μ else g ρ μ
  | _ => none
theorem ifK_bl (f g : FS) (b : Bool) : ifK f g (.bl b) ρ μ = if b = true then f ρ μ else g ρ μ := rfl
theorem fIfX_eq (t : FX) (f g : FS) : fIfX t f g (x0 :: ρ) μ = eS (t (x0 :: ρ) μ) (ifK f g) := xS_eq _ _
def fldK (ok : OkT) (i : Nat) (q : List Str) (x : Str) (d : D) (ρ μ : List D) (r : D) (t : Option D) : Option SO := match t with
  | some (.obj c ns ds) => if ok c x = true ∧ ns.length < 1000 then (pput q r (putD x d c ns ds)).map fun r' => .nx (ρ.set i r') μ else none
  | some (.ref j) => (match μ[j]? with
    | some (.obj c ns ds) => if ok c x = true ∧ ns.length < 1000 ∧ fl d = true then some (.nx ρ (μ.set j (putD x d c ns ds))) else none
    | _ => none)
  | _ => none
theorem fFldX_eq (ok : OkT) (i : Nat) (q : List Str) (x : Str) (g : FX) : fFldX ok i q x g (x0 :: ρ) μ = eS (g (x0 :: ρ) μ) fun d ρ μ => (ρ[i]?).bind fun r => fldK ok i q x d ρ μ r (pget ok q r) := by
  unfold fFldX
  rw [xS_eq]
  unfold eS
  cases g (x0 :: ρ) μ with
  | none => rfl
  | some o =>
    cases o with
    | ex c fs ρ' μ' => rfl
    | ok d ρ' μ' =>
      simp only
      cases ρ'[i]? with
      | none => rfl
      | some r =>
        simp only [Option.bind_some]
        unfold fldK
        generalize pget ok q r = t
        cases t with
        | none => rfl
        | some t => cases t <;> rfl
theorem fldK_obj (ok : OkT) (i : Nat) (q : List Str) (x : Str) (d : D) (ρ μ : List D) (r : D) (c : Str) (ns : List Str) (ds : List D) : fldK ok i q x d ρ μ r (some (.obj c ns ds)) = if ok c x = true ∧ ns.length < 1000 then (pput q r (putD x d c ns ds)).map fun r' => .nx (ρ.set i r') μ else none := rfl
theorem fFldAug_eq (ok : OkT) (i : Nat) (q : List Str) (x : Str) (op : D → D → Option D) (f : FQ) : fFldAug ok i q x op f (x0 :: ρ) μ = fFldX ok i q x (xAug ok i q x op f) (x0 :: ρ) μ := rfl
theorem xAug_eq (ok : OkT) (i : Nat) (q : List Str) (x : Str) (op : D → D → Option D) (f : FQ) : xAug ok i q x op f (x0 :: ρ) μ = ((x0 :: ρ)[i]?).bind fun r => (pget ok q r).bind fun t => (dFld ok x μ t).bind fun a => (f (x0 :: ρ) μ).bind fun b => (op a b).map fun d => .ok d (x0 :: ρ) μ := rfl
theorem iAdd_int (a b : Int) : iAdd (.int a) (.int b) = some (.int (a + b)) := rfl
theorem iSub_int (a b : Int) : iSub (.int a) (.int b) = some (.int (a - b)) := rfl
theorem fRaise_eq (c : Str) : fRaise c (x0 :: ρ) μ = some (.ex c [] (x0 :: ρ) μ) := rfl
theorem putD_some {x : Str} {ns : List Str} {i : Nat} (h : fidx x ns = some i) (d : D) (c : Str) (ds : List D) : putD x d c ns ds = .obj c ns (ds.set i d) := by
  unfold putD
  rw [h]
theorem isUn_obj (c : Str) (ns : List Str) (ds : List D) : isUn (.obj c ns ds) = false := rfl
theorem isUn_fo (c : Str) (ns : List Str) (ds : List D) : isUn (.fo c ns ds) = false := rfl
theorem isUn_ml (ds : List D) : isUn (.ml ds) = false := rfl
theorem isUn_lst (ds : List D) : isUn (.lst ds) = false := rfl
theorem isUn_tup (ds : List D) : isUn (.tup ds) = false := rfl
theorem isUn_int (i : Int) : isUn (.int i) = false := rfl
theorem isUn_str (i : List Nat) : isUn (.str i) = false := rfl
theorem isUn_bl (i : Bool) : isUn (.bl i) = false := rfl
theorem isUn_non : isUn .non = false := rfl
theorem isUn_ref (i : Nat) : isUn (.ref i) = false := rfl
theorem fl_int (i : Int) : fl (.int i) = true := rfl
theorem fl_str (i : List Nat) : fl (.str i) = true := rfl
theorem fl_bl (i : Bool) : fl (.bl i) = true := rfl
theorem fl_non : fl .non = true := rfl
theorem fl_ref (i : Nat) : fl (.ref i) = true := rfl
theorem fl_tup (ds : List D) : fl (.tup ds) = dataL ds := rfl
theorem fl_lst (ds : List D) : fl (.lst ds) = dataL ds := rfl
theorem flL_nil : flL [] = true := rfl
theorem flL_cons (d : D) (ds : List D) : flL (d :: ds) = (fl d && flL ds) := rfl
theorem resF_bl (b : Bool) : resF (.bl b) = some (.bl b) := rfl
theorem resF_int (b : Int) : resF (.int b) = some (.int b) := rfl
theorem resF_str (b : List Nat) : resF (.str b) = some (.str b) := rfl
theorem resF_non : resF .non = some .non := rfl
theorem resF_tup (ds : List D) : resF (.tup ds) = if noLL ds = true then some (.tup ds) else none := rfl
theorem resF_ml (ds : List D) : resF (.ml ds) = if noLL ds = true then some (.lst ds) else none := rfl
theorem fzL_nil : fzL [] = [] := rfl
theorem fzL_cons (d : D) (ds : List D) : fzL (d :: ds) = fz d :: fzL ds := rfl
theorem fz_int (i : Int) : fz (.int i) = .int i := rfl
theorem fz_str (i : List Nat) : fz (.str i) = .str i := rfl
theorem fz_bl (i : Bool) : fz (.bl i) = .bl i := rfl
theorem fz_non : fz .non = .non := rfl
theorem fz_ref (i : Nat) : fz (.ref i) = .ref i := rfl
theorem fz_tup (ds : List D) : fz (.tup ds) = .tup (fzL ds) := rfl
theorem fz_lst (ds : List D) : fz (.lst ds) = .lst (fzL ds) := rfl
theorem fz_ml (ds : List D) : fz (.ml ds) = .lst (fzL ds) := rfl
theorem fz_obj (c : Str) (ns : List Str) (ds : List D) : fz (.obj c ns ds) = .fo c ns (fzL ds) := rfl
theorem fz_fo (c : Str) (ns : List Str) (ds : List D) : fz (.fo c ns ds) = .fo c ns (fzL ds) := rfl
def rF (o : Option SO) : Option D := match o with
  | some (.rt d _ _) => some d
  | some (.nx _ _) => some .non
  | _ => none
theorem runF_eq (N : Nat) (f : FS) (ds : List D) : runF N f ds μ = rF (f (ds ++ List.replicate (N - ds.length) .un) μ) := rfl
theorem rF_rt (d : D) (ρ μ : List D) : rF (some (.rt d ρ μ)) = some d := rfl
theorem rF_nx (ρ μ : List D) : rF (some (.nx ρ μ)) = some .non := rfl
def rX (ks : List Bool) (ds : List D) (o : Option SO) : Option EO := o.bind fun o => match o with
  | .rt d ρ' μ' => if isUn d = true then none else (fin ks ds ρ').map fun ds' => .ok d ds' μ'
  | .nx ρ' μ' => (fin ks ds ρ').map fun ds' => .ok .non ds' μ'
  | .ex c fs ρ' μ' => (fin ks ds ρ').map fun ds' => .ex c fs ds' μ'
  | _ => none
theorem runX_eq (N : Nat) (ks : List Bool) (f : FS) (ds : List D) : runX N ks f ds μ = rX ks ds (f (ds ++ List.replicate (N - ds.length) .un) μ) := rfl
theorem rX_rt (ks : List Bool) (ds : List D) (d : D) (ρ' μ' : List D) : rX ks ds (some (.rt d ρ' μ')) = if isUn d = true then none else (fin ks ds ρ').map fun ds' => .ok d ds' μ' := rfl
theorem rX_nx (ks : List Bool) (ds : List D) (ρ' μ' : List D) : rX ks ds (some (.nx ρ' μ')) = (fin ks ds ρ').map fun ds' => .ok .non ds' μ' := rfl
theorem rX_ex (ks : List Bool) (ds : List D) (c : Str) (fs : List (Str × D)) (ρ' μ' : List D) : rX ks ds (some (.ex c fs ρ' μ')) = (fin ks ds ρ').map fun ds' => .ex c fs ds' μ' := rfl
theorem fin_nil : fin [] [] ρ = some [] := by rw [fin]
theorem fin_t (ks : List Bool) (d r : D) (ds : List D) : fin (true :: ks) (d :: ds) (r :: ρ) = if isUn r = true then none else (fin ks ds ρ).map fun l => r :: l := by rw [fin]
theorem fin_f (ks : List Bool) (d r : D) (ds : List D) : fin (false :: ks) (d :: ds) (r :: ρ) = if fl d = true then (fin ks ds ρ).map fun l => d :: l else none := by rw [fin]
end
end Fw
/-! # range with a step; index of a text -/
namespace Fw
open PySem PySem.Spec PyProof.Rows L2
open Evl (Ex)
def rangeS (i j c : Int) : List D := (List.range (Builtin.Range.rangeSize i j c).toNat).map fun (k : Nat) => .int (i + (k : Int) * c)
def rg3K (x y z : D) : Option (List D) := match x, y, z with
  | .int i, .int j, .int c => if (0 < c ∧ c < 1073741824) ∧ Builtin.Range.small i j c = true then some (rangeS i j c) else none
  | _, _, _ => none
def aR3 (f g h : FQ) : FA := fun ρ μ => (f ρ μ).bind fun x => (g ρ μ).bind fun y => (h ρ μ).bind fun z => rg3K x y z
theorem it_rangeS {K : PySem.W.Frag} {W0 : Wd} {Rel : Wd → Wd → Prop} {i j c : Int} : ItD K (Itc i c (Builtin.Range.rangeSize i j c).toNat) W0 (rangeS i j c) Rel where
  go := fun k W r h => by
    unfold rangeS at h
    rw [List.length_map, List.length_range] at h
    exact h
  st := fun k W r h => by
    unfold rangeS at h
    rw [List.length_map, List.length_range] at h
    exact h
  yl := fun k W x H' r ok h y => by
    obtain ⟨e, rfl⟩ := y
    unfold rangeS at h ⊢
    rw [List.length_map, List.length_range] at h
    exact ⟨W, .int (i + (k : Int) * c), e.symm, by rw [List.getElem?_map, List.getElem?_range h]; rfl, Ext.refl ok, rfl, rfl⟩
theorem rs_nonneg {i j c : Int} (hc : 0 < c) : 0 ≤ Builtin.Range.rangeSize i j c := by
  unfold Builtin.Range.rangeSize
  rw [if_pos hc]
  by_cases h : i < j
  · rw [if_pos h]
    have := Int.ediv_nonneg (a := j - i - 1) (b := c) (by omega) (by omega)
    omega
  · rw [if_neg h]
    exact Int.le_refl _
section
variable {X : Cx} {tg a b c : Expr} {f g h : FQ}
theorem pif_range3 {p pos : Pos} (ha : PQ X a f) (hb : PQ X b g) (hc : PQ X c h) (hm : X.mg "range" = none) (hg : Gl X "range" := by rfl) (hs : starEach [a, b, c] X.env = (false, eval a X.env) :: starEach [b, c] X.env := by rfl)
    (hs2 : starEach [b, c] X.env = (false, eval b X.env) :: starEach [c] X.env := by rfl) (hs3 : starEach [c] X.env = (false, eval c X.env) :: starEach [] X.env := by rfl) (hpl : (backTo pos (starEach [b, c] X.env)).any (·.1) = false := by rfl) :
    PIF X tg (.Call (.Name "range" p) [a, b, c] [] pos) (aR3 f g h) := by
  obtain ⟨t1, p1, k1⟩ := ha
  obtain ⟨t2, p2, k2⟩ := hb
  obtain ⟨t3, p3, k3⟩ := hc
  refine ⟨_, pi_range3 hg hm (pa_cons p1 (pa_cons p2 (pa_cons p3 pa_nil hs3) hs2) hs) hs hpl, fun σ W ρ μ F S ds hd Q q => ?_⟩
  obtain ⟨x, e1, hd⟩ := bind_some hd
  obtain ⟨y, e2, hd⟩ := bind_some hd
  obtain ⟨z, e3, hd⟩ := bind_some hd
  refine k1 σ W ρ μ F S x e1 _ fun v W1 G1 x1 r1 => ?_
  refine k2 σ W1 ρ μ F (S.ext x1) y e2 _ fun v' W2 G2 x2 r2 => ?_
  refine k3 σ W2 ρ μ F ((S.ext x1).ext x2) z e3 _ fun v'' W3 G3 x3 r3 => ?_
  cases x with
  | int i =>
    cases y with
    | int j =>
      cases z with
      | int c =>
        have hd2 : (if (0 < c ∧ c < 1073741824) ∧ Builtin.Range.small i j c = true then some (rangeS i j c) else none) = some ds := hd
        by_cases hl : (0 < c ∧ c < 1073741824) ∧ Builtin.Range.small i j c = true
        · rw [if_pos hl] at hd2
          cases hd2
          obtain ⟨rfl, _⟩ := r1
          obtain ⟨rfl, _⟩ := r2
          obtain ⟨rfl, _⟩ := r3
          exact ⟨i, j, c, (Builtin.Range.rangeSize i j c).toNat, rfl, ⟨by omega, by omega, hl.2, (Int.toNat_of_nonneg (rs_nonneg hl.1.1)).symm⟩, q _ W3 ((x1.trans x2).trans x3) it_rangeS⟩
        · rw [if_neg hl] at hd2
          cases hd2
      | _ => cases hd
    | _ => cases hd
  | _ => cases hd
theorem aR3_eq (x0 : D) (ρ μ : List D) : aR3 f g h (x0 :: ρ) μ = (f (x0 :: ρ) μ).bind fun x => (g (x0 :: ρ) μ).bind fun y => (h (x0 :: ρ) μ).bind fun z => rg3K x y z := rfl
theorem rg3K_int (i j c : Int) : rg3K (.int i) (.int j) (.int c) = if (0 < c ∧ c < 1073741824) ∧ Builtin.Range.small i j c = true then some (rangeS i j c) else none := rfl
end
/-! ### s.index(t) -/
def oIndex (s : List Nat) : List D → Option D
  | [.str t] => match Builtin.Str.occurrences (tr s) (tr t) 0 (tr s).length 1 with
    | i :: _ => some (.int (i : Nat))
    | [] => none
  | _ => none
theorem mtd_index {X : Cx} : MtD X "str.index" oIndex := by
  refine ⟨_, mt_sindex, fun W s ds vs G ok rl d hd Q q => ?_⟩
  match ds, hd with
  | [.str t], hd =>
    obtain ⟨v, rfl, r1⟩ := RL_one rl
    obtain ⟨rfl, _⟩ := r1
    have hd2 : (match Builtin.Str.occurrences (tr s) (tr t) 0 (tr s).length 1 with
      | i :: _ => some (D.int (i : Nat))
      | [] => none) = some d := hd
    cases e : Builtin.Str.occurrences (tr s) (tr t) 0 (tr s).length 1 with
    | nil => rw [e] at hd2; cases hd2
    | cons i rest =>
      rw [e] at hd2
      cases hd2
      exact ⟨tr s, tr t, i, rest, rfl, rfl, e, q _ W [] (Ext.refl ok) ⟨rfl, rfl⟩⟩
/-! ### names for what built-ins tell -/
def dMin (x y : D) : Option D := match x, y with | .int i, .int j => some (.int (if j < i then j else i)) | _, _ => none
def dMax (x y : D) : Option D := match x, y with | .int i, .int j => some (.int (if j > i then j else i)) | _, _ => none
def dStrI (x : D) : Option D := match x with | .int i => if i.natAbs.log2 < 1920 then some (.str (ofS (toString i))) else none | _ => none
theorem dMin_int (i j : Int) : dMin (.int i) (.int j) = some (.int (if j < i then j else i)) := rfl
theorem dMax_int (i j : Int) : dMax (.int i) (.int j) = some (.int (if j > i then j else i)) := rfl
theorem dStrI_int (i : Int) : dStrI (.int i) = if i.natAbs.log2 < 1920 then some (.str (ofS (toString i))) else none := rfl
end Fw
/-! # plain laws of the mirrors' operators -/
namespace Fw
open PySem PySem.Spec PyProof.Rows L2
theorem eqV_str (a b : List Nat) : eqV (.str (tr a)) (.str (tr b)) = decide (a = b) := by
  by_cases h : a = b
  · subst h
    simp [eqV]
  · have h2 : tr a ≠ tr b := fun z => h (tr_inj z)
    simp [eqV, h, h2]
theorem atoms_strs : ∀ es : List (List Nat), atoms (es.map D.str) = some ((es.map tr).map V.str)
  | [] => rfl
  | e :: es => by
    show ((some (V.str (tr e))).bind fun u => (atoms (es.map D.str)).map fun us => u :: us) = _
    rw [atoms_strs es]
    rfl
theorem inV_strs (t : List Nat) : ∀ es : List (List Nat), inV (.str (tr t)) ((es.map tr).map V.str) = decide (t ∈ es)
  | [] => by
    unfold inV
    simp
  | e :: es => by
    have ih := inV_strs t es
    unfold inV at ih ⊢
    rw [List.map_cons, List.map_cons, List.any_cons, ih, eqV_str]
    by_cases h : e = t
    · simp [h]
    · have h2 : ¬ t = e := fun z => h z.symm
      simp [h, h2]
theorem inDB_tup (t : List Nat) (ds : List D) : inDB (.str t) (.tup ds) = inSeq (.str t) (.tup ds) := by
  cases t with
  | nil => rfl
  | cons c t => cases t <;> rfl
theorem inDB_lst (t : List Nat) (ds : List D) : inDB (.str t) (.lst ds) = inSeq (.str t) (.lst ds) := by
  cases t with
  | nil => rfl
  | cons c t => cases t <;> rfl
theorem dIn_tup (t : List Nat) (es : List (List Nat)) : dIn (.str t) (.tup (es.map D.str)) = some (.bl (decide (t ∈ es))) := by
  unfold dIn
  rw [inDB_tup]
  unfold inSeq
  show Option.map D.bl ((some (es.map D.str)).bind fun ds => (some (V.str (tr t))).bind fun u => (atoms ds).map fun us => inV u us) = _
  rw [Option.bind_some, Option.bind_some, atoms_strs]
  show some (D.bl (inV (.str (tr t)) ((es.map tr).map V.str))) = _
  rw [inV_strs]
theorem dIn_lst (t : List Nat) (es : List (List Nat)) : dIn (.str t) (.lst (es.map D.str)) = some (.bl (decide (t ∈ es))) := by
  unfold dIn
  rw [inDB_lst]
  unfold inSeq
  show Option.map D.bl ((some (es.map D.str)).bind fun ds => (some (V.str (tr t))).bind fun u => (atoms ds).map fun us => inV u us) = _
  rw [Option.bind_some, Option.bind_some, atoms_strs]
  show some (D.bl (inV (.str (tr t)) ((es.map tr).map V.str))) = _
  rw [inV_strs]
theorem dNotIn_tup (t : List Nat) (es : List (List Nat)) : dNotIn (.str t) (.tup (es.map D.str)) = some (.bl (!decide (t ∈ es))) := by
  have h := dIn_tup t es
  unfold dIn at h
  obtain ⟨b, h1, h2⟩ := map_some h
  unfold dNotIn
  rw [h1]
  injection h2 with h2
  rw [← h2]
  rfl
theorem dNotIn_lst (t : List Nat) (es : List (List Nat)) : dNotIn (.str t) (.lst (es.map D.str)) = some (.bl (!decide (t ∈ es))) := by
  have h := dIn_lst t es
  unfold dIn at h
  obtain ⟨b, h1, h2⟩ := map_some h
  unfold dNotIn
  rw [h1]
  injection h2 with h2
  rw [← h2]
  rfl
theorem dIn_sign (c : Nat) (z : List Nat) : dIn (.str [c]) (.str z) = some (.bl (decide (c ∈ z))) := rfl
theorem dNotIn_sign (c : Nat) (z : List Nat) : dNotIn (.str [c]) (.str z) = some (.bl (!decide (c ∈ z))) := rfl
theorem boolsD_map : ∀ bs : List Bool, boolsD (bs.map D.bl) = some bs
  | [] => rfl
  | b :: bs => by
    show (boolsD (bs.map D.bl)).map (fun bs => b :: bs) = _
    rw [boolsD_map bs]
    rfl
theorem starts_take (e t : List Nat) : Txt.startswith (tr e) (tr t) = decide (e.take t.length = t) := by
  unfold Txt.startswith Builtin.Str.subAt
  rw [tr_length, tr_length, Nat.zero_add]
  show (decide (t.length ≤ e.length) && ((e.toArray.extract 0 t.length) == t.toArray)) = _
  rw [List.extract_toArray]
  have h1 : e.extract 0 t.length = e.take t.length := by
    rw [List.extract_eq_take_drop, List.drop_zero, Nat.sub_zero]
  rw [h1]
  by_cases h : e.take t.length = t
  · have hl : t.length ≤ e.length := by
      have := congrArg List.length h
      rw [List.length_take] at this
      omega
    rw [decide_eq_true h, decide_eq_true hl, h]
    simp
  · rw [decide_eq_false h]
    have h2 : ((e.take t.length).toArray == t.toArray) = false := by
      apply beq_eq_false_iff_ne.mpr
      intro z
      exact h (by simpa using z)
    rw [h2, Bool.and_false]
/-! ### equal trees -/
def cok (s : List Nat) : Bool := s.all fun c => decide (c < 1114112)
mutual
/-- trees without truths and instances, at most h deep, of signs -/
def pl : Nat → D → Bool
  | _, .non => true
  | _, .int _ => true
  | _, .str s => cok s
  | h + 1, .tup ds => plL h ds
  | h + 1, .lst ds => plL h ds
  | _, _ => false
def plL : Nat → List D → Bool
  | _, [] => true
  | h, d :: ds => pl h d && plL h ds
end
theorem strOk_tr {s : List Nat} (h : cok s = true) : PyData.canLay0 (.str (tr s)) = true := by
  show (tr s).cps.all (· < 0x110000) = true
  unfold cok at h
  rw [List.all_eq_true] at h
  rw [Array.all_eq_true]
  intro i hi
  have : s[i]'(by simpa using hi) ∈ s := List.getElem_mem _
  have := h _ this
  simpa using this
mutual
theorem pl_toP : ∀ (h : Nat) (d : D), pl h d = true → ∃ p, toP d = some p ∧ p.canLay0 = true ∧ p.depth ≤ h
  | _, .non, _ => ⟨_, rfl, rfl, by unfold PyData.depth; exact Nat.zero_le _⟩
  | _, .int i, _ => ⟨_, rfl, rfl, by unfold PyData.depth; exact Nat.zero_le _⟩
  | h, .str s, e => ⟨_, rfl, strOk_tr (by cases h <;> exact e), by unfold PyData.depth; exact Nat.zero_le _⟩
  | 0, .tup ds, e => by cases e
  | 0, .lst ds, e => by cases e
  | h + 1, .tup ds, e => by
    obtain ⟨ps, h1, h2, h3⟩ := plL_toP h ds e
    refine ⟨.tuple ps, ?_, ?_, ?_⟩
    · show (toPL ds).map PyData.tuple = _
      rw [h1]
      rfl
    · unfold PyData.canLay0
      exact h2
    · unfold PyData.depth
      omega
  | h + 1, .lst ds, e => by
    obtain ⟨ps, h1, h2, h3⟩ := plL_toP h ds e
    refine ⟨.list ps, ?_, ?_, ?_⟩
    · show (toPL ds).map PyData.list = _
      rw [h1]
      rfl
    · unfold PyData.canLay0
      exact h2
    · unfold PyData.depth
      omega
  | h, .bl _, e => by cases h <;> cases e
  | h, .ml _, e => by cases h <;> cases e
  | h, .obj _ _ _, e => by cases h <;> cases e
  | h, .fo _ _ _, e => by cases h <;> cases e
  | h, .ref _, e => by cases h <;> cases e
  | h, .un, e => by cases h <;> cases e
theorem plL_toP : ∀ (h : Nat) (ds : List D), plL h ds = true → ∃ ps, toPL ds = some ps ∧ PyData.canLayAll0 ps = true ∧ PyData.depthAll ps ≤ h
  | _, [], _ => ⟨[], rfl, rfl, by unfold PyData.depthAll; exact Nat.zero_le _⟩
  | h, d :: ds, e => by
    obtain ⟨a, b⟩ := Bool.and_eq_true_iff.mp (show (pl h d && plL h ds) = true by unfold plL at e; exact e)
    obtain ⟨p, h1, h2, h3⟩ := pl_toP h d a
    obtain ⟨ps, h4, h5, h6⟩ := plL_toP h ds b
    refine ⟨p :: ps, ?_, ?_, ?_⟩
    · show ((toP d).bind fun p => (toPL ds).map fun ps => p :: ps) = _
      rw [h1, h4]
      rfl
    · unfold PyData.canLayAll0
      rw [h2, h5]
      rfl
    · unfold PyData.depthAll
      omega
end
mutual
theorem eqv_pl : ∀ (x y : D) (h h' : Nat) (p q : PyData), pl h x = true → pl h' y = true → toP x = some p → toP y = some q → (PyData.eqv p q = true ↔ x = y)
  | .non, y, h, h', p, q, hx, hy, e1, e2 => by
    cases e1
    cases y <;> first
      | (cases h' <;> cases hy; done)
      | (cases e2; simp [PyData.eqv]; done)
      | (obtain ⟨z, _, rfl⟩ := map_some e2; simp [PyData.eqv])
  | .int i, y, h, h', p, q, hx, hy, e1, e2 => by
    cases e1
    cases y <;> first
      | (cases h' <;> cases hy; done)
      | (cases e2; simp [PyData.eqv]; done)
      | (obtain ⟨z, _, rfl⟩ := map_some e2; simp [PyData.eqv])
  | .str s, y, h, h', p, q, hx, hy, e1, e2 => by
    cases e1
    cases y <;> first
      | (cases h' <;> cases hy; done)
      | (cases e2
         simp only [PyData.eqv, beq_iff_eq, D.str.injEq]
         exact ⟨tr_inj, fun z => by rw [z]⟩)
      | (cases e2; simp [PyData.eqv]; done)
      | (obtain ⟨z, _, rfl⟩ := map_some e2; simp [PyData.eqv])
  | .tup xs, y, h, h', p, q, hx, hy, e1, e2 => by
    obtain ⟨ps, e3, rfl⟩ := map_some e1
    cases h with
    | zero => cases hx
    | succ h =>
      cases y with
      | tup ys =>
        cases h' with
        | zero => cases hy
        | succ h' =>
          obtain ⟨qs, e4, rfl⟩ := map_some e2
          have := eqvL_pl xs ys h h' ps qs hx hy e3 e4
          simp only [PyData.eqv, D.tup.injEq]
          exact this
      | lst ys =>
        obtain ⟨qs, e4, rfl⟩ := map_some e2
        simp [PyData.eqv]
      | non => cases e2; simp [PyData.eqv]
      | int i => cases e2; simp [PyData.eqv]
      | str s => cases e2; simp [PyData.eqv]
      | _ => cases h' <;> cases hy
  | .lst xs, y, h, h', p, q, hx, hy, e1, e2 => by
    obtain ⟨ps, e3, rfl⟩ := map_some e1
    cases h with
    | zero => cases hx
    | succ h =>
      cases y with
      | lst ys =>
        cases h' with
        | zero => cases hy
        | succ h' =>
          obtain ⟨qs, e4, rfl⟩ := map_some e2
          have := eqvL_pl xs ys h h' ps qs hx hy e3 e4
          simp only [PyData.eqv, D.lst.injEq]
          exact this
      | tup ys =>
        obtain ⟨qs, e4, rfl⟩ := map_some e2
        simp [PyData.eqv]
      | non => cases e2; simp [PyData.eqv]
      | int i => cases e2; simp [PyData.eqv]
      | str s => cases e2; simp [PyData.eqv]
      | _ => cases h' <;> cases hy
  | .bl _, _, h, _, _, _, hx, _, _, _ => by cases h <;> cases hx
  | .ml _, _, h, _, _, _, hx, _, _, _ => by cases h <;> cases hx
  | .obj _ _ _, _, h, _, _, _, hx, _, _, _ => by cases h <;> cases hx
  | .fo _ _ _, _, h, _, _, _, hx, _, _, _ => by cases h <;> cases hx
  | .ref _, _, h, _, _, _, hx, _, _, _ => by cases h <;> cases hx
  | .un, _, h, _, _, _, hx, _, _, _ => by cases h <;> cases hx
theorem eqvL_pl : ∀ (xs ys : List D) (h h' : Nat) (ps qs : List PyData), plL h xs = true → plL h' ys = true → toPL xs = some ps → toPL ys = some qs → (PyData.eqvAll ps qs = true ↔ xs = ys)
  | [], [], _, _, _, _, _, _, e1, e2 => by
    cases e1
    cases e2
    simp [PyData.eqvAll]
  | [], y :: ys, _, _, _, _, _, _, e1, e2 => by
    cases e1
    obtain ⟨p, _, e2⟩ := bind_some e2
    obtain ⟨ps, _, rfl⟩ := map_some e2
    simp [PyData.eqvAll]
  | x :: xs, [], _, _, _, _, _, _, e1, e2 => by
    cases e2
    obtain ⟨p, _, e1⟩ := bind_some e1
    obtain ⟨ps, _, rfl⟩ := map_some e1
    simp [PyData.eqvAll]
  | x :: xs, y :: ys, h, h', _, _, hx, hy, e1, e2 => by
    unfold plL at hx hy
    obtain ⟨a1, b1⟩ := Bool.and_eq_true_iff.mp hx
    obtain ⟨a2, b2⟩ := Bool.and_eq_true_iff.mp hy
    obtain ⟨p, p1, e1⟩ := bind_some e1
    obtain ⟨ps, p2, rfl⟩ := map_some e1
    obtain ⟨q, q1, e2⟩ := bind_some e2
    obtain ⟨qs, q2, rfl⟩ := map_some e2
    have h1 := eqv_pl x y h h' p q a1 a2 p1 q1
    have h2 := eqvL_pl xs ys h h' ps qs b1 b2 p2 q2
    simp only [PyData.eqvAll, Bool.and_eq_true, List.cons.injEq, h1, h2]
end
/-- equality of plain trees -/
theorem eqDB_pl {x y : D} {h h' : Nat} (hx : pl h x = true) (hy : pl h' y = true) (hh : h ≤ 60) (hh' : h' ≤ 60) : ∃ b, eqDB x y = some b ∧ (b = true ↔ x = y) := by
  obtain ⟨p, p1, p2, p3⟩ := pl_toP h x hx
  obtain ⟨q, q1, q2, q3⟩ := pl_toP h' y hy
  have gen : ∀ u v, atom x = some u → atom y = some v → ∃ b, (if scal u v = true then some (decide (u = v)) else none) = some b ∧ (b = true ↔ x = y) := by
    intro u v e1 e2
    cases x <;> first
      | (cases h <;> cases hx; done)
      | (cases e1; done)
      | (cases e1
         cases y <;> first
          | (cases h' <;> cases hy; done)
          | (cases e2; done)
          | (cases e2
             refine ⟨_, if_pos rfl, ?_⟩
             rw [decide_eq_true_iff]
             constructor
             · intro z
               first
                | rfl
                | (cases z; done)
                | (injection z with z; rw [z]; done)
                | (injection z with z; rw [tr_inj z])
             · intro z
               first
                | rfl
                | (cases z; done)
                | (injection z with z; rw [z])))
  unfold eqDB
  have sh : ∀ {p : PyData} {h : Nat}, p.canLay0 = true → p.depth ≤ h → h ≤ 60 → SeqAt.shaped p = true := fun h1 h2 h3 => Bool.and_eq_true_iff.mpr ⟨h1, decide_eq_true (by omega)⟩
  have rest : ∃ b, ((toP x).bind fun p => (toP y).bind fun q => if SeqAt.shaped p = true ∧ SeqAt.shaped q = true then some (PyData.eqv p q) else none) = some b ∧ (b = true ↔ x = y) := by
    rw [p1, q1, Option.bind_some, Option.bind_some, if_pos ⟨sh p2 p3 hh, sh q2 q3 hh'⟩]
    exact ⟨_, rfl, eqv_pl x y h h' p q hx hy p1 q1⟩
  cases e1 : atom x with
  | none => exact rest
  | some u =>
    cases e2 : atom y with
    | none => exact rest
    | some v => exact gen u v e1 e2
theorem dEq_pl {x y : D} {h h' : Nat} (hx : pl h x = true) (hy : pl h' y = true) (hh : h ≤ 60) (hh' : h' ≤ 60) : ∃ b, dEq x y = some (.bl b) ∧ (b = true ↔ x = y) := by
  obtain ⟨b, h1, h2⟩ := eqDB_pl hx hy hh hh'
  exact ⟨b, by unfold dEq; rw [h1]; rfl, h2⟩
theorem dNe_pl {x y : D} {h h' : Nat} (hx : pl h x = true) (hy : pl h' y = true) (hh : h ≤ 60) (hh' : h' ≤ 60) : ∃ b, dNe x y = some (.bl (!b)) ∧ (b = true ↔ x = y) := by
  obtain ⟨b, h1, h2⟩ := eqDB_pl hx hy hh hh'
  exact ⟨b, by unfold dNe; rw [h1]; rfl, h2⟩
theorem dEq_of {x y : D} {h h' : Nat} (hx : pl h x = true) (hy : pl h' y = true) (hh : h ≤ 60) (hh' : h' ≤ 60) (e : x = y) : dEq x y = some (.bl true) := by
  obtain ⟨b, h1, h2⟩ := dEq_pl hx hy hh hh'
  rw [h1, h2.mpr e]
theorem dNe_of {x y : D} {h h' : Nat} (hx : pl h x = true) (hy : pl h' y = true) (hh : h ≤ 60) (hh' : h' ≤ 60) (e : x = y) : dNe x y = some (.bl false) := by
  obtain ⟨b, h1, h2⟩ := dNe_pl hx hy hh hh'
  rw [h1, h2.mpr e]
  rfl
/-! ### comprehensions -/
section
variable {g : D → List D → Option (List D)} {t : FB} {f : FQ} {ρ μ : List D}
theorem lcL_map {α : Type} (A : α → D) (T : α → Bool) (Y : α → D) : ∀ (as : List α), (∀ a ∈ as, ∃ ρ', g (A a) ρ = some ρ' ∧ t ρ' μ = some (T a) ∧ (T a = true → f ρ' μ = some (Y a) ∧ data (Y a) = true)) → lcL g t f ρ μ (as.map A) = some ((as.filter T).map Y)
  | [], _ => rfl
  | a :: as, h => by
    obtain ⟨ρ', h1, h2, h3⟩ := h a (List.mem_cons_self ..)
    have ih := lcL_map A T Y as fun b hb => h b (List.mem_cons_of_mem _ hb)
    rw [List.map_cons]
    unfold lcL
    rw [h1, Option.bind_some, h2, Option.bind_some]
    by_cases ht : T a = true
    · obtain ⟨h4, h5⟩ := h3 ht
      rw [if_pos ht, h4, Option.bind_some, if_pos h5, ih, List.filter_cons_of_pos ht]
      rfl
    · rw [if_neg ht, ih, List.filter_cons_of_neg ht]
end
theorem qLc_eq (it : FA) (g : D → List D → Option (List D)) (vs : List Nat) (t : FB) (f : FQ) (x0 : D) (ρ μ : List D) : qLc it g vs t f (x0 :: ρ) μ = (it (x0 :: ρ) μ).bind fun ds => if ds.length ≤ LIM then lcL g t f (wipeD (x0 :: ρ) vs) μ ds else none := rfl
theorem wipeD_nil (ρ : List D) : wipeD ρ [] = ρ := rfl
theorem wipeD_cons (ρ : List D) (v : Nat) (vs : List Nat) : wipeD ρ (v :: vs) = (wipeD ρ vs).set v .un := rfl
theorem bYes_eq (x0 : D) (ρ μ : List D) : bYes (x0 :: ρ) μ = some true := rfl
theorem itemsQ_ml (ds : List D) : itemsQ (.ml ds) = if dataL ds = true then some ds else none := rfl
theorem itemsQ_lst (ds : List D) : itemsQ (.lst ds) = some ds := rfl
theorem itemsQ_tup (ds : List D) : itemsQ (.tup ds) = if dataL ds = true then some ds else none := rfl
theorem itemsQ_str (s : List Nat) : itemsQ (.str s) = some (s.map fun c => .str [c]) := rfl
theorem dIs_bl (a b : Bool) : dIs (.bl a) (.bl b) = some (.bl (decide (a = b))) := rfl
theorem dIsNot_bl (a b : Bool) : dIsNot (.bl a) (.bl b) = some (.bl (!decide (a = b))) := rfl
theorem dIs_nn : dIs .non .non = some (.bl true) := rfl
theorem dIsNot_nn : dIsNot .non .non = some (.bl false) := rfl
theorem asL_lst (ds : List D) : asL (.lst ds) = some ds := rfl
theorem noLL_nil : noLL [] = true := rfl
theorem noLL_cons (d : D) (ds : List D) : noLL (d :: ds) = (noL d && noLL ds) := rfl
theorem noL_str (s : List Nat) : noL (.str s) = true := rfl
theorem noL_int (s : Int) : noL (.int s) = true := rfl
theorem noL_bl (s : Bool) : noL (.bl s) = true := rfl
theorem noL_non : noL .non = true := rfl
theorem noL_tup (ds : List D) : noL (.tup ds) = noLL ds := rfl
theorem fzL_strs : ∀ es : List (List Nat), fzL (es.map D.str) = es.map D.str
  | [] => rfl
  | e :: es => congrArg (D.str e :: ·) (fzL_strs es)
theorem fzL_ints : ∀ es : List Int, fzL (es.map D.int) = es.map D.int
  | [] => rfl
  | e :: es => congrArg (D.int e :: ·) (fzL_ints es)
end Fw
/-! # C.m(x, ..): a def read off an own class -/
namespace Fw
open PySem PySem.Spec PyProof.Rows L2
/-- what the class must have for that -/
def baseB (K : PySem.W.Frag) (c m : Str) : Bool := PySem.W.readsIn K (He.ga K c) (.type "type") && (decide (PySem.W.specialIn K (.ref (He.ga K c)) "__getattribute__" = some (some (.builtin "type.__getattribute__"))) && ((match PySem.W.findCls K (.ref (He.ga K c)) (.type "type") m with
  | some (.val v) => decide (v = .ref (He.ma K (He.ga K c) m))
  | _ => false) && (PySem.W.handedIn (.ref (He.ma K (He.ga K c) m)) && PySem.W.keepIn K (.ref (He.ma K (He.ga K c) m)))))
def OkB (P : Program) (w : World) (K : PySem.W.Frag) (mg : Str → Option Value) (base : Heap) (c m : Str) (k n : Nat) (run : RX) : Prop :=
  ∃ (fd : FuncData) (ps : List Str), FnOk P w K mg base (L2.CX P w) k (He.ma K (He.ga K c) m) fd ps (spX K n run) ∧ Binds K fd ps [] ∧ mg c = some (.ref (He.ga K c)) ∧ baseB K c m = true
section
variable {X : Cx} {Wx : WX} {e : Expr} {es : List Expr} {p apos pos : Pos} {kf : FXA} {c m : Str} {k n : Nat} {run : RX}
theorem px_base {pl : Sem Bool} (O : OkB X.prog X.w X.K X.mg X.base c m k n run) (hr : Room k X.A) (tk : Takes X Wx) (ha : PAX X Wx (e :: es) kf) (hg : Gl X c := by rfl) (hdb : (c == ("__debug__" : Str)) = false := by decide)
    (hst : starEach (e :: es) X.env = (false, eval e X.env) :: starEach es X.env := by rfl) (hpl : (backTo pos (starEach es X.env)).any (·.1) = false := by rfl)
    (ht : eval (.Call (.Attribute (.Name c p) m apos) (e :: es) [] pos) X.env = (do
      let ov ← eval (.Name c p) X.env
      standAt apos.atName
      let (f, first) ← holding [ov] (getMethod ov m pl)
      callWith pos f first (backTo pos (starEach (e :: es) X.env)) (backToKw pos (keywordEach [] X.env))) := by rfl) :
    PX X Wx (.Call (.Attribute (.Name c p) m apos) (e :: es) [] pos) (xRun n [] run kf) := by
  obtain ⟨fd, ps, hF, hb, hm, hB⟩ := O
  obtain ⟨t, pt, k1⟩ := ha
  obtain ⟨b1, hB⟩ := Bool.and_eq_true_iff.mp hB
  obtain ⟨b2, hB⟩ := Bool.and_eq_true_iff.mp hB
  obtain ⟨b3, hB⟩ := Bool.and_eq_true_iff.mp hB
  obtain ⟨b4, b5⟩ := Bool.and_eq_true_iff.mp hB
  have b2' := of_decide_eq_true b2
  have b3' : PySem.W.findCls X.K (.ref (He.ga X.K c)) (.type "type") m = some (.val (.ref (He.ma X.K (He.ga X.K c) m))) := by
    cases q : PySem.W.findCls X.K (.ref (He.ga X.K c)) (.type "type") m with
    | none => rw [q] at b3; cases b3
    | some r =>
      rw [q] at b3
      cases r with
      | val v => rw [of_decide_eq_true b3]
      | get _ _ _ _ => cases b3
  refine ⟨fun σ H Q => t σ H fun vs H1 => spX X.K n run (vs ++ []) H1 Q (WE Wx σ), ⟨fun pins s σ H Q I h => ?_⟩, fun σ W ρ μ F S o ho Q hQ => ?_⟩
  · refine PySem.W.methodCall_KW (pl := pl) (ld_glob I hg hm ?_ hdb) ht
    refine PySem.W.method_cls I.kIn b2' (PySem.W.cls_value I.kIn b1 b3' b4 ?_)
    refine PySem.W.callWith_K (h₀ := X.base) I.ok.mod.kin b5 (thn (pt.run pos pins _ σ H _ (I.tok _) h) fun us s1 ⟨vs, H1, I1, r, q⟩ => ⟨I1.kIn, ?_⟩) hst hpl
    exact run_fnSD hF hr hb .nil (passAt tk σ) I1 r q
  · obtain ⟨o1, e1, ho⟩ := bind_some ho
    refine k1 σ W ρ μ F S o1 e1 _ ?_
    cases o1 with
    | ok as ρ1 μ1 =>
      intro vs W1 F1 r S1 mv
      obtain ⟨z, e2, ho⟩ := bind_some (show (mo as ρ1).bind (fun z => if (z.1 ++ []).length = n then (run (z.1 ++ []) μ1).bind (xPut fun ys => mi as z.2 (ys.take z.1.length)) else none) = some o from ho)
      obtain ⟨ds, ρr⟩ := z
      by_cases hl : (ds ++ []).length = n
      case neg => rw [if_neg hl] at ho; cases ho
      rw [if_pos hl] at ho
      obtain ⟨o2, e3, ho⟩ := bind_some ho
      have fo := (foc_args S1 r e2).trans fun Fc Sc => foc_vals (ds := []) (vs := []) Sc ⟨rfl, rfl⟩
      rw [← List.map_append] at fo
      exact spX_of fo hl e3 ho (hQ.after mv)
    | ex c fs ρ1 μ1 =>
      cases ho
      exact hQ
end
/-! ### -e -/
def dNeg : D → Option D
  | .int i => some (.int (-i))
  | _ => none
theorem pq_neg {X : Cx} {e : Expr} {pos : Pos} {f : FQ} (h : PQ X e f) : PQ X (.UnaryOp .USub e pos) (q1 dNeg f) := by
  obtain ⟨te, p, k⟩ := h
  refine ⟨_, pe_un un_neg p, fun σ W ρ μ F S d hd Q q => ?_⟩
  obtain ⟨x, e1, hd⟩ := bind_some hd
  refine k σ W ρ μ F S x e1 _ fun v W1 G x1 r1 => ?_
  cases x with
  | int i =>
    cases hd
    obtain ⟨rfl, _⟩ := r1
    exact ⟨i, rfl, q _ W1 [] x1 ⟨rfl, rfl⟩⟩
  | _ => cases hd
theorem q1_eq (o : D → Option D) (f : FQ) (x0 : D) (ρ μ : List D) : q1 o f (x0 :: ρ) μ = (f (x0 :: ρ) μ).bind o := rfl
theorem dNeg_int (i : Int) : dNeg (.int i) = some (.int (-i)) := rfl
end Fw
/-! # slots seen otherwise: what is not asked any more is wiped; runs without a promise -/
namespace Fw
open PySem PySem.Spec PyProof.Rows L2
open Evl (Ex)
/-- slots may be seen so: the world stays -/
def Rly (p : List D → List D) : Prop := ∀ (K : PySem.W.Frag) (W : Wd) (σ : L2.St) (ρ μ : List D) (F : List Addr), Sta K W σ ρ μ F → ∃ W' F', W'.H = W.H ∧ Sta K W' σ (p ρ) μ F' ∧ Mv W W' F F'
theorem rly_id : Rly fun ρ => ρ := fun _ W _ _ _ F S => ⟨W, F, rfl, S, (Ext.refl S.ok).mvr⟩
theorem Rly.comp {p q : List D → List D} (hp : Rly p) (hq : Rly q) : Rly fun ρ => q (p ρ) := fun K W σ ρ μ F S => by
  obtain ⟨W1, F1, e1, S1, m1⟩ := hp K W σ ρ μ F S
  obtain ⟨W2, F2, e2, S2, m2⟩ := hq K W1 σ _ μ F1 S1
  exact ⟨W2, F2, e2.trans e1, S2, m1.trans m2⟩
theorem set_oob {α : Type} {l : List α} {i : Nat} {x : α} (h : l.length ≤ i) : l.set i x = l := List.set_eq_of_length_le h
theorem rly_un (i : Nat) : Rly fun ρ => ρ.set i .un := fun K W σ ρ μ F S => by
  have hl := S.len
  by_cases hi : i < σ.length
  · have g : R1 K W .un (σ[i]) [] := rfl
    obtain ⟨F', S', sub⟩ := S.set (i := i) g
    have e : σ.set i σ[i] = σ := set_self (List.getElem?_eq_getElem hi)
    rw [e] at S'
    exact ⟨W, F', rfl, S', (Ext.refl S.ok).mv sub⟩
  · refine ⟨W, F, rfl, ?_, (Ext.refl S.ok).mvr⟩
    have e : ρ.set i .un = ρ := set_oob (by omega)
    show Sta K W σ (ρ.set i .un) μ F
    rw [e]
    exact S
theorem rly_wipe : ∀ vs : List Nat, Rly fun ρ => wipeD ρ vs
  | [] => rly_id
  | v :: vs => (rly_wipe vs).comp (rly_un v)
theorem rly_fz (i : Nat) : Rly (fzAt i) := fun K W σ ρ μ F S => S.fz i
/-- what stands behind a statement, seen so -/
def postO (p : List D → List D) : SO → SO
  | .nx ρ μ => .nx (p ρ) μ
  | .ct ρ μ => .ct (p ρ) μ
  | .bk ρ μ => .bk (p ρ) μ
  | o => o
def fPost (p : List D → List D) (f : FS) : FS := fun ρ μ => (f ρ μ).map (postO p)
def fPre (p : List D → List D) (f : FS) : FS := fun ρ μ => f (p ρ) μ
theorem Goes.post {p : List D → List D} (hp : Rly p) {K : PySem.W.Frag} {ob : List Nat} {Wx : WX} {E : Ends} {σ : L2.St} {W : Wd} {F : List Addr} {o : SO} (h : Goes K ob Wx E σ W F (postO p o)) : Goes K ob Wx E σ W F o := by
  cases o with
  | nx ρ μ =>
    intro σ' W' F' S m k
    obtain ⟨W2, F2, e, S2, m2⟩ := hp K W' σ' ρ μ F' S
    have := h σ' W2 F2 S2 (m.trans m2) k
    rw [e] at this
    exact this
  | ct ρ μ =>
    intro σ' W' F' S m k
    obtain ⟨W2, F2, e, S2, m2⟩ := hp K W' σ' ρ μ F' S
    have := h σ' W2 F2 S2 (m.trans m2) k
    rw [e] at this
    exact this
  | bk ρ μ =>
    intro σ' W' F' S m k
    obtain ⟨W2, F2, e, S2, m2⟩ := hp K W' σ' ρ μ F' S
    have := h σ' W2 F2 S2 (m.trans m2) k
    rw [e] at this
    exact this
  | rt d ρ μ => exact h
  | ex c fs ρ μ => exact h
section
variable {X : Cx} {ob : List Nat} {Wx : WX} {st : Stmt} {ss : List Stmt} {f : FS} {p : List D → List D}
theorem pss_post (hp : Rly p) (h : PSS X ob Wx ss f) : PSS X ob Wx ss (fPost p f) := by
  obtain ⟨ts, q, k⟩ := h
  refine ⟨ts, q, fun E σ W ρ μ F S o ho hg => ?_⟩
  obtain ⟨o', e, rfl⟩ := map_some ho
  exact k E σ W ρ μ F S o' e (Goes.post hp hg)
theorem ps1_post (hp : Rly p) (h : PS1 X ob Wx st f) : PS1 X ob Wx st (fPost p f) := by
  obtain ⟨ts, q, k⟩ := h
  refine ⟨ts, q, fun E σ W ρ μ F S o ho hg => ?_⟩
  obtain ⟨o', e, rfl⟩ := map_some ho
  exact k E σ W ρ μ F S o' e (Goes.post hp hg)
theorem ps1_pre (hp : Rly p) (h : PS1 X ob Wx st f) : PS1 X ob Wx st (fPre p f) := by
  obtain ⟨ts, q, k⟩ := h
  refine ⟨ts, q, fun E σ W ρ μ F S o ho hg => ?_⟩
  obtain ⟨W2, F2, e, S2, m2⟩ := hp X.K W σ ρ μ F S
  have := k E σ W2 (p ρ) μ F2 S2 o ho (hg.after m2 Kept.refl)
  rw [e] at this
  exact this
/-- slots wiped behind, ahead -/
abbrev fWp (vs : List Nat) (f : FS) : FS := fPost (fun ρ => wipeD ρ vs) f
abbrev fPw (vs : List Nat) (f : FS) : FS := fPre (fun ρ => wipeD ρ vs) f
abbrev fPf (i : Nat) (f : FS) : FS := fPost (fzAt i) f
theorem pss_wp (vs : List Nat) (h : PSS X ob Wx ss f) : PSS X ob Wx ss (fWp vs f) := pss_post (rly_wipe vs) h
theorem ps1_wp (vs : List Nat) (h : PS1 X ob Wx st f) : PS1 X ob Wx st (fWp vs f) := ps1_post (rly_wipe vs) h
theorem ps1_pw (vs : List Nat) (h : PS1 X ob Wx st f) : PS1 X ob Wx st (fPw vs f) := ps1_pre (rly_wipe vs) h
theorem ps1_pf (i : Nat) (h : PS1 X ob Wx st f) : PS1 X ob Wx st (fPf i f) := ps1_post (rly_fz i) h
end
/-! ### runs that promise nothing -/
theorem fnok_no {P : Program} {w : World} {K : PySem.W.Frag} {mg : Str → Option Value} {base : Heap} {CX : CXT} {k : Nat} {f : Addr} {fd : FuncData} {ps : List Str} {sp : Sp} (h : ∀ vs H Q E, ¬ sp vs H Q E) : FnOk P w K mg base CX k f fd ps sp :=
  ⟨fun vs H Q E q => (h vs H Q E q).elim, fun A outer s H args us vs Q E hr he hb hv hs => (h vs H Q E hs).elim⟩
theorem spQ_no {K : PySem.W.Frag} {n : Nat} : ∀ vs H Q E, ¬ spQ K n (fun _ => none) vs H Q E := by
  rintro vs H Q E ⟨W, ds, d, _, _, _, _, _, _, h, _⟩
  cases h
theorem spF_no {K : PySem.W.Frag} {n : Nat} : ∀ vs H Q E, ¬ spF K n (fun _ _ => none) vs H Q E := by
  rintro vs H Q E ⟨W, ds, μ, d, _, _, _, _, _, h, _⟩
  cases h
theorem spX_no {K : PySem.W.Frag} {n : Nat} : ∀ vs H Q E, ¬ spX K n (fun _ _ => none) vs H Q E := by
  rintro vs H Q E ⟨W, ds, μ, F, o, _, _, _, h, _⟩
  cases h
end Fw
/-! # a mirror reckoned: the rules as one -/
namespace Fw
open PySem PySem.Spec PyProof.Rows L2
/-! ### a choice is handed on -/
section
variable {c : Prop} [Decidable c]
def postK (p : List D → List D) (o : Option SO) : Option SO := o.map (postO p)
theorem seqK_ite (a b : Option SO) (g : FS) : seqK (if c then a else b) g = if c then seqK a g else seqK b g := by split <;> rfl
theorem turnK_ite (a b : Option SO) (g : D → List D → Option (List D)) (f : FS) (ds : List D) : turnK g f ds (if c then a else b) = if c then turnK g f ds a else turnK g f ds b := by split <;> rfl
theorem endK_ite (a b : Option SO) : endK (if c then a else b) = if c then endK a else endK b := by split <;> rfl
theorem rF_ite (a b : Option SO) : rF (if c then a else b) = if c then rF a else rF b := by split <;> rfl
theorem rX_ite (a b : Option SO) (ks : List Bool) (ds : List D) : rX ks ds (if c then a else b) = if c then rX ks ds a else rX ks ds b := by split <;> rfl
theorem varK_ite (a b : Option D) : varK (if c then a else b) = if c then varK a else varK b := by split <;> rfl
theorem blK_ite (a b : Option D) : blK (if c then a else b) = if c then blK a else blK b := by split <;> rfl
theorem andK_ite (a b r : Option D) : andK (if c then a else b) r = if c then andK a r else andK b r := by split <;> rfl
theorem orK_ite (a b r : Option D) : orK (if c then a else b) r = if c then orK a r else orK b r := by split <;> rfl
theorem notK_ite (a b : Option D) : notK (if c then a else b) = if c then notK a else notK b := by split <;> rfl
theorem osK_ite (a b : Option D) : osK (if c then a else b) = if c then osK a else osK b := by split <;> rfl
theorem m0K_ite (a b : Option D) (o : List Nat → List D → Option D) : m0K o (if c then a else b) = if c then m0K o a else m0K o b := by split <;> rfl
theorem m1K_ite (a b r : Option D) (o : List Nat → List D → Option D) : m1K o (if c then a else b) r = if c then m1K o a r else m1K o b r := by split <;> rfl
theorem rgK_ite (a b : Option D) : rgK (if c then a else b) = if c then rgK a else rgK b := by split <;> rfl
theorem eB_ite (a b : Option EO) (k : D → FX) : eB (if c then a else b) k = if c then eB a k else eB b k := by split <;> rfl
theorem eT_ite (a b : Option EO) (k : Bool → FX) : eT (if c then a else b) k = if c then eT a k else eT b k := by split <;> rfl
theorem eS_ite (a b : Option EO) (k : D → FS) : eS (if c then a else b) k = if c then eS a k else eS b k := by split <;> rfl
theorem aB_ite (a b : Option AO) (k : List AV → List D → List D → Option EO) : aB (if c then a else b) k = if c then aB a k else aB b k := by split <;> rfl
theorem eA_ite (a b : Option EO) (k : D → List D → List D → Option AO) : eA (if c then a else b) k = if c then eA a k else eA b k := by split <;> rfl
theorem aoCons_ite (a b : Option AO) (x : AV) : aoCons x (if c then a else b) = if c then aoCons x a else aoCons x b := by split <;> rfl
theorem postK_ite (a b : Option SO) (p : List D → List D) : postK p (if c then a else b) = if c then postK p a else postK p b := by split <;> rfl
theorem bind_ite {α β : Type} (a b : Option α) (f : α → Option β) : (if c then a else b).bind f = if c then a.bind f else b.bind f := by split <;> rfl
theorem map_ite {α β : Type} (a b : Option α) (f : α → β) : (if c then a else b).map f = if c then a.map f else b.map f := by split <;> rfl
theorem ite_some {α : Type} (a b : α) : (if c then some a else some b) = some (if c then a else b) := by split <;> rfl
end
theorem fPost_eq (p : List D → List D) (f : FS) (x0 : D) (ρ μ : List D) : fPost p f (x0 :: ρ) μ = postK p (f (x0 :: ρ) μ) := rfl
theorem fPre_eq (p : List D → List D) (f : FS) (x0 : D) (ρ μ : List D) : fPre p f (x0 :: ρ) μ = f (p (x0 :: ρ)) μ := rfl
theorem postK_nx (p : List D → List D) (ρ μ : List D) : postK p (some (.nx ρ μ)) = some (.nx (p ρ) μ) := rfl
theorem postK_rt (p : List D → List D) (d : D) (ρ μ : List D) : postK p (some (.rt d ρ μ)) = some (.rt d ρ μ) := rfl
theorem postK_ex (p : List D → List D) (c : Str) (fs : List (Str × D)) (ρ μ : List D) : postK p (some (.ex c fs ρ μ)) = some (.ex c fs ρ μ) := rfl
theorem fzAt_eq (i : Nat) (x0 : D) (ρ : List D) : fzAt i (x0 :: ρ) = fzK i (x0 :: ρ) (x0 :: ρ)[i]? := rfl
theorem fzK_lst (i : Nat) (ρ ds : List D) : fzK i ρ (some (.lst ds)) = ρ := rfl
/-! ### and, or where the second is asked or not -/
theorem andK_r (b : Bool) (r : Option D) : andK (some (.bl b)) r = if b = true then r else some (.bl false) := by cases b <;> rfl
theorem orK_r (b : Bool) (r : Option D) : orK (some (.bl b)) r = if b = true then some (.bl true) else r := by cases b <;> rfl
/-! ### sizes -/
theorem LIM_eq : LIM = 1000000 := rfl
theorem lk {n : Nat} (h : n ≤ 1000000) : n ≤ LIM := h
theorem dAdd_strK {a b : List Nat} (h : a.length + b.length ≤ 1000000) : dAdd (.str a) (.str b) = some (.str (a ++ b)) := by rw [dAdd_str, if_pos (lk h)]
theorem dIAdd_strK {a b : List Nat} (h : a.length + b.length ≤ 1000000) : dIAdd (.str a) (.str b) = some (.str (a ++ b)) := if_pos h
theorem dIAdd_int (a b : Int) : dIAdd (.int a) (.int b) = some (.int (a + b)) := rfl
theorem dAdd_lstK {a b : List D} (h : a.length + b.length ≤ 1000000) : dAdd (.lst a) (.lst b) = some (.lst (a ++ b)) := by rw [dAdd_lst, if_pos (lk h)]
theorem dAdd_mlstK {a b : List D} (h : dataL a = true) (h' : a.length + b.length ≤ 1000000) : dAdd (.ml a) (.lst b) = some (.lst (a ++ b)) := by rw [dAdd_mlst, if_pos h, if_pos (lk h')]
theorem dAdd_tupK {a b : List D} (h : a.length + b.length ≤ 1000000) (h1 : dataL a = true) (h2 : dataL b = true) : dAdd (.tup a) (.tup b) = some (.tup (a ++ b)) := by rw [dAdd_tup, if_pos ⟨lk h, h1, h2⟩]
theorem dLen_strK {s : List Nat} (h : s.length ≤ 1000000) : dLen (.str s) = some (.int s.length) := by rw [dLen_str, if_pos (lk h)]
theorem dSl_strK {s : List Nat} {lo hi : Option Int} (h : s.length ≤ 1000000) : dSl (.str s) lo hi = some (.str (cut s lo hi)) := by rw [dSl_str, if_pos (lk h)]
theorem dSl_tupK {ds : List D} {lo hi : Option Int} (h : dataL ds = true) : dSl (.tup ds) lo hi = some (.tup (cut ds lo hi)) := by rw [dSl_tup, if_pos h]
theorem itemsF_tupK {ds : List D} (h : dataL ds = true) : itemsF (.tup ds) = some ds := if_pos h
theorem itemsQ_tupK {ds : List D} (h : dataL ds = true) : itemsQ (.tup ds) = some ds := if_pos h
theorem itemsQ_mlK {ds : List D} (h : dataL ds = true) : itemsQ (.ml ds) = some ds := if_pos h
theorem rgK_intK {j : Int} (h : -1000000000000000000 ≤ j ∧ j < 1000000000000000000) : rgK (some (.int j)) = some (rangeD 0 j) := by
  rw [rgK_int, if_pos (small62_of (by omega) (by omega))]
theorem rg2K_intK {i j : Int} (h : -1000000000000000000 ≤ i ∧ i < 1000000000000000000) (h' : -1000000000000000000 ≤ j ∧ j < 1000000000000000000) : rg2K (.int i) (.int j) = some (rangeD i j) := by
  rw [rg2K_int, if_pos ⟨small62_of (by omega) (by omega), small62_of (by omega) (by omega)⟩]
theorem dSub_int (i j : Int) : dSub (.int i) (.int j) = some (.int (i - j)) := rfl
theorem dMul_intK {i j : Int} (h : (-18446744073709551616 < i ∧ i < 18446744073709551616) ∨ (-18446744073709551616 < j ∧ j < 18446744073709551616)) : dMul (.int i) (.int j) = some (.int (i * j)) := if_pos (c := cMul i j = true) (decide_eq_true h)
theorem dMod_intK {i j : Int} (h : 0 < j) : dMod (.int i) (.int j) = some (.int (i % j)) := if_pos (c := decide (0 < j) = true) (decide_eq_true h)
theorem dFdiv_intK {i j : Int} (h : 0 < j ∧ j < 1073741824) : dFdiv (.int i) (.int j) = some (.int (i / j)) := if_pos (c := decide (0 < j ∧ j < 1073741824) = true) (decide_eq_true h)
theorem dDivmod_intK {i j : Int} (h : 0 < j ∧ j < 1073741824) : dDivmod (.int i) (.int j) = some (.tup [.int (i / j), .int (i % j)]) := if_pos h
theorem log2_small {i : Int} (h : -1000000000000000000 ≤ i ∧ i < 1000000000000000000) : i.natAbs.log2 < 1920 := by
  have h1 : i.natAbs < 2 ^ 64 := by omega
  by_cases z : i.natAbs = 0
  · rw [z]; decide
  · exact Nat.lt_trans ((Nat.log2_lt z).mpr h1) (by decide)
theorem dStrI_intK {i : Int} (h : -1000000000000000000 ≤ i ∧ i < 1000000000000000000) : dStrI (.int i) = some (.str (ofS (toString i))) := if_pos (log2_small h)
/-! ### items -/
theorem ixAt_lit {α : Type} (xs : List α) (n : Nat) : ixAt xs (OfNat.ofNat n : Int) = xs[n]? := ixAt_nat xs n
theorem ixAt_natc {α : Type} (xs : List α) (n : Nat) : ixAt xs (n : Int) = xs[n]? := ixAt_nat xs n
theorem ixAt_m1 {α : Type} (xs : List α) : ixAt xs (-1) = xs.getLast? := by
  unfold ixAt
  rw [if_neg (by decide), List.getLast?_eq_getElem?]
  cases xs with
  | nil => rfl
  | cons x xs =>
    rw [if_pos (by simp only [List.length_cons]; omega)]
    congr 1
    simp only [List.length_cons]
    omega
theorem ixAt_in {α : Type} [Inhabited α] {xs : List α} {i : Int} (h0 : 0 ≤ i) (h1 : i < (xs.length : Int)) : ixAt xs i = some (xs.getD i.toNat default) := by
  rw [ixAt_pos h0, List.getD_eq_getElem?_getD]
  have h : i.toNat < xs.length := by omega
  rw [List.getElem?_eq_getElem h]
  rfl
theorem dIx_strL (s : List Nat) (n : Nat) (h : s.length ≤ 1000000) : dIx (.str s) (.int (OfNat.ofNat n : Int)) = (s[n]?).map fun c => .str [c] := by rw [dIx_str, if_pos (lk h), ixAt_lit]
theorem dIx_strM (s : List Nat) (h : s.length ≤ 1000000) : dIx (.str s) (.int (-1)) = (s.getLast?).map fun c => .str [c] := by rw [dIx_str, if_pos (lk h), ixAt_m1]
theorem dIx_strI {s : List Nat} {i : Int} (h : s.length ≤ 1000000) (h0 : 0 ≤ i) (h1 : i < (s.length : Int)) : dIx (.str s) (.int i) = some (.str [s.getD i.toNat default]) := by rw [dIx_str, if_pos (lk h), ixAt_in h0 h1]; rfl
theorem ixAt_maps {α β : Type} (f : α → β) (xs : List α) (i : Int) : ixAt (xs.map f) i = (ixAt xs i).map f := ixAt_map f xs i
/-- a written list of texts, of numbers -/
def strsL : List D → List (List Nat)
  | .str s :: ds => s :: strsL ds
  | _ :: ds => [] :: strsL ds
  | [] => []
def allStr : List D → Bool
  | .str _ :: ds => allStr ds
  | _ :: _ => false
  | [] => true
theorem strsL_of : ∀ {ds : List D}, allStr ds = true → ds = (strsL ds).map D.str
  | [], _ => rfl
  | .str s :: ds, h => by
    show _ = D.str s :: (strsL ds).map D.str
    rw [← strsL_of (ds := ds) h]
  | .non :: _, h => nomatch h
  | .bl _ :: _, h => nomatch h
  | .int _ :: _, h => nomatch h
  | .tup _ :: _, h => nomatch h
  | .lst _ :: _, h => nomatch h
  | .ml _ :: _, h => nomatch h
  | .obj _ _ _ :: _, h => nomatch h
  | .fo _ _ _ :: _, h => nomatch h
  | .ref _ :: _, h => nomatch h
  | .un :: _, h => nomatch h
theorem strsL_nil : strsL [] = [] := rfl
theorem strsL_cons (s : List Nat) (ds : List D) : strsL (.str s :: ds) = s :: strsL ds := rfl
theorem allStr_nil : allStr [] = true := rfl
theorem allStr_cons (s : List Nat) (ds : List D) : allStr (.str s :: ds) = allStr ds := rfl
theorem ixAt_strs {d : D} {ds : List D} {i : Int} (h : allStr (d :: ds) = true) (h0 : 0 ≤ i) (h1 : i < ((strsL (d :: ds)).length : Int)) : ixAt (d :: ds) i = some (.str ((strsL (d :: ds)).getD i.toNat default)) := by
  have e := ixAt_map D.str (strsL (d :: ds)) i
  rw [← strsL_of h, ixAt_in h0 h1] at e
  exact e
def intsL : List D → List Int
  | .int s :: ds => s :: intsL ds
  | _ :: ds => 0 :: intsL ds
  | [] => []
def allInt : List D → Bool
  | .int _ :: ds => allInt ds
  | _ :: _ => false
  | [] => true
theorem intsL_of : ∀ {ds : List D}, allInt ds = true → ds = (intsL ds).map D.int
  | [], _ => rfl
  | .int s :: ds, h => by
    show _ = D.int s :: (intsL ds).map D.int
    rw [← intsL_of (ds := ds) h]
  | .non :: _, h => nomatch h
  | .bl _ :: _, h => nomatch h
  | .str _ :: _, h => nomatch h
  | .tup _ :: _, h => nomatch h
  | .lst _ :: _, h => nomatch h
  | .ml _ :: _, h => nomatch h
  | .obj _ _ _ :: _, h => nomatch h
  | .fo _ _ _ :: _, h => nomatch h
  | .ref _ :: _, h => nomatch h
  | .un :: _, h => nomatch h
theorem intsL_nil : intsL [] = [] := rfl
theorem intsL_cons (s : Int) (ds : List D) : intsL (.int s :: ds) = s :: intsL ds := rfl
theorem allInt_nil : allInt [] = true := rfl
theorem allInt_cons (s : Int) (ds : List D) : allInt (.int s :: ds) = allInt ds := rfl
theorem ixAt_ints {d : D} {ds : List D} {i : Int} (h : allInt (d :: ds) = true) (h0 : 0 ≤ i) (h1 : i < ((intsL (d :: ds)).length : Int)) : ixAt (d :: ds) i = some (.int ((intsL (d :: ds)).getD i.toNat default)) := by
  have e := ixAt_map D.int (intsL (d :: ds)) i
  rw [← intsL_of h, ixAt_in h0 h1] at e
  exact e
/-! ### data -/
theorem data_non : data .non = true := rfl
theorem data_bl (b : Bool) : data (.bl b) = true := rfl
theorem data_int (b : Int) : data (.int b) = true := rfl
theorem data_str (b : List Nat) : data (.str b) = true := rfl
theorem data_tup (ds : List D) : data (.tup ds) = dataL ds := rfl
theorem data_lst (ds : List D) : data (.lst ds) = dataL ds := rfl
theorem data_ml (ds : List D) : data (.ml ds) = false := rfl
theorem data_obj (c : Str) (ns : List Str) (ds : List D) : data (.obj c ns ds) = false := rfl
theorem data_fo (c : Str) (ns : List Str) (ds : List D) : data (.fo c ns ds) = false := rfl
theorem data_ref (k : Nat) : data (.ref k) = false := rfl
theorem dataL_nil : dataL [] = true := rfl
theorem dataL_cons (d : D) (ds : List D) : dataL (d :: ds) = (data d && dataL ds) := rfl
theorem dataL_append : ∀ a b : List D, dataL (a ++ b) = (dataL a && dataL b)
  | [], b => rfl
  | d :: a, b => by
    rw [List.cons_append, dataL_cons, dataL_cons, dataL_append a b, Bool.and_assoc]
theorem dataL_map {α : Type} {f : α → D} (h : ∀ a, data (f a) = true) : ∀ as : List α, dataL (as.map f) = true
  | [] => rfl
  | a :: as => by
    rw [List.map_cons, dataL_cons, h, dataL_map h as]
    rfl
theorem flL_data : ∀ {ds : List D}, dataL ds = true → flL ds = true
  | [], _ => rfl
  | d :: ds, h => by
    rw [dataL_cons, Bool.and_eq_true] at h
    rw [flL_cons, Bool.and_eq_true]
    exact ⟨by cases d <;> first | rfl | exact h.1, flL_data h.2⟩
theorem fz_fz : ∀ d : D, fz (fz d) = fz d := by
  intro d
  cases d with
  | tup ds => rw [fz_tup, fz_tup]; congr 1; exact go ds
  | lst ds => rw [fz_lst, fz_lst]; congr 1; exact go ds
  | ml ds => rw [fz_ml, fz_lst]; congr 1; exact go ds
  | obj c ns ds => rw [fz_obj, fz_fo]; congr 1; exact go ds
  | fo c ns ds => rw [fz_fo, fz_fo]; congr 1; exact go ds
  | _ => rfl
where go : ∀ ds : List D, fzL (fzL ds) = fzL ds
  | [] => rfl
  | d :: ds => by rw [fzL_cons, fzL_cons, fz_fz d, go ds]
theorem fzL_fzL : ∀ ds : List D, fzL (fzL ds) = fzL ds
  | [] => rfl
  | d :: ds => by rw [fzL_cons, fzL_cons, fz_fz d, fzL_fzL ds]
theorem fz_bls : fz .un = .un := rfl
/-! ### texts of one sign -/
theorem ltS (c d : Nat) : (([c] : List Nat) < [d]) ↔ c < d := by simp [List.cons_lt_cons_iff]
theorem dLe_sign (c d : Nat) : dLe (.str [c]) (.str [d]) = some (.bl (decide (c ≤ d))) := by
  rw [dLe_str]
  by_cases h : c ≤ d
  · rw [decide_eq_true h, decide_eq_false (by rw [ltS]; omega)]; rfl
  · rw [decide_eq_false h, decide_eq_true (by rw [ltS]; omega)]; rfl
theorem dIn_signK (c : Nat) (z : List Nat) : dIn (.str [c]) (.str z) = some (.bl (decide (c ∈ z))) := dIn_sign c z
theorem dNotIn_signK (c : Nat) (z : List Nat) : dNotIn (.str [c]) (.str z) = some (.bl (!decide (c ∈ z))) := dNotIn_sign c z

/-! ### lazy: what hangs on a test is not looked at ahead of it -/
def ifB (o : Option Bool) (f g : FS) (ρ μ : List D) : Option SO := o.bind fun b => if b = true then f ρ μ else g ρ μ
theorem fIf_k (t : FB) (f g : FS) (x0 : D) (ρ μ : List D) : fIf t f g (x0 :: ρ) μ = ifB (t (x0 :: ρ) μ) f g (x0 :: ρ) μ := rfl
theorem ifB_b (b : Bool) (f g : FS) (ρ μ : List D) : ifB (some b) f g ρ μ = if b = true then f ρ μ else g ρ μ := rfl
def ifQ (o : Option Bool) (f g : FQ) (ρ μ : List D) : Option D := o.bind fun b => if b = true then f ρ μ else g ρ μ
theorem qIf_k (t : FB) (f g : FQ) (x0 : D) (ρ μ : List D) : qIf t f g (x0 :: ρ) μ = ifQ (t (x0 :: ρ) μ) f g (x0 :: ρ) μ := rfl
theorem ifQ_b (b : Bool) (f g : FQ) (ρ μ : List D) : ifQ (some b) f g ρ μ = if b = true then f ρ μ else g ρ μ := rfl
def anB (o : Option Bool) (g : FB) (ρ μ : List D) : Option Bool := o.bind fun b => if b = true then g ρ μ else some false
def orB (o : Option Bool) (g : FB) (ρ μ : List D) : Option Bool := o.bind fun b => if b = true then some true else g ρ μ
theorem bAnd_k (t u : FB) (x0 : D) (ρ μ : List D) : bAnd t u (x0 :: ρ) μ = anB (t (x0 :: ρ) μ) u (x0 :: ρ) μ := rfl
theorem bOr_k (t u : FB) (x0 : D) (ρ μ : List D) : bOr t u (x0 :: ρ) μ = orB (t (x0 :: ρ) μ) u (x0 :: ρ) μ := rfl
theorem anB_b (b : Bool) (g : FB) (ρ μ : List D) : anB (some b) g ρ μ = if b = true then g ρ μ else some false := rfl
theorem orB_b (b : Bool) (g : FB) (ρ μ : List D) : orB (some b) g ρ μ = if b = true then some true else g ρ μ := rfl
def anQ (o : Option D) (g : FQ) (ρ μ : List D) : Option D := andK o (g ρ μ)
def orQ (o : Option D) (g : FQ) (ρ μ : List D) : Option D := orK o (g ρ μ)
theorem qAnd_k (f g : FQ) (x0 : D) (ρ μ : List D) : qAnd f g (x0 :: ρ) μ = anQ (f (x0 :: ρ) μ) g (x0 :: ρ) μ := qAnd_eq f g x0 ρ μ
theorem qOr_k (f g : FQ) (x0 : D) (ρ μ : List D) : qOr f g (x0 :: ρ) μ = orQ (f (x0 :: ρ) μ) g (x0 :: ρ) μ := qOr_eq f g x0 ρ μ
theorem anQ_b (b : Bool) (g : FQ) (ρ μ : List D) : anQ (some (.bl b)) g ρ μ = if b = true then g ρ μ else some (.bl false) := by cases b <;> rfl
theorem orQ_b (b : Bool) (g : FQ) (ρ μ : List D) : orQ (some (.bl b)) g ρ μ = if b = true then some (.bl true) else g ρ μ := by cases b <;> rfl
def ch1 (o o' : D → D → Option D) (x y : Option D) (h : FQ) (ρ μ : List D) : Option D := x.bind fun x => y.bind fun y => andK (o x y) ((h ρ μ).bind fun z => o' y z)
theorem q3_k (o o' : D → D → Option D) (f g h : FQ) (x0 : D) (ρ μ : List D) : q3 o o' f g h (x0 :: ρ) μ = ch1 o o' (f (x0 :: ρ) μ) (g (x0 :: ρ) μ) h (x0 :: ρ) μ := q3_eq o o' f g h x0 ρ μ
def ch2 (o' : D → D → Option D) (r : Option D) (y : D) (h : FQ) (ρ μ : List D) : Option D := andK r ((h ρ μ).bind fun z => o' y z)
theorem ch1_s (o o' : D → D → Option D) (x y : D) (h : FQ) (ρ μ : List D) : ch1 o o' (some x) (some y) h ρ μ = ch2 o' (o x y) y h ρ μ := rfl
theorem ch2_b (o' : D → D → Option D) (b : Bool) (y : D) (h : FQ) (ρ μ : List D) : ch2 o' (some (.bl b)) y h ρ μ = if b = true then (h ρ μ).bind fun z => o' y z else some (.bl false) := by cases b <;> rfl
section
variable {c : Prop} [Decidable c]
theorem ifB_ite (a b : Option Bool) (f g : FS) (ρ μ : List D) : ifB (if c then a else b) f g ρ μ = if c then ifB a f g ρ μ else ifB b f g ρ μ := by split <;> rfl
theorem ifQ_ite (a b : Option Bool) (f g : FQ) (ρ μ : List D) : ifQ (if c then a else b) f g ρ μ = if c then ifQ a f g ρ μ else ifQ b f g ρ μ := by split <;> rfl
theorem anB_ite (a b : Option Bool) (g : FB) (ρ μ : List D) : anB (if c then a else b) g ρ μ = if c then anB a g ρ μ else anB b g ρ μ := by split <;> rfl
theorem orB_ite (a b : Option Bool) (g : FB) (ρ μ : List D) : orB (if c then a else b) g ρ μ = if c then orB a g ρ μ else orB b g ρ μ := by split <;> rfl
theorem anQ_ite (a b : Option D) (g : FQ) (ρ μ : List D) : anQ (if c then a else b) g ρ μ = if c then anQ a g ρ μ else anQ b g ρ μ := by split <;> rfl
theorem orQ_ite (a b : Option D) (g : FQ) (ρ μ : List D) : orQ (if c then a else b) g ρ μ = if c then orQ a g ρ μ else orQ b g ρ μ := by split <;> rfl
theorem ch2_ite (o' : D → D → Option D) (a b : Option D) (y : D) (h : FQ) (ρ μ : List D) : ch2 o' (if c then a else b) y h ρ μ = if c then ch2 o' a y h ρ μ else ch2 o' b y h ρ μ := by split <;> rfl
/-! ### a truth out of a choice -/
theorem ite_bl0 (b : Bool) : (if c then some (D.bl b) else some (.bl false)) = some (.bl (decide c && b)) := by split <;> simp [*]
theorem ite_bl1 (b : Bool) : (if c then some (D.bl true) else some (.bl b)) = some (.bl (decide c || b)) := by split <;> simp [*]
theorem ite_bl2 (b : Bool) : (if c then some (D.bl false) else some (.bl b)) = some (.bl (!decide c && b)) := by split <;> simp [*]
theorem ite_bl3 (b : Bool) : (if c then some (D.bl b) else some (.bl true)) = some (.bl (!decide c || b)) := by split <;> simp [*]
theorem ite_b0 (b : Bool) : (if c then some b else some false) = some (decide c && b) := by split <;> simp [*]
theorem ite_b1 (b : Bool) : (if c then some true else some b) = some (decide c || b) := by split <;> simp [*]
theorem ite_b2 (b : Bool) : (if c then some false else some b) = some (!decide c && b) := by split <;> simp [*]
theorem ite_b3 (b : Bool) : (if c then some b else some true) = some (!decide c || b) := by split <;> simp [*]
end
theorem natc_add (m n : Nat) : ((m + n : Nat) : Int) = (m : Int) + (n : Int) := Int.natCast_add m n
def kset := And.intro (And.intro (And.intro (And.intro (And.intro (And.intro (And.intro (And.intro (@runQ_eq) (And.intro (@fSeq_eq) (@seqK_nx))) (And.intro (@seqK_rt) (And.intro (@seqK_ex) (@turnK_nx)))) (And.intro (And.intro (@turnK_rt) (And.intro (@endK_rt) (@endK_nx))) (And.intro (@qVar_zero) (And.intro (@qVar_succ) (@varK_int))))) (And.intro (And.intro (And.intro (@varK_str) (And.intro (@varK_bl) (@varK_non))) (And.intro (@varK_tup) (And.intro (@varK_lst) (@varK_ml)))) (And.intro (And.intro (@qB_eq) (And.intro (@blK_bl) (@qNot_eq))) (And.intro (@notK_b) (And.intro (@fApp_eq) (@fFz_eq)))))) (And.intro (And.intro (And.intro (And.intro (@fzK_ml) (And.intro (@aR1_eq) (@aR2_eq))) (And.intro (@oSome_eq) (And.intro (@osK_int) (@oNone_eq)))) (And.intro (And.intro (@qM1_eq) (And.intro (@m1K_str) (@qM0_eq))) (And.intro (@m0K_str) (And.intro (@dAdd_int) (@dEq_int))))) (And.intro (And.intro (And.intro (@dNe_int) (And.intro (@dEq_str) (@dNe_str))) (And.intro (@dLt_int) (And.intro (@dLe_int) (@dGt_int)))) (And.intro (And.intro (@dGe_int) (And.intro (@dLen_lst) (@dLen_ml))) (And.intro (@dLen_tup) (And.intro (@o1_eq) (@o2_eq))))))) (And.intro (And.intro (And.intro (And.intro (And.intro (@oStr_eq) (And.intro (@itemsF_lst) (@itemsF_str))) (And.intro (@dSl_lst) (And.intro (@qC_eq) (@q2_eq)))) (And.intro (And.intro (@qTup_eq) (And.intro (@qN_eq) (@qSl_eq))) (And.intro (@qCall_eq) (And.intro (@qRun_eq) (@qIsi_eq))))) (And.intro (And.intro (And.intro (@aNil_eq) (And.intro (@aCons_eq) (@aData_eq))) (And.intro (@aF_eq) (And.intro (@aQ_eq) (@bNot_eq)))) (And.intro (And.intro (@fNext_eq) (And.intro (@fSet_eq) (@fSetN_eq))) (And.intro (@fSetT_eq) (And.intro (@fRet_eq) (@fRetN_eq)))))) (And.intro (And.intro (And.intro (And.intro (@fFor_eq) (And.intro (@fAug_eq) (@tgN_eq))) (And.intro (@tgT_eq) (And.intro (@tgs_cons) (@tgs_nil)))) (And.intro (And.intro (@dataL_ints) (And.intro (@dataL_strs) (@xB_eq))) (And.intro (@eB_ok) (And.intro (@eB_ex) (@xT_eq))))) (And.intro (And.intro (And.intro (@eT_bl) (And.intro (@eT_ex) (@xS_eq))) (And.intro (@eS_ok) (And.intro (@eS_ex) (@xQ_eq)))) (And.intro (And.intro (@xN_eq) (And.intro (@xMove_eq) (@xOp_eq))) (And.intro (@xNot_eq) (And.intro (@xAnd_eq) (@xOr_eq)))))))) (And.intro (And.intro (And.intro (And.intro (And.intro (And.intro (@xPB_eq) (And.intro (@xIsi_eq) (@aB_ok))) (And.intro (@aB_ex) (And.intro (@xA_eq) (@xaNil_eq)))) (And.intro (And.intro (@eA_ok) (And.intro (@eA_ex) (@xaCons_eq))) (And.intro (@aoCons_ok) (And.intro (@aoCons_ex) (@xaSlot_eq))))) (And.intro (And.intro (And.intro (@avals_nil) (And.intro (@avals_val) (@xTup_eq))) (And.intro (@xCall_eq) (And.intro (@xRunQ_eq) (@xRun_eq)))) (And.intro (And.intro (@xPut_ok) (And.intro (@xPut_ex) (@mo_nil))) (And.intro (@mo_val) (And.intro (@mo_slot) (@mi_nil)))))) (And.intro (And.intro (And.intro (And.intro (@mi_val) (And.intro (@mi_slot) (@xMethS_eq))) (And.intro (@mSK_obj) (And.intro (@xMethQ_eq) (@mQK_obj)))) (And.intro (And.intro (@put1_one) (And.intro (@pget_nil) (@pget_cons))) (And.intro (@pput_nil) (And.intro (@pput_cons) (@qFld_eq))))) (And.intro (And.intro (And.intro (@dFld_obj) (And.intro (@dFld_fo) (@dFld_ref))) (And.intro (@dFo_obj) (And.intro (@dFo_fo) (@varK_obj)))) (And.intro (And.intro (@varK_fo) (And.intro (@varK_ref) (@qRunF_eq))) (And.intro (@qMethF_eq) (And.intro (@clsOf_obj) (@clsOf_fo))))))) (And.intro (And.intro (And.intro (And.intro (And.intro (@clsOf_ref) (And.intro (@xMake_eq) (@fSetX_eq))) (And.intro (@fSetTX_eq) (And.intro (@fExX_eq) (@fRetX_eq)))) (And.intro (And.intro (@ifK_bl) (And.intro (@fIfX_eq) (@fFldX_eq))) (And.intro (@fldK_obj) (And.intro (@fFldAug_eq) (@xAug_eq))))) (And.intro (And.intro (And.intro (@iAdd_int) (And.intro (@iSub_int) (@fRaise_eq))) (And.intro (@isUn_obj) (And.intro (@isUn_fo) (@isUn_ml)))) (And.intro (And.intro (@isUn_lst) (And.intro (@isUn_tup) (@isUn_int))) (And.intro (@isUn_str) (And.intro (@isUn_bl) (@isUn_non)))))) (And.intro (And.intro (And.intro (And.intro (@isUn_ref) (And.intro (@fl_int) (@fl_str))) (And.intro (@fl_bl) (And.intro (@fl_non) (@fl_ref)))) (And.intro (And.intro (@fl_tup) (And.intro (@fl_lst) (@flL_nil))) (And.intro (@flL_cons) (And.intro (@resF_bl) (@resF_int))))) (And.intro (And.intro (And.intro (@resF_str) (And.intro (@resF_non) (@resF_tup))) (And.intro (@resF_ml) (And.intro (@fzL_nil) (@fzL_cons)))) (And.intro (And.intro (@fz_int) (And.intro (@fz_str) (@fz_bl))) (And.intro (@fz_non) (And.intro (@fz_ref) (@fz_tup))))))))) (And.intro (And.intro (And.intro (And.intro (And.intro (And.intro (And.intro (@fz_lst) (And.intro (@fz_ml) (@fz_obj))) (And.intro (@fz_fo) (And.intro (@runF_eq) (@rF_rt)))) (And.intro (And.intro (@rF_nx) (And.intro (@runX_eq) (@rX_rt))) (And.intro (@rX_nx) (And.intro (@rX_ex) (@fin_nil))))) (And.intro (And.intro (And.intro (@fin_t) (And.intro (@fin_f) (@aR3_eq))) (And.intro (@dMin_int) (And.intro (@dMax_int) (@wipeD_nil)))) (And.intro (And.intro (@wipeD_cons) (And.intro (@bYes_eq) (@itemsQ_lst))) (And.intro (@itemsQ_str) (And.intro (@dIs_bl) (@dIsNot_bl)))))) (And.intro (And.intro (And.intro (And.intro (@dIs_nn) (And.intro (@dIsNot_nn) (@asL_lst))) (And.intro (@noLL_nil) (And.intro (@noLL_cons) (@noL_str)))) (And.intro (And.intro (@noL_int) (And.intro (@noL_bl) (@noL_non))) (And.intro (@noL_tup) (And.intro (@fzL_strs) (@fzL_ints))))) (And.intro (And.intro (And.intro (@boolsD_map) (And.intro (@q1_eq) (@dNeg_int))) (And.intro (@tyN_NoneType) (And.intro (@tyN_bool) (@tyN_int)))) (And.intro (And.intro (@tyN_str) (And.intro (@tyN_list) (@tyN_tuple))) (And.intro (@tyN_ml) (And.intro (@kitB_NoneType_bool) (@kitB_NoneType_int))))))) (And.intro (And.intro (And.intro (And.intro (And.intro (@kitB_NoneType_str) (And.intro (@kitB_NoneType_list) (@kitB_NoneType_tuple))) (And.intro (@kitB_bool_bool) (And.intro (@kitB_bool_int) (@kitB_bool_str)))) (And.intro (And.intro (@kitB_bool_list) (And.intro (@kitB_bool_tuple) (@kitB_int_bool))) (And.intro (@kitB_int_int) (And.intro (@kitB_int_str) (@kitB_int_list))))) (And.intro (And.intro (And.intro (@kitB_int_tuple) (And.intro (@kitB_str_bool) (@kitB_str_int))) (And.intro (@kitB_str_str) (And.intro (@kitB_str_list) (@kitB_str_tuple)))) (And.intro (And.intro (@kitB_list_bool) (And.intro (@kitB_list_int) (@kitB_list_str))) (And.intro (@kitB_list_list) (And.intro (@kitB_list_tuple) (@kitB_tuple_bool)))))) (And.intro (And.intro (And.intro (And.intro (@kitB_tuple_int) (And.intro (@kitB_tuple_str) (@kitB_tuple_list))) (And.intro (@kitB_tuple_tuple) (And.intro (@fIf_k) (@ifB_b)))) (And.intro (And.intro (@qIf_k) (And.intro (@ifQ_b) (@bAnd_k))) (And.intro (@bOr_k) (And.intro (@anB_b) (@orB_b))))) (And.intro (And.intro (And.intro (@qAnd_k) (And.intro (@qOr_k) (@anQ_b))) (And.intro (@orQ_b) (And.intro (@q3_k) (@ch1_s)))) (And.intro (And.intro (@ch2_b) (And.intro (@ifB_ite) (@ifQ_ite))) (And.intro (@anB_ite) (And.intro (@orB_ite) (@anQ_ite)))))))) (And.intro (And.intro (And.intro (And.intro (And.intro (And.intro (@orQ_ite) (And.intro (@ch2_ite) (@ite_bl0))) (And.intro (@ite_bl1) (And.intro (@ite_bl2) (@ite_bl3)))) (And.intro (And.intro (@ite_b0) (And.intro (@ite_b1) (@ite_b2))) (And.intro (@ite_b3) (And.intro (@natc_add) (@fPost_eq))))) (And.intro (And.intro (And.intro (@fPre_eq) (And.intro (@postK_nx) (@postK_rt))) (And.intro (@postK_ex) (And.intro (@fzAt_eq) (@fzK_lst)))) (And.intro (And.intro (@dAdd_strK) (And.intro (@dIAdd_strK) (@dIAdd_int))) (And.intro (@dAdd_lstK) (And.intro (@dAdd_mlstK) (@dAdd_tupK)))))) (And.intro (And.intro (And.intro (And.intro (@dLen_strK) (And.intro (@dSl_strK) (@dSl_tupK))) (And.intro (@itemsF_tupK) (And.intro (@itemsQ_tupK) (@itemsQ_mlK)))) (And.intro (And.intro (@rgK_intK) (And.intro (@rg2K_intK) (@dSub_int))) (And.intro (@dMul_intK) (And.intro (@dMod_intK) (@dFdiv_intK))))) (And.intro (And.intro (And.intro (@dDivmod_intK) (And.intro (@dStrI_intK) (@ixAt_natc))) (And.intro (@ixAt_m1) (And.intro (@ixAt_in) (@dIx_strI)))) (And.intro (And.intro (@ixAt_maps) (And.intro (@strsL_nil) (@strsL_cons))) (And.intro (@allStr_nil) (And.intro (@allStr_cons) (@ixAt_strs))))))) (And.intro (And.intro (And.intro (And.intro (And.intro (@intsL_nil) (And.intro (@intsL_cons) (@allInt_nil))) (And.intro (@allInt_cons) (And.intro (@ixAt_ints) (@data_non)))) (And.intro (And.intro (@data_bl) (And.intro (@data_int) (@data_str))) (And.intro (@data_tup) (And.intro (@data_lst) (@data_ml))))) (And.intro (And.intro (And.intro (@data_obj) (And.intro (@data_fo) (@data_ref))) (And.intro (@dataL_nil) (And.intro (@dataL_cons) (@dataL_append)))) (And.intro (And.intro (@fz_fz) (And.intro (@fzL_fzL) (@dLe_sign))) (And.intro (@dIn_signK) (And.intro (@dNotIn_signK) (@dIx_lst)))))) (And.intro (And.intro (And.intro (And.intro (@dIx_ml) (And.intro (@dIx_tup) (@bind_ite))) (And.intro (@map_ite) (And.intro (@seqK_ite) (@turnK_ite)))) (And.intro (And.intro (@endK_ite) (And.intro (@rF_ite) (@rX_ite))) (And.intro (@varK_ite) (And.intro (@blK_ite) (@andK_ite))))) (And.intro (And.intro (And.intro (@orK_ite) (And.intro (@notK_ite) (@osK_ite))) (And.intro (@m0K_ite) (And.intro (@m1K_ite) (@rgK_ite)))) (And.intro (And.intro (@eB_ite) (And.intro (@eT_ite) (@eS_ite))) (And.intro (And.intro (@aB_ite) (@eA_ite)) (And.intro (@aoCons_ite) (@postK_ite)))))))))
end Fw
/-! # loops, elements, equality: for the plain law -/
namespace Fw
open PySem PySem.Spec PyProof.Rows L2
section
variable {α τ : Type} {g : D → List D → Option (List D)} {b : FS} {μ : List D}
theorem forL_inv (A : α → D) (S : τ → List D) (I : τ → List α → Prop) (step : τ → α → τ)
    (h : ∀ s a rest, I s (a :: rest) → ∃ ρ1, g (A a) (S s) = some ρ1 ∧ b ρ1 μ = some (.nx (S (step s a)) μ) ∧ I (step s a) rest) :
    ∀ as s, I s as → forL g b (S s) μ (as.map A) = some (.nx (S (as.foldl step s)) μ) ∧ I (as.foldl step s) []
  | [], s, hi => ⟨rfl, hi⟩
  | a :: as, s, hi => by
    obtain ⟨ρ1, h1, h2, h3⟩ := h s a as hi
    obtain ⟨k1, k2⟩ := forL_inv A S I step h as (step s a) h3
    exact ⟨(forL_turn h1 h2).trans k1, k2⟩
/-- a loop that keeps to I; the state behind exists -/
theorem forL_ex (A : α → D) (S : τ → List D) (I : τ → List α → Prop)
    (h : ∀ s a rest, I s (a :: rest) → ∃ ρ1 s', g (A a) (S s) = some ρ1 ∧ b ρ1 μ = some (.nx (S s') μ) ∧ I s' rest) :
    ∀ as s, I s as → ∃ s', forL g b (S s) μ (as.map A) = some (.nx (S s') μ) ∧ I s' []
  | [], s, hi => ⟨s, rfl, hi⟩
  | a :: as, s, hi => by
    obtain ⟨ρ1, s', h1, h2, h3⟩ := h s a as hi
    obtain ⟨s2, k1, k2⟩ := forL_ex A S I h as s' h3
    exact ⟨s2, (forL_turn h1 h2).trans k1, k2⟩
end
theorem rangeD_map (j : Int) : rangeD 0 j = (List.range j.toNat).map fun (i : Nat) => D.int (i : Int) := by
  unfold rangeD
  rw [Int.sub_zero]
  refine List.map_congr_left fun i _ => ?_
  rw [Int.zero_add]
theorem rangeD_map2 (i j : Int) : rangeD i j = (List.range (j - i).toNat).map fun (k : Nat) => D.int (i + (k : Int)) := rfl
/-! ### equality of plain trees -/
theorem cok_of {s : List Nat} (h : ∀ c ∈ s, c < 1114112) : cok s = true := by
  unfold cok
  rw [List.all_eq_true]
  intro c hc
  exact decide_eq_true (h c hc)
theorem pl_non (h : Nat) : pl h .non = true := by cases h <;> rfl
theorem pl_int (h : Nat) (i : Int) : pl h (.int i) = true := by cases h <;> rfl
theorem pl_str (h : Nat) (s : List Nat) : pl h (.str s) = cok s := by cases h <;> rfl
theorem pl_tup (h : Nat) (ds : List D) : pl (h + 1) (.tup ds) = plL h ds := rfl
theorem pl_lst (h : Nat) (ds : List D) : pl (h + 1) (.lst ds) = plL h ds := rfl
theorem plL_nil (h : Nat) : plL h [] = true := by cases h <;> rfl
theorem plL_cons (h : Nat) (d : D) (ds : List D) : plL h (d :: ds) = (pl h d && plL h ds) := by cases h <;> rfl
theorem plL_map {α : Type} {h : Nat} {f : α → D} : ∀ {as : List α}, (∀ a ∈ as, pl h (f a) = true) → plL h (as.map f) = true
  | [], _ => plL_nil h
  | a :: as, q => by
    rw [List.map_cons, plL_cons, q a (List.mem_cons_self ..), plL_map fun x hx => q x (List.mem_cons_of_mem _ hx)]
    rfl
theorem plL_all {h : Nat} : ∀ {ds : List D}, plL h ds = true ↔ ∀ d ∈ ds, pl h d = true
  | [] => by rw [plL_nil]; simp
  | d :: ds => by
    rw [plL_cons, Bool.and_eq_true, plL_all, List.forall_mem_cons]
noncomputable def eqT (x y : D) : Bool := @decide (x = y) (Classical.propDecidable _)
theorem eqT_iff {x y : D} : eqT x y = true ↔ x = y := by unfold eqT; exact @decide_eq_true_iff _ (Classical.propDecidable _)
theorem eqT_self (x : D) : eqT x x = true := eqT_iff.mpr rfl
theorem eqT_neg {x y : D} (h : x ≠ y) : eqT x y = false := by
  cases e : eqT x y with
  | false => rfl
  | true => exact absurd (eqT_iff.mp e) h
theorem dEq_eqT {x y : D} (hx : pl 50 x = true) (hy : pl 50 y = true) : dEq x y = some (.bl (eqT x y)) := by
  obtain ⟨b, h1, h2⟩ := dEq_pl hx hy (by omega) (by omega)
  rw [h1]
  cases b with
  | true => rw [eqT_iff.mpr (h2.mp rfl)]
  | false =>
    rw [eqT_neg]
    intro z
    exact absurd (h2.mpr z) (by decide)
theorem dNe_eqT {x y : D} (hx : pl 50 x = true) (hy : pl 50 y = true) : dNe x y = some (.bl (!eqT x y)) := by
  obtain ⟨b, h1, h2⟩ := dNe_pl hx hy (by omega) (by omega)
  rw [h1]
  cases b with
  | true => rw [eqT_iff.mpr (h2.mp rfl)]
  | false =>
    rw [eqT_neg]
    intro z
    exact absurd (h2.mpr z) (by decide)
theorem dEq_lstK {x y : List D} (hx : pl 50 (.lst x) = true) (hy : pl 50 (.lst y) = true) : dEq (.lst x) (.lst y) = some (.bl (eqT (.lst x) (.lst y))) := dEq_eqT hx hy
theorem dNe_lstK {x y : List D} (hx : pl 50 (.lst x) = true) (hy : pl 50 (.lst y) = true) : dNe (.lst x) (.lst y) = some (.bl (!eqT (.lst x) (.lst y))) := dNe_eqT hx hy
theorem dEq_tupK {x y : List D} (hx : pl 50 (.tup x) = true) (hy : pl 50 (.tup y) = true) : dEq (.tup x) (.tup y) = some (.bl (eqT (.tup x) (.tup y))) := dEq_eqT hx hy
theorem dNe_tupK {x y : List D} (hx : pl 50 (.tup x) = true) (hy : pl 50 (.tup y) = true) : dNe (.tup x) (.tup y) = some (.bl (!eqT (.tup x) (.tup y))) := dNe_eqT hx hy
theorem dEq_mlK {x y : List D} (hx : pl 50 (.lst x) = true) (hy : pl 50 (.lst y) = true) : dEq (.ml x) (.lst y) = some (.bl (eqT (.lst x) (.lst y))) := dEq_lstK hx hy
theorem dNe_mlK {x y : List D} (hx : pl 50 (.lst x) = true) (hy : pl 50 (.lst y) = true) : dNe (.ml x) (.lst y) = some (.bl (!eqT (.lst x) (.lst y))) := dNe_lstK hx hy
theorem dEq_lmK {x y : List D} (hx : pl 50 (.lst x) = true) (hy : pl 50 (.lst y) = true) : dEq (.lst x) (.ml y) = some (.bl (eqT (.lst x) (.lst y))) := dEq_lstK hx hy
theorem map_str_inj {a b : List (List Nat)} : a.map D.str = b.map D.str ↔ a = b := by
  constructor
  · intro h
    exact List.map_inj_right (fun _ _ z => D.str.inj z) |>.mp h
  · intro h; rw [h]
theorem map_int_inj {a b : List Int} : a.map D.int = b.map D.int ↔ a = b := by
  constructor
  · intro h
    exact List.map_inj_right (fun _ _ z => D.int.inj z) |>.mp h
  · intro h; rw [h]
/-! ### slices -/
def lcK (g : D → List D → Option (List D)) (t : FB) (f : FQ) (ρ μ : List D) (o : Option (List D)) : Option (List D) := o.bind fun ds => if ds.length ≤ LIM then lcL g t f ρ μ ds else none
theorem sIx_nn {n z : Nat} {k : Int} (h : 0 ≤ k) : HT.sIx n z (some k) = min k.toNat n := by
  have := HT.sIx_nat n z k.toNat
  rwa [Int.toNat_of_nonneg h] at this
theorem cut_lo {α : Type} {xs : List α} {k : Int} (h : 0 ≤ k) : cut xs (some k) none = xs.drop k.toNat := by
  have := cut_drop xs k.toNat
  rwa [Int.toNat_of_nonneg h] at this
theorem cut_hi {α : Type} {xs : List α} {k : Int} (h : 0 ≤ k) : cut xs none (some k) = xs.take k.toNat := by
  have := cut_take xs k.toNat
  rwa [Int.toNat_of_nonneg h] at this
theorem cut_lohi {α : Type} {xs : List α} {i j : Int} (h : 0 ≤ i) (h' : 0 ≤ j) : cut xs (some i) (some j) = (xs.take j.toNat).drop i.toNat := by
  unfold cut
  rw [sIx_nn h, sIx_nn h', List.drop_take]
  by_cases z : i.toNat ≤ xs.length
  · rw [Nat.min_eq_left z]
    by_cases y : j.toNat ≤ xs.length
    · rw [Nat.min_eq_left y]
    · rw [Nat.min_eq_right (by omega), List.take_of_length_le (by rw [List.length_drop]; omega), List.take_of_length_le (by rw [List.length_drop]; omega)]
  · rw [Nat.min_eq_right (by omega : xs.length ≤ i.toNat), List.drop_of_length_le (Nat.le_refl _), List.drop_of_length_le (by omega), List.take_nil, List.take_nil]
theorem sIx_neg {n z : Nat} {k : Int} (h : k < 0) : HT.sIx n z (some k) = n - k.natAbs := by
  show (if k < 0 then (k + (n : Int)).toNat else min k.toNat n) = _
  rw [if_pos h]
  omega
theorem cut_loN {α : Type} {xs : List α} {k : Int} (h : k < 0) : cut xs (some k) none = xs.drop (xs.length - k.natAbs) := by
  unfold cut
  rw [sIx_neg h, HT.sIx_none, List.take_of_length_le]
  rw [List.length_drop]
  exact Nat.le_refl _
theorem cut_hiN {α : Type} {xs : List α} {k : Int} (h : k < 0) : cut xs none (some k) = xs.take (xs.length - k.natAbs) := by
  unfold cut
  rw [sIx_neg h, HT.sIx_none, List.drop_zero, Nat.sub_zero]
theorem cut_lohiN {α : Type} {xs : List α} {i j : Int} (h : 0 ≤ i) (h' : j < 0) : cut xs (some i) (some j) = (xs.take (xs.length - j.natAbs)).drop i.toNat := by
  unfold cut
  rw [sIx_nn h, sIx_neg h', List.drop_take]
  by_cases z : i.toNat ≤ xs.length
  · rw [Nat.min_eq_left z]
  · rw [Nat.min_eq_right (by omega : xs.length ≤ i.toNat), List.drop_of_length_le (Nat.le_refl _), List.drop_of_length_le (by omega), List.take_nil, List.take_nil]
theorem dIx_strZ {s : List Nat} (h : s.length ≤ 1000000) (hs : s ≠ []) : dIx (.str s) (.int (-1)) = some (.str [s.getLastD 0]) := by
  rw [dIx_strM s h]
  cases s with
  | nil => exact absurd rfl hs
  | cons c s => rw [List.getLast?_eq_some_getLast hs]; rfl
theorem dIx_strA {s : List Nat} (h : s.length ≤ 1000000) (hs : s ≠ []) : dIx (.str s) (.int 0) = some (.str [s.headD 0]) := by
  rw [dIx_strL s 0 h]
  cases s with
  | nil => exact absurd rfl hs
  | cons c s => rfl
theorem qLc_k {it : FA} {g : D → List D → Option (List D)} {vs : List Nat} {t : FB} {f : FQ} {x0 : D} {ρ μ : List D} : qLc it g vs t f (x0 :: ρ) μ = lcK g t f (wipeD (x0 :: ρ) vs) μ (it (x0 :: ρ) μ) := qLc_eq it g vs t f x0 ρ μ
theorem lcK_s {g : D → List D → Option (List D)} {t : FB} {f : FQ} {ρ μ ds : List D} (h : ds.length ≤ 1000000) : lcK g t f ρ μ (some ds) = lcL g t f ρ μ ds := if_pos (lk h)
section
variable {g : FS} {ks : List Bool} {ds ρ μ : List D} {f : FS} {r : Option D} {gg : D → List D → Option (List D)}
theorem seqK_no : seqK none g = none := rfl
theorem endK_no : endK none = none := rfl
theorem rF_no : rF none = none := rfl
theorem rX_no : rX ks ds none = none := rfl
theorem turnK_no : turnK gg g ds none = none := rfl
end
theorem cut_none {α : Type} {xs : List α} : cut xs none none = xs := cut_all ⟨rfl, rfl⟩
theorem cut_map {α β : Type} (f : α → β) (xs : List α) (lo hi : Option Int) : cut (xs.map f) lo hi = (cut xs lo hi).map f := by
  unfold cut
  rw [List.length_map, List.map_take, List.map_drop]
theorem def_int : (default : Int) = 0 := rfl
theorem def_nat : (default : Nat) = 0 := rfl
theorem def_list {α : Type} : (default : List α) = [] := rfl
/-! ### elements -/
section
variable {α : Type} {g : D → List D → Option (List D)} {t : FB} {f : FQ} {ρ μ : List D}
theorem lc_all (A : α → D) (Y : α → D) (as : List α) (h : ∀ a ∈ as, ∃ ρ', g (A a) ρ = some ρ' ∧ f ρ' μ = some (Y a) ∧ data (Y a) = true) : lcL g bYes f ρ μ (as.map A) = some (as.map Y) := by
  have := lcL_map (t := bYes) A (fun _ => true) Y as (fun a ha => by
    obtain ⟨ρ', h1, h2, h3⟩ := h a ha
    exact ⟨ρ', h1, rfl, fun _ => ⟨h2, h3⟩⟩)
  rw [List.filter_eq_self.mpr fun _ _ => rfl] at this
  exact this
end
theorem appK_mlK {i : Nat} {ρ μ : List D} {q : FQ} {ds : List D} (h : ds.length ≤ 1000000) : appK i ρ μ q (some (.ml ds)) = (q ρ μ).bind fun d => if data d = true then some (.nx (ρ.set i (.ml (ds ++ [d]))) μ) else none := by
  rw [appK_ml]
  congr 1
  funext d
  by_cases z : data d = true
  · rw [if_pos ⟨z, lk h⟩, if_pos z]
  · rw [if_neg (fun w => z w.1), if_neg z]
theorem nab1 : Int.natAbs (-1) = 1 := rfl
theorem nab2 : Int.natAbs (-2) = 2 := rfl
theorem nab3 : Int.natAbs (-3) = 3 := rfl
theorem nab4 : Int.natAbs (-4) = 4 := rfl
theorem nab5 : Int.natAbs (-5) = 5 := rfl
theorem nab6 : Int.natAbs (-6) = 6 := rfl
theorem dEq_blK (a b : Bool) : dEq (.bl a) (.bl b) = some (.bl (decide (a = b))) := by cases a <;> cases b <;> rfl
theorem dNe_blK (a b : Bool) : dNe (.bl a) (.bl b) = some (.bl (!decide (a = b))) := by cases a <;> cases b <;> rfl
theorem allStr_map : ∀ es : List (List Nat), allStr (es.map D.str) = true
  | [] => rfl
  | _ :: es => allStr_map es
theorem strsL_map : ∀ es : List (List Nat), strsL (es.map D.str) = es
  | [] => rfl
  | e :: es => congrArg (e :: ·) (strsL_map es)
theorem dIn_tupS {t : List Nat} {ds : List D} (h : allStr ds = true) : dIn (.str t) (.tup ds) = some (.bl (decide (t ∈ strsL ds))) := by
  have := dIn_tup t (strsL ds)
  rwa [← strsL_of h] at this
theorem dIn_lstS {t : List Nat} {ds : List D} (h : allStr ds = true) : dIn (.str t) (.lst ds) = some (.bl (decide (t ∈ strsL ds))) := by
  have := dIn_lst t (strsL ds)
  rwa [← strsL_of h] at this
theorem dNotIn_tupS {t : List Nat} {ds : List D} (h : allStr ds = true) : dNotIn (.str t) (.tup ds) = some (.bl (!decide (t ∈ strsL ds))) := by
  have := dNotIn_tup t (strsL ds)
  rwa [← strsL_of h] at this
theorem dNotIn_lstS {t : List Nat} {ds : List D} (h : allStr ds = true) : dNotIn (.str t) (.lst ds) = some (.bl (!decide (t ∈ strsL ds))) := by
  have := dNotIn_lst t (strsL ds)
  rwa [← strsL_of h] at this
theorem strsD_map : ∀ es : List (List Nat), strsD (es.map D.str) = some es
  | [] => rfl
  | e :: es => by
    show (strsD (es.map D.str)).map (fun bs => e :: bs) = _
    rw [strsD_map es]
    rfl
theorem joinL_nil : ∀ ts : List (List Nat), TL.joinL [] ts = ts.flatten
  | [] => rfl
  | [t] => by simp [TL.joinL]
  | t :: u :: ts => by
    have := joinL_nil (u :: ts)
    simp only [TL.joinL, List.append_nil, List.nil_append] at this ⊢
    rw [this]
    simp
theorem oJoin_seq {s : List Nat} {x : D} {ts : List (List Nat)} (hx : seqD x = some (ts.map D.str)) (h : (ts.map (·.length)).sum + ts.length * s.length ≤ 1000000) : oJoin s [x] = some (.str (TL.joinL s ts)) := by
  show (seqD x).bind _ = _
  rw [hx]
  show (strsD (ts.map D.str)).bind _ = _
  rw [strsD_map]
  exact if_pos h
theorem oJoin_lst {s : List Nat} {ts : List (List Nat)} (h : (ts.map (·.length)).sum + ts.length * s.length ≤ 1000000) : oJoin s [.lst (ts.map D.str)] = some (.str (TL.joinL s ts)) := oJoin_seq rfl h
theorem oJoin_tup {s : List Nat} {ts : List (List Nat)} (h : (ts.map (·.length)).sum + ts.length * s.length ≤ 1000000) : oJoin s [.tup (ts.map D.str)] = some (.str (TL.joinL s ts)) := oJoin_seq rfl h
theorem sum_len_le {α : Type} {f : α → List Nat} {k : Nat} : ∀ {l : List α}, (∀ x ∈ l, (f x).length ≤ k) → ((l.map f).map (·.length)).sum ≤ l.length * k
  | [], _ => Nat.zero_le _
  | x :: l, h => by
    have := sum_len_le (l := l) fun y hy => h y (List.mem_cons_of_mem _ hy)
    have h1 := h x (List.mem_cons_self ..)
    simp only [List.map_cons, List.sum_cons, List.length_cons, Nat.add_mul, Nat.one_mul]
    omega
/-- texts of one sign each, joined -/
theorem oJoin_signs {α : Type} {f : α → Nat} {l : List α} (h : l.length ≤ 1000000) : oJoin [] [.lst (l.map fun x => D.str [f x])] = some (.str (l.map f)) := by
  have e : (l.map fun x => D.str [f x]) = (l.map fun x => [f x]).map D.str := by rw [List.map_map]; rfl
  rw [e, oJoin_lst, joinL_nil]
  · congr 2
    clear e h
    induction l with
    | nil => rfl
    | cons a l ih => simp [ih]
  · have := sum_len_le (f := fun x => [f x]) (k := 1) (l := l) (fun _ _ => Nat.le_refl _)
    simp only [List.length_nil, Nat.mul_zero, Nat.add_zero]
    omega
theorem ixl0 {α : Type} (xs : List α) : ixAt xs 0 = xs[0]? := ixAt_nat xs 0
theorem ixl1 {α : Type} (xs : List α) : ixAt xs 1 = xs[1]? := ixAt_nat xs 1
theorem ixl2 {α : Type} (xs : List α) : ixAt xs 2 = xs[2]? := ixAt_nat xs 2
theorem ixl3 {α : Type} (xs : List α) : ixAt xs 3 = xs[3]? := ixAt_nat xs 3
theorem ixl4 {α : Type} (xs : List α) : ixAt xs 4 = xs[4]? := ixAt_nat xs 4
theorem ixl5 {α : Type} (xs : List α) : ixAt xs 5 = xs[5]? := ixAt_nat xs 5
theorem ixl6 {α : Type} (xs : List α) : ixAt xs 6 = xs[6]? := ixAt_nat xs 6
theorem ixl7 {α : Type} (xs : List α) : ixAt xs 7 = xs[7]? := ixAt_nat xs 7
theorem ixl8 {α : Type} (xs : List α) : ixAt xs 8 = xs[8]? := ixAt_nat xs 8
theorem ixl9 {α : Type} (xs : List α) : ixAt xs 9 = xs[9]? := ixAt_nat xs 9
theorem ixl10 {α : Type} (xs : List α) : ixAt xs 10 = xs[10]? := ixAt_nat xs 10
theorem ixl11 {α : Type} (xs : List α) : ixAt xs 11 = xs[11]? := ixAt_nat xs 11
theorem ixl12 {α : Type} (xs : List α) : ixAt xs 12 = xs[12]? := ixAt_nat xs 12
theorem ixl13 {α : Type} (xs : List α) : ixAt xs 13 = xs[13]? := ixAt_nat xs 13
theorem ixl14 {α : Type} (xs : List α) : ixAt xs 14 = xs[14]? := ixAt_nat xs 14
theorem ixl15 {α : Type} (xs : List α) : ixAt xs 15 = xs[15]? := ixAt_nat xs 15
theorem ixl16 {α : Type} (xs : List α) : ixAt xs 16 = xs[16]? := ixAt_nat xs 16
theorem ixl17 {α : Type} (xs : List α) : ixAt xs 17 = xs[17]? := ixAt_nat xs 17
theorem ixl18 {α : Type} (xs : List α) : ixAt xs 18 = xs[18]? := ixAt_nat xs 18
theorem ixl19 {α : Type} (xs : List α) : ixAt xs 19 = xs[19]? := ixAt_nat xs 19
theorem ixl20 {α : Type} (xs : List α) : ixAt xs 20 = xs[20]? := ixAt_nat xs 20
theorem ixl21 {α : Type} (xs : List α) : ixAt xs 21 = xs[21]? := ixAt_nat xs 21
theorem ixl22 {α : Type} (xs : List α) : ixAt xs 22 = xs[22]? := ixAt_nat xs 22
theorem ixl23 {α : Type} (xs : List α) : ixAt xs 23 = xs[23]? := ixAt_nat xs 23
theorem ixl24 {α : Type} (xs : List α) : ixAt xs 24 = xs[24]? := ixAt_nat xs 24
theorem ixl25 {α : Type} (xs : List α) : ixAt xs 25 = xs[25]? := ixAt_nat xs 25
theorem ixl26 {α : Type} (xs : List α) : ixAt xs 26 = xs[26]? := ixAt_nat xs 26
theorem ixl27 {α : Type} (xs : List α) : ixAt xs 27 = xs[27]? := ixAt_nat xs 27
theorem ixl28 {α : Type} (xs : List α) : ixAt xs 28 = xs[28]? := ixAt_nat xs 28
theorem ixl29 {α : Type} (xs : List α) : ixAt xs 29 = xs[29]? := ixAt_nat xs 29
theorem ixl30 {α : Type} (xs : List α) : ixAt xs 30 = xs[30]? := ixAt_nat xs 30
theorem ixl31 {α : Type} (xs : List α) : ixAt xs 31 = xs[31]? := ixAt_nat xs 31
theorem ixl32 {α : Type} (xs : List α) : ixAt xs 32 = xs[32]? := ixAt_nat xs 32
theorem ixl33 {α : Type} (xs : List α) : ixAt xs 33 = xs[33]? := ixAt_nat xs 33
theorem ixl34 {α : Type} (xs : List α) : ixAt xs 34 = xs[34]? := ixAt_nat xs 34
theorem ixl35 {α : Type} (xs : List α) : ixAt xs 35 = xs[35]? := ixAt_nat xs 35
theorem ixl36 {α : Type} (xs : List α) : ixAt xs 36 = xs[36]? := ixAt_nat xs 36
theorem ixl37 {α : Type} (xs : List α) : ixAt xs 37 = xs[37]? := ixAt_nat xs 37
theorem ixl38 {α : Type} (xs : List α) : ixAt xs 38 = xs[38]? := ixAt_nat xs 38
theorem ixl39 {α : Type} (xs : List α) : ixAt xs 39 = xs[39]? := ixAt_nat xs 39
theorem ixl40 {α : Type} (xs : List α) : ixAt xs 40 = xs[40]? := ixAt_nat xs 40
theorem tk_map {α β : Type} (f : α → β) (xs : List α) (n : Nat) : (xs.map f).take n = (xs.take n).map f := by rw [List.map_take]
theorem dr_map {α β : Type} (f : α → β) (xs : List α) (n : Nat) : (xs.map f).drop n = (xs.drop n).map f := by rw [List.map_drop]
def kset4 := And.intro @tk_map <| And.intro @dr_map <| And.intro (And.intro (And.intro (And.intro (And.intro (@ixl0) (@ixl1)) (And.intro (@ixl2) (And.intro (@ixl3) (@ixl4)))) (And.intro (And.intro (@ixl5) (@ixl6)) (And.intro (@ixl7) (And.intro (@ixl8) (@ixl9))))) (And.intro (And.intro (And.intro (@ixl10) (@ixl11)) (And.intro (@ixl12) (And.intro (@ixl13) (@ixl14)))) (And.intro (And.intro (@ixl15) (@ixl16)) (And.intro (@ixl17) (And.intro (@ixl18) (@ixl19)))))) (And.intro (And.intro (And.intro (And.intro (@ixl20) (@ixl21)) (And.intro (@ixl22) (And.intro (@ixl23) (@ixl24)))) (And.intro (And.intro (@ixl25) (@ixl26)) (And.intro (@ixl27) (And.intro (@ixl28) (@ixl29))))) (And.intro (And.intro (And.intro (@ixl30) (@ixl31)) (And.intro (@ixl32) (And.intro (@ixl33) (@ixl34)))) (And.intro (And.intro (@ixl35) (And.intro (@ixl36) (@ixl37))) (And.intro (@ixl38) (And.intro (@ixl39) (@ixl40))))))
def kset3 := And.intro kset4 <| And.intro @nab1 (And.intro @nab2 (And.intro @nab3 (And.intro @nab4 (And.intro @nab5 (And.intro @nab6 (And.intro @dEq_blK (And.intro @allStr_map (And.intro @strsL_map (And.intro @dIn_tupS (And.intro @dIn_lstS (And.intro @dNotIn_tupS (And.intro @dNotIn_lstS @dNe_blK))))))))))))
def kset2 := And.intro kset3 (And.intro @oJoin_signs (And.intro @cut_loN (And.intro @cut_hiN (And.intro @cut_lohiN (And.intro @dIx_strZ (And.intro @dIx_strA (And.intro @qLc_k (And.intro @lcK_s (And.intro @seqK_no (And.intro @endK_no (And.intro @rF_no (And.intro @rX_no (And.intro @turnK_no (And.intro @appK_mlK (And.intro @rangeD_map (And.intro @cut_lo (And.intro @cut_hi (And.intro @cut_lohi (And.intro @cut_none (And.intro @cut_map (And.intro @def_int (And.intro @def_nat (And.intro @def_list (And.intro @dEq_lstK (And.intro @dNe_lstK (And.intro @dEq_tupK (And.intro @dNe_tupK (And.intro @dEq_mlK (And.intro @dNe_mlK @dEq_lmK)))))))))))))))))))))))))))))
def plset := And.intro @pl_non (And.intro @pl_int (And.intro @pl_str (And.intro @pl_tup (And.intro @pl_lst (And.intro @plL_nil (And.intro @plL_cons (And.intro @pl_tup @pl_lst)))))))
end Fw
/-! # what the top has left: as the kit's hook, and the interpreter's own statics -/
namespace Fw
open PySem PySem.Spec PyProof.Rows L2
def asY (g : Addr → Option Obj) (n : Nat) : List Addr := He.asD g n ++ [cStatics]
abbrev AlY : Type := He.AlD × Bool
def obsY (n : Nat) (fa : List He.Fa) (fn : List He.DefD) (ex : PySem.W.Frag → Bool) (g : Addr → Option Obj) : AlY := (He.obsD fa fn (He.frT g (asY g n)), ex (He.frT g (asY g n)))
structure SaysY (fa : List He.Fa) (fn : List He.DefD) (ex : PySem.W.Frag → Bool) (K : PySem.W.Frag) : Prop where
  d : He.SaysD fa fn K
  more : ex K = true
def hookY (n : Nat) (fa : List He.Fa) (fn : List He.DefD) (ex : PySem.W.Frag → Bool) : PySem.W.Hook where
  α := AlY
  obs := fun s => obsY n fa fn ex s.heap.get?
  val := fun _ => (He.valD fn, true)
  says := fun _ h => ∃ K : PySem.W.Frag, K.In h ∧ SaysY fa fn ex K
  of := fun _ _ e => ⟨_, He.frT_in, ⟨congrArg (fun z : AlY => z.1) e, congrArg (fun z : AlY => z.2) e⟩⟩
  keeps := fun _ _ _ ⟨K, hK, c⟩ k => ⟨K, PySem.W.Frag.In.keeps hK k, c⟩
theorem obsY_eq {n : Nat} {fa : List He.Fa} {fn : List He.DefD} {ex : PySem.W.Frag → Bool} {g : Addr → Option Obj} {s : Shared} (h : ∀ a, g a = s.heap.get? a) : obsY n fa fn ex g = (hookY n fa fn ex).obs s := by
  have e : g = s.heap.get? := funext h
  rw [e] <;> rfl
end Fw
namespace G
open PySem PySem.Spec PyProof.Rows L2 Fw
def top (i : Nat) : Stmt := PySem.Challenge.pw_framepost_k23_words_and_values_read.main.body.getD i (.Pass ⟨0, 0, 0, 0⟩)
def mstm (s : Stmt) (j : Nat) : Stmt := match s with
  | .ClassDef _ _ _ body _ _ _ _ _ _ _ => body.getD j (.Pass ⟨0, 0, 0, 0⟩)
  | s => s
theorem lit0 : ofS "" = [] := by decide +kernel
theorem lit1 : ofS "\n" = [10] := by decide +kernel
theorem lit2 : ofS " " = [32] := by decide +kernel
theorem litn3 : (ofS " !\"#$&'()*+,-./0123456789:;<=>?@ABCDEFGHIJKLMNOPQRSTUVWXYZ[\\]^_`").length = 64 := by decide +kernel
theorem lit4 : ofS ";" = [59] := by decide +kernel
theorem lit5 : ofS ";\n" = [59, 10] := by decide +kernel
theorem lit6 : ofS "a" = [97] := by decide +kernel
theorem litn7 : (ofS "abcdefghijklmnopqrstuvwxyz{|}~\n").length = 31 := by decide +kernel
theorem lit8 : ofS "abcxyz" = [97, 98, 99, 120, 121, 122] := by decide +kernel
theorem lit9 : ofS "q" = [113] := by decide +kernel
theorem lit10 : ofS "z" = [122] := by decide +kernel
theorem lit11 : ofS "~" = [126] := by decide +kernel
def g_ROW_END : D := .str (ofS ";\n")
theorem gv_ROW_END : g_ROW_END = .str (ofS ";\n") := rfl
def okL : List (Str × Str) := [("Exact", "many"), ("Exact", "text"), ("RowEnd", "many"), ("RowEnd", "text"), ("Word", "most"), ("Word", "text"), ("Value", "most"), ("Value", "text")]
def okF : OkT := okT okL
theorem okf_Exact_many : okF "Exact" "many" = true := by decide +kernel
theorem okf_Exact_text : okF "Exact" "text" = true := by decide +kernel
theorem okf_RowEnd_many : okF "RowEnd" "many" = true := by decide +kernel
theorem okf_RowEnd_text : okF "RowEnd" "text" = true := by decide +kernel
theorem okf_Word_most : okF "Word" "most" = true := by decide +kernel
theorem okf_Word_text : okF "Word" "text" = true := by decide +kernel
theorem okf_Value_most : okF "Value" "most" = true := by decide +kernel
theorem okf_Value_text : okF "Value" "text" = true := by decide +kernel
def sh_Exact : List Str := ["text", "many"]
theorem ix_Exact_awaited : fidx "awaited" sh_Exact = none := by decide +kernel
theorem ix_Exact_fed : fidx "fed" sh_Exact = none := by decide +kernel
theorem ix_Exact_good : fidx "good" sh_Exact = none := by decide +kernel
theorem ix_Exact_many : fidx "many" sh_Exact = some 1 := by decide +kernel
theorem ix_Exact_text : fidx "text" sh_Exact = some 0 := by decide +kernel
theorem ix_Exact_told : fidx "told" sh_Exact = none := by decide +kernel
theorem ln_Exact : sh_Exact.length = 2 := rfl
theorem put_Exact_0 (d : D) : putD "text" d "Exact" [] [] = .obj "Exact" ["text"] [d] := by rfl
theorem put_Exact_1 (d : D) (a0 : D) : putD "many" d "Exact" ["text"] [a0] = .obj "Exact" sh_Exact [a0, d] := by rfl
theorem set_Exact_text (d : D) (ds : List D) : putD "text" d "Exact" sh_Exact ds = .obj "Exact" sh_Exact (ds.set 0 d) := by rfl
theorem set_Exact_many (d : D) (ds : List D) : putD "many" d "Exact" sh_Exact ds = .obj "Exact" sh_Exact (ds.set 1 d) := by rfl
def sh_RowEnd : List Str := ["text", "many"]
theorem ix_RowEnd_awaited : fidx "awaited" sh_RowEnd = none := by decide +kernel
theorem ix_RowEnd_fed : fidx "fed" sh_RowEnd = none := by decide +kernel
theorem ix_RowEnd_good : fidx "good" sh_RowEnd = none := by decide +kernel
theorem ix_RowEnd_many : fidx "many" sh_RowEnd = some 1 := by decide +kernel
theorem ix_RowEnd_text : fidx "text" sh_RowEnd = some 0 := by decide +kernel
theorem ix_RowEnd_told : fidx "told" sh_RowEnd = none := by decide +kernel
theorem ln_RowEnd : sh_RowEnd.length = 2 := rfl
theorem put_RowEnd_0 (d : D) : putD "text" d "RowEnd" [] [] = .obj "RowEnd" ["text"] [d] := by rfl
theorem put_RowEnd_1 (d : D) (a0 : D) : putD "many" d "RowEnd" ["text"] [a0] = .obj "RowEnd" sh_RowEnd [a0, d] := by rfl
theorem set_RowEnd_text (d : D) (ds : List D) : putD "text" d "RowEnd" sh_RowEnd ds = .obj "RowEnd" sh_RowEnd (ds.set 0 d) := by rfl
theorem set_RowEnd_many (d : D) (ds : List D) : putD "many" d "RowEnd" sh_RowEnd ds = .obj "RowEnd" sh_RowEnd (ds.set 1 d) := by rfl
def sh_Word : List Str := ["most", "text"]
theorem ix_Word_awaited : fidx "awaited" sh_Word = none := by decide +kernel
theorem ix_Word_fed : fidx "fed" sh_Word = none := by decide +kernel
theorem ix_Word_good : fidx "good" sh_Word = none := by decide +kernel
theorem ix_Word_most : fidx "most" sh_Word = some 0 := by decide +kernel
theorem ix_Word_text : fidx "text" sh_Word = some 1 := by decide +kernel
theorem ix_Word_told : fidx "told" sh_Word = none := by decide +kernel
theorem ln_Word : sh_Word.length = 2 := rfl
theorem put_Word_0 (d : D) : putD "most" d "Word" [] [] = .obj "Word" ["most"] [d] := by rfl
theorem put_Word_1 (d : D) (a0 : D) : putD "text" d "Word" ["most"] [a0] = .obj "Word" sh_Word [a0, d] := by rfl
theorem set_Word_most (d : D) (ds : List D) : putD "most" d "Word" sh_Word ds = .obj "Word" sh_Word (ds.set 0 d) := by rfl
theorem set_Word_text (d : D) (ds : List D) : putD "text" d "Word" sh_Word ds = .obj "Word" sh_Word (ds.set 1 d) := by rfl
def sh_Value : List Str := ["most", "text"]
theorem ix_Value_awaited : fidx "awaited" sh_Value = none := by decide +kernel
theorem ix_Value_fed : fidx "fed" sh_Value = none := by decide +kernel
theorem ix_Value_good : fidx "good" sh_Value = none := by decide +kernel
theorem ix_Value_most : fidx "most" sh_Value = some 0 := by decide +kernel
theorem ix_Value_text : fidx "text" sh_Value = some 1 := by decide +kernel
theorem ix_Value_told : fidx "told" sh_Value = none := by decide +kernel
theorem ln_Value : sh_Value.length = 2 := rfl
theorem put_Value_0 (d : D) : putD "most" d "Value" [] [] = .obj "Value" ["most"] [d] := by rfl
theorem put_Value_1 (d : D) (a0 : D) : putD "text" d "Value" ["most"] [a0] = .obj "Value" sh_Value [a0, d] := by rfl
theorem set_Value_most (d : D) (ds : List D) : putD "most" d "Value" sh_Value ds = .obj "Value" sh_Value (ds.set 0 d) := by rfl
theorem set_Value_text (d : D) (ds : List D) : putD "text" d "Value" sh_Value ds = .obj "Value" sh_Value (ds.set 1 d) := by rfl
abbrev s__law_cell_at : Stmt := top 10
abbrev s__law_stream : Stmt := top 11
abbrev s_Exact___init__ : Stmt := mstm (top 5) 0
abbrev s_Word___init__ : Stmt := mstm (top 7) 0
abbrev s_Value___init__ : Stmt := mstm (top 8) 0
abbrev s_RowEnd___init__ : Stmt := mstm (top 6) 0
abbrev s__law_made : Stmt := top 13
abbrev s__law_good : Stmt := top 15
abbrev s_Exact_awaited : Stmt := mstm (top 5) 3
abbrev s_Value_good : Stmt := mstm (top 8) 2
abbrev s_Value_awaited : Stmt := mstm (top 8) 3
abbrev s_Word_awaited : Stmt := mstm (top 7) 3
abbrev s_Exact_good : Stmt := mstm (top 5) 2
abbrev s_Word_good : Stmt := mstm (top 7) 2
abbrev s_Exact_fed : Stmt := mstm (top 5) 1
abbrev s_is_plain : Stmt := top 3
abbrev s_Value_fed : Stmt := mstm (top 8) 1
abbrev s_is_small : Stmt := top 2
abbrev s_Word_fed : Stmt := mstm (top 7) 1
abbrev s_Exact_told : Stmt := mstm (top 5) 4
abbrev s_Value_told : Stmt := mstm (top 8) 4
abbrev s_Word_told : Stmt := mstm (top 7) 4
abbrev s__law_right : Stmt := top 16
abbrev s__law_may : Stmt := top 14
abbrev s__law_sign : Stmt := top 12
abbrev s_law : Stmt := top 17
abbrev D__law_cell_at : He.DefD := ⟨("_law_cell_at", none), "_law_cell_at", "_law_cell_at", defArgs s__law_cell_at, defBody s__law_cell_at, defScope s__law_cell_at, [], []⟩
abbrev D__law_stream : He.DefD := ⟨("_law_stream", none), "_law_stream", "_law_stream", defArgs s__law_stream, defBody s__law_stream, defScope s__law_stream, [], []⟩
abbrev D__law_made : He.DefD := ⟨("_law_made", none), "_law_made", "_law_made", defArgs s__law_made, defBody s__law_made, defScope s__law_made, [], []⟩
abbrev D__law_good : He.DefD := ⟨("_law_good", none), "_law_good", "_law_good", defArgs s__law_good, defBody s__law_good, defScope s__law_good, [], []⟩
abbrev D_is_plain : He.DefD := ⟨("is_plain", none), "is_plain", "is_plain", defArgs s_is_plain, defBody s_is_plain, defScope s_is_plain, [], []⟩
abbrev D_is_small : He.DefD := ⟨("is_small", none), "is_small", "is_small", defArgs s_is_small, defBody s_is_small, defScope s_is_small, [], []⟩
abbrev D__law_right : He.DefD := ⟨("_law_right", none), "_law_right", "_law_right", defArgs s__law_right, defBody s__law_right, defScope s__law_right, [], []⟩
abbrev D__law_may : He.DefD := ⟨("_law_may", none), "_law_may", "_law_may", defArgs s__law_may, defBody s__law_may, defScope s__law_may, [], []⟩
abbrev D__law_sign : He.DefD := ⟨("_law_sign", none), "_law_sign", "_law_sign", defArgs s__law_sign, defBody s__law_sign, defScope s__law_sign, [], []⟩
abbrev D_law : He.DefD := ⟨("law", none), "law", "law", defArgs s_law, defBody s_law, defScope s_law, [], []⟩
abbrev DM_Value_good : He.DefD := ⟨("Value", some "good"), "good", "Value.good", defArgs s_Value_good, defBody s_Value_good, defScope s_Value_good, [], []⟩
abbrev DM_Exact_awaited : He.DefD := ⟨("Exact", some "awaited"), "awaited", "Exact.awaited", defArgs s_Exact_awaited, defBody s_Exact_awaited, defScope s_Exact_awaited, [], []⟩
abbrev DM_RowEnd_awaited : He.DefD := ⟨("RowEnd", some "awaited"), "awaited", "Exact.awaited", defArgs s_Exact_awaited, defBody s_Exact_awaited, defScope s_Exact_awaited, [], []⟩
abbrev DM_Value_awaited : He.DefD := ⟨("Value", some "awaited"), "awaited", "Value.awaited", defArgs s_Value_awaited, defBody s_Value_awaited, defScope s_Value_awaited, [], []⟩
abbrev DM_Word_awaited : He.DefD := ⟨("Word", some "awaited"), "awaited", "Word.awaited", defArgs s_Word_awaited, defBody s_Word_awaited, defScope s_Word_awaited, [], []⟩
abbrev DM_Exact_good : He.DefD := ⟨("Exact", some "good"), "good", "Exact.good", defArgs s_Exact_good, defBody s_Exact_good, defScope s_Exact_good, [], []⟩
abbrev DM_RowEnd_good : He.DefD := ⟨("RowEnd", some "good"), "good", "Exact.good", defArgs s_Exact_good, defBody s_Exact_good, defScope s_Exact_good, [], []⟩
abbrev DM_Word_good : He.DefD := ⟨("Word", some "good"), "good", "Word.good", defArgs s_Word_good, defBody s_Word_good, defScope s_Word_good, [], []⟩
abbrev DM_Exact_told : He.DefD := ⟨("Exact", some "told"), "told", "Exact.told", defArgs s_Exact_told, defBody s_Exact_told, defScope s_Exact_told, [], []⟩
abbrev DM_RowEnd_told : He.DefD := ⟨("RowEnd", some "told"), "told", "Exact.told", defArgs s_Exact_told, defBody s_Exact_told, defScope s_Exact_told, [], []⟩
abbrev DM_Value_told : He.DefD := ⟨("Value", some "told"), "told", "Value.told", defArgs s_Value_told, defBody s_Value_told, defScope s_Value_told, [], []⟩
abbrev DM_Word_told : He.DefD := ⟨("Word", some "told"), "told", "Word.told", defArgs s_Word_told, defBody s_Word_told, defScope s_Word_told, [], []⟩
abbrev DM_Exact_fed : He.DefD := ⟨("Exact", some "fed"), "fed", "Exact.fed", defArgs s_Exact_fed, defBody s_Exact_fed, defScope s_Exact_fed, [], []⟩
abbrev DM_RowEnd_fed : He.DefD := ⟨("RowEnd", some "fed"), "fed", "Exact.fed", defArgs s_Exact_fed, defBody s_Exact_fed, defScope s_Exact_fed, [], []⟩
abbrev DM_Value_fed : He.DefD := ⟨("Value", some "fed"), "fed", "Value.fed", defArgs s_Value_fed, defBody s_Value_fed, defScope s_Value_fed, [], []⟩
abbrev DM_Word_fed : He.DefD := ⟨("Word", some "fed"), "fed", "Word.fed", defArgs s_Word_fed, defBody s_Word_fed, defScope s_Word_fed, [], []⟩
abbrev DM_Exact___init__ : He.DefD := ⟨("Exact", some "__init__"), "__init__", "Exact.__init__", defArgs s_Exact___init__, defBody s_Exact___init__, defScope s_Exact___init__, [], []⟩
abbrev DM_RowEnd___init__ : He.DefD := ⟨("RowEnd", some "__init__"), "__init__", "RowEnd.__init__", defArgs s_RowEnd___init__, defBody s_RowEnd___init__, defScope s_RowEnd___init__, [], []⟩
abbrev DM_Value___init__ : He.DefD := ⟨("Value", some "__init__"), "__init__", "Value.__init__", defArgs s_Value___init__, defBody s_Value___init__, defScope s_Value___init__, [], []⟩
abbrev DM_Word___init__ : He.DefD := ⟨("Word", some "__init__"), "__init__", "Word.__init__", defArgs s_Word___init__, defBody s_Word___init__, defScope s_Word___init__, [], []⟩
def f__law_cell_at : FS :=
  fSeq (fIf (qB (q2 dLt (qVar 1) (qCall (o1 dLen) (aCons (qVar 0) (aNil))))) (fRet (q2 dIx (qVar 0) (qVar 1))) (fNext))
    (fRet (qC (.int 0)))
def r__law_cell_at : List D → Option D := runQ 2 2 (f__law_cell_at)
def lb1__law_stream : FS :=
  fWp [4] (fSeq (fSet 3 (q2 dMod (q2 dMul (q2 dAdd (q2 dAdd (qVar 3) (q2 dMul (qC (.int 7919)) (qVar 4))) (qC (.int 1))) (q2 dAdd (q2 dFdiv (qVar 3) (qC (.int 1009))) (qC (.int 69621)))) (qC (.int 2147483647))))
    (fApp 2 (qVar 3)))
def f__law_stream : FS :=
  fSeq (fSetN 2 (aData (aNil)))
    (fSeq (fSet 3 (q2 dMod (q2 dMul (q2 dAdd (qVar 0) (qC (.int 1))) (qC (.int 48271))) (qC (.int 2147483647))))
    (fSeq (fFor (aR1 (qVar 1)) (tgN 4) (lb1__law_stream))
    (fFz 2 (fRet (qVar 2)))))
def r__law_stream : List D → Option D := runQ 5 2 (f__law_stream)
def f_Exact___init__ : FS :=
  fSeq (fFldX okF 0 [] "text" (xQ (qVar 1)))
    (fFldX okF 0 [] "many" (xQ (qC (.int 0))))
def r_Exact___init__ : RX := runX 2 [true, false] (f_Exact___init__)
def f_Word___init__ : FS :=
  fSeq (fFldX okF 0 [] "most" (xQ (qVar 1)))
    (fFldX okF 0 [] "text" (xQ (qC (.str (ofS "")))))
def r_Word___init__ : RX := runX 2 [true, false] (f_Word___init__)
def f_Value___init__ : FS :=
  fSeq (fFldX okF 0 [] "most" (xQ (qVar 1)))
    (fFldX okF 0 [] "text" (xQ (qC (.str (ofS "")))))
def r_Value___init__ : RX := runX 2 [true, false] (f_Value___init__)
def f_RowEnd___init__ : FS :=
  fExX (xRun 2 [] r_Exact___init__ (xaSlot 0 (xaCons (xQ (qC g_ROW_END)) (xaNil))))
def r_RowEnd___init__ : RX := runX 1 [true] (f_RowEnd___init__)
def f__law_made : FS :=
  fSeq (fIf (qB (q2 dEq (qVar 0) (qC (.int 0)))) (fRetX (xMake "Word" 2 [] r_Word___init__ (xaCons (xQ (qVar 1)) (xaNil)))) (fNext))
    (fSeq (fIf (qB (q2 dEq (qVar 0) (qC (.int 1)))) (fRetX (xMake "Value" 2 [] r_Value___init__ (xaCons (xQ (qVar 1)) (xaNil)))) (fNext))
    (fSeq (fIf (qB (q2 dEq (qVar 2) (qC (.str (ofS ";\n"))))) (fRetX (xMake "RowEnd" 1 [] r_RowEnd___init__ (xaNil))) (fNext))
    (fRetX (xMake "Exact" 2 [] r_Exact___init__ (xaCons (xQ (qVar 2)) (xaNil))))))
def r__law_made : RX := runX 3 [false, false, false] (f__law_made)
def f__law_good : FS :=
  fSeq (fIf (qB (q2 dEq (qVar 0) (qC (.int 2)))) (fRet (q2 dEq (qVar 1) (qVar 2))) (fNext))
    (fRet (qAnd (q2 dNe (qVar 1) (qC (.str (ofS "")))) (q2 dNe (q2 dIx (qVar 1) (q1 dNeg (qC (.int 1)))) (qC (.str (ofS " "))))))
def r__law_good : List D → Option D := runQ 3 3 (f__law_good)
def f_Exact_awaited : FS :=
  fRet (qSl (qFld okF "text" (qVar 0)) (oSome (qFld okF "many" (qVar 0))) oNone)
def r_Exact_awaited : RF := runF 1 (f_Exact_awaited)
def f_Value_good : FS :=
  fRet (qAnd (q2 dNe (qFld okF "text" (qVar 0)) (qC (.str (ofS "")))) (q2 dNe (q2 dIx (qFld okF "text" (qVar 0)) (q1 dNeg (qC (.int 1)))) (qC (.str (ofS " ")))))
def r_Value_good : RF := runF 1 (f_Value_good)
def mt0_good : MTF := tbl [("Value", r_Value_good)]
theorem mt0_good_Value : mt0_good "Value" = some r_Value_good := by rfl
def f_Value_awaited : FS :=
  fSeq (fIf (qB (qMethF "good" 1 [] mt0_good (qVar 0) (aNil))) (fRet (qC (.str (ofS "")))) (fNext))
    (fRet (qC (.str (ofS "a"))))
def r_Value_awaited : RF := runF 1 (f_Value_awaited)
def f_Word_awaited : FS :=
  fSeq (fIf (qB (q2 dEq (qFld okF "text" (qVar 0)) (qC (.str (ofS ""))))) (fRet (qC (.str (ofS "a")))) (fNext))
    (fRet (qC (.str (ofS ""))))
def r_Word_awaited : RF := runF 1 (f_Word_awaited)
def mt1_awaited : MTF := tbl [("Exact", r_Exact_awaited), ("RowEnd", r_Exact_awaited), ("Value", r_Value_awaited), ("Word", r_Word_awaited)]
theorem mt1_awaited_Exact : mt1_awaited "Exact" = some r_Exact_awaited := by rfl
theorem mt1_awaited_RowEnd : mt1_awaited "RowEnd" = some r_Exact_awaited := by rfl
theorem mt1_awaited_Value : mt1_awaited "Value" = some r_Value_awaited := by rfl
theorem mt1_awaited_Word : mt1_awaited "Word" = some r_Word_awaited := by rfl
def f_Exact_good : FS :=
  fRet (q2 dEq (qFld okF "many" (qVar 0)) (qCall (o1 dLen) (aCons (qFld okF "text" (qVar 0)) (aNil))))
def r_Exact_good : RF := runF 1 (f_Exact_good)
def f_Word_good : FS :=
  fRet (q2 dNe (qFld okF "text" (qVar 0)) (qC (.str (ofS ""))))
def r_Word_good : RF := runF 1 (f_Word_good)
def mt2_good : MTF := tbl [("Exact", r_Exact_good), ("RowEnd", r_Exact_good), ("Value", r_Value_good), ("Word", r_Word_good)]
theorem mt2_good_Exact : mt2_good "Exact" = some r_Exact_good := by rfl
theorem mt2_good_RowEnd : mt2_good "RowEnd" = some r_Exact_good := by rfl
theorem mt2_good_Value : mt2_good "Value" = some r_Value_good := by rfl
theorem mt2_good_Word : mt2_good "Word" = some r_Word_good := by rfl
def f_Exact_fed : FS :=
  fSeq (fIf (bAnd (qB (q2 dLt (qFld okF "many" (qVar 0)) (qCall (o1 dLen) (aCons (qFld okF "text" (qVar 0)) (aNil))))) (qB (q2 dEq (qVar 1) (q2 dIx (qFld okF "text" (qVar 0)) (qFld okF "many" (qVar 0)))))) (fSeq (fFldAug okF 0 [] "many" iAdd (qC (.int 1)))
    (fRet (qC (.bl true)))) (fNext))
    (fRet (qC (.bl false)))
def r_Exact_fed : RX := runX 2 [true, false] (f_Exact_fed)
def f_is_plain : FS :=
  fRet (qOr (q2 dEq (qVar 0) (qC (.str (ofS "\n")))) (qAnd (q2 dEq (qCall (o1 dLen) (aCons (qVar 0) (aNil))) (qC (.int 1))) (q3 dLe dLe (qC (.str (ofS " "))) (qVar 0) (qC (.str (ofS "~"))))))
def r_is_plain : List D → Option D := runQ 1 1 (f_is_plain)
def f_Value_fed : FS :=
  fSeq (fIf (bOr (bNot (qB (qRun 1 [] r_is_plain (aCons (qVar 1) (aNil))))) (bOr (qB (q2 dEq (qVar 1) (qC (.str (ofS "\n"))))) (bOr (qB (q2 dEq (qVar 1) (qC (.str (ofS ";"))))) (qB (q2 dEq (qCall (o1 dLen) (aCons (qFld okF "text" (qVar 0)) (aNil))) (qFld okF "most" (qVar 0))))))) (fRet (qC (.bl false))) (fNext))
    (fSeq (fIf (bAnd (qB (q2 dEq (qVar 1) (qC (.str (ofS " "))))) (bOr (qB (q2 dEq (qFld okF "text" (qVar 0)) (qC (.str (ofS ""))))) (qB (q2 dEq (q2 dAdd (qCall (o1 dLen) (aCons (qFld okF "text" (qVar 0)) (aNil))) (qC (.int 1))) (qFld okF "most" (qVar 0)))))) (fRet (qC (.bl false))) (fNext))
    (fSeq (fFldX okF 0 [] "text" (xQ (q2 dAdd (qFld okF "text" (qVar 0)) (qVar 1))))
    (fRet (qC (.bl true)))))
def r_Value_fed : RX := runX 2 [true, false] (f_Value_fed)
def f_is_small : FS :=
  fRet (qAnd (q2 dEq (qCall (o1 dLen) (aCons (qVar 0) (aNil))) (qC (.int 1))) (q3 dLe dLe (qC (.str (ofS "a"))) (qVar 0) (qC (.str (ofS "z")))))
def r_is_small : List D → Option D := runQ 1 1 (f_is_small)
def f_Word_fed : FS :=
  fSeq (fIf (bOr (bNot (qB (qRun 1 [] r_is_small (aCons (qVar 1) (aNil))))) (qB (q2 dEq (qCall (o1 dLen) (aCons (qFld okF "text" (qVar 0)) (aNil))) (qFld okF "most" (qVar 0))))) (fRet (qC (.bl false))) (fNext))
    (fSeq (fFldX okF 0 [] "text" (xQ (q2 dAdd (qFld okF "text" (qVar 0)) (qVar 1))))
    (fRet (qC (.bl true))))
def r_Word_fed : RX := runX 2 [true, false] (f_Word_fed)
def mt4_fed : MT := tbl [("Exact", r_Exact_fed), ("RowEnd", r_Exact_fed), ("Value", r_Value_fed), ("Word", r_Word_fed)]
theorem mt4_fed_Exact : mt4_fed "Exact" = some r_Exact_fed := by rfl
theorem mt4_fed_RowEnd : mt4_fed "RowEnd" = some r_Exact_fed := by rfl
theorem mt4_fed_Value : mt4_fed "Value" = some r_Value_fed := by rfl
theorem mt4_fed_Word : mt4_fed "Word" = some r_Word_fed := by rfl
def f_Exact_told : FS :=
  fRet (qFld okF "text" (qVar 0))
def r_Exact_told : RF := runF 1 (f_Exact_told)
def f_Value_told : FS :=
  fRet (qFld okF "text" (qVar 0))
def r_Value_told : RF := runF 1 (f_Value_told)
def f_Word_told : FS :=
  fRet (qFld okF "text" (qVar 0))
def r_Word_told : RF := runF 1 (f_Word_told)
def mt3_told : MTF := tbl [("Exact", r_Exact_told), ("RowEnd", r_Exact_told), ("Value", r_Value_told), ("Word", r_Word_told)]
theorem mt3_told_Exact : mt3_told "Exact" = some r_Exact_told := by rfl
theorem mt3_told_RowEnd : mt3_told "RowEnd" = some r_Exact_told := by rfl
theorem mt3_told_Value : mt3_told "Value" = some r_Value_told := by rfl
theorem mt3_told_Word : mt3_told "Word" = some r_Word_told := by rfl
def lb1__law_right : FS :=
  fWp [8] (fIfX (xOp dIsNot (xMethS 7 "fed" 2 [] mt4_fed (xaCons (xQ (qVar 8)) (xaNil))) (xQ (qC (.bl true)))) (fRet (qC (.bl false))) (fNext))
def f__law_right : FS :=
  fSeq (fSet 5 (qRun 3 [] r__law_good (aCons (qVar 0) (aCons (qVar 2) (aCons (qVar 4) (aNil))))))
    (fSeq (fSet 6 (qMethF "awaited" 1 [] mt1_awaited (qVar 1) (aNil)))
    (fSeq (fIf (bOr (bNot (qB (qIsi "bool" (qMethF "good" 1 [] mt2_good (qVar 1) (aNil))))) (qB (q2 dNe (qMethF "good" 1 [] mt2_good (qVar 1) (aNil)) (qVar 5)))) (fRet (qC (.bl false))) (fNext))
    (fSeq (fIf (bAnd (qB (qVar 5)) (bOr (qB (q2 dNe (qMethF "told" 1 [] mt3_told (qVar 1) (aNil)) (qVar 2))) (qB (q2 dNe (qVar 6) (qC (.str (ofS ""))))))) (fRet (qC (.bl false))) (fNext))
    (fSeq (fSetX 7 (xRun 3 [] r__law_made (xaCons (xQ (qVar 0)) (xaCons (xQ (qVar 3)) (xaCons (xQ (qVar 4)) (xaNil))))))
    (fSeq (fFor (aF (q2 dAdd (qVar 2) (qVar 6))) (tgN 8) (lb1__law_right))
    (fRet (qAnd (q2 dIs (qMethF "good" 1 [] mt2_good (qVar 7) (aNil)) (qC (.bl true))) (q2 dEq (qMethF "told" 1 [] mt3_told (qVar 7) (aNil)) (q2 dAdd (qVar 2) (qVar 6))))))))))
def r__law_right : RF := runF 9 (f__law_right)
def ct1__law_may : FB :=
  bNot (qB (q3 dLe dLe (qC (.str (ofS "a"))) (qVar 4) (qC (.str (ofS "z")))))
def f__law_may : FS :=
  fSeq (fIf (qB (q2 dEq (qVar 0) (qC (.int 0)))) (fRet (qAnd (q2 dLe (qCall (o1 dLen) (aCons (qVar 1) (aNil))) (qVar 2)) (q2 dEq (qN (qLc (aQ (qVar 1)) (tgN 4) [4] (ct1__law_may) (qVar 4))) (qN (aData (aNil)))))) (fNext))
    (fSeq (fIf (qB (q2 dEq (qVar 0) (qC (.int 2)))) (fRet (q2 dEq (qSl (qVar 3) oNone (oSome (qCall (o1 dLen) (aCons (qVar 1) (aNil))))) (qVar 1))) (fNext))
    (fSeq (fIf (bOr (qB (q2 dGt (qCall (o1 dLen) (aCons (qVar 1) (aNil))) (qVar 2))) (bOr (qB (q2 dEq (qSl (qVar 1) oNone (oSome (qC (.int 1)))) (qC (.str (ofS " "))))) (bOr (qB (q2 dIn (qC (.str (ofS ";"))) (qVar 1))) (qB (q2 dIn (qC (.str (ofS "\n"))) (qVar 1)))))) (fRet (qC (.bl false))) (fNext))
    (fRet (qOr (q2 dNe (qSl (qVar 1) (oSome (q1 dNeg (qC (.int 1)))) oNone) (qC (.str (ofS " ")))) (q2 dLt (qCall (o1 dLen) (aCons (qVar 1) (aNil))) (qVar 2))))))
def r__law_may : List D → Option D := runQ 5 4 (f__law_may)
def f__law_sign : FS :=
  fSeq (fSet 1 (qC (.str (ofS " !\"#$&'()*+,-./0123456789:;<=>?@ABCDEFGHIJKLMNOPQRSTUVWXYZ[\\]^_`"))))
    (fSeq (fSet 1 (q2 dAdd (qVar 1) (qC (.str (ofS "abcdefghijklmnopqrstuvwxyz{|}~\n")))))
    (fRet (q2 dIx (qVar 1) (q2 dMod (qVar 0) (qC (.int 95))))))
def r__law_sign : List D → Option D := runQ 2 1 (f__law_sign)
def ce1_law : FQ :=
  qRun 1 [] r__law_sign (aCons (qVar 13) (aNil))
def lb1_law : FS :=
  fWp [8, 9, 10, 11, 12] (fSeq (fSet 9 (qRun 2 [] r__law_stream (aCons (qVar 8) (aCons (qC (.int 2)) (aNil)))))
    (fSeq (fSet 10 (q2 dIx (qN (aData (aCons (qRun 1 [] r__law_sign (aCons (q2 dIx (qVar 9) (qC (.int 1))) (aNil))) (aCons (q2 dIx (qC (.str (ofS "abcxyz"))) (q2 dMod (q2 dIx (qVar 9) (qC (.int 1))) (qC (.int 6)))) (aCons (qC (.str (ofS " "))) (aCons (qC (.str (ofS "q"))) (aNil))))))) (q2 dMod (q2 dIx (qVar 9) (qC (.int 0))) (qC (.int 4)))))
    (fSeq (fIf (bAnd (qB (q2 dEq (qVar 2) (qC (.int 2)))) (bAnd (qB (q2 dGt (q2 dMod (q2 dIx (qVar 9) (qC (.int 0))) (qC (.int 4))) (qC (.int 0)))) (qB (q2 dLt (qCall (o1 dLen) (aCons (qVar 7) (aNil))) (qCall (o1 dLen) (aCons (qVar 5) (aNil))))))) (fSet 10 (q2 dIx (qVar 5) (qCall (o1 dLen) (aCons (qVar 7) (aNil))))) (fNext))
    (fSeq (fSet 11 (qRun 4 [] r__law_may (aCons (qVar 2) (aCons (q2 dAdd (qVar 7) (qVar 10)) (aCons (qVar 3) (aCons (qVar 5) (aNil)))))))
    (fSeq (fSetX 12 (xMethS 6 "fed" 2 [] mt4_fed (xaCons (xQ (qVar 10)) (xaNil))))
    (fSeq (fIf (bOr (bNot (qB (qIsi "bool" (qVar 12)))) (qB (q2 dNe (qVar 12) (qVar 11)))) (fRet (qC (.bl false))) (fNext))
    (fSeq (fIf (qB (qVar 11)) (fSet 7 (q2 dAdd (qVar 7) (qVar 10))) (fNext))
    (fIf (bNot (qB (qRunF 5 [] r__law_right (aCons (qVar 2) (aCons (qVar 6) (aCons (qVar 7) (aCons (qVar 3) (aCons (qVar 5) (aNil))))))))) (fRet (qC (.bl false))) (fNext)))))))))
def f_law : FS :=
  fSeq (fSet 1 (qRun 2 [] r__law_cell_at (aCons (qVar 0) (aCons (qC (.int 0)) (aNil)))))
    (fSeq (fSet 2 (q2 dMod (qVar 1) (qC (.int 3))))
    (fSeq (fSet 3 (q2 dAdd (qC (.int 1)) (q2 dMod (q2 dFdiv (qVar 1) (qC (.int 3))) (qC (.int 12)))))
    (fSeq (fSet 4 (qRun 2 [] r__law_stream (aCons (qRun 2 [] r__law_cell_at (aCons (qVar 0) (aCons (qC (.int 1)) (aNil)))) (aCons (qC (.int 9)) (aNil)))))
    (fSeq (fSet 5 (qM1 oJoin (qC (.str (ofS ""))) (qN (qLc (aQ (qSl (qVar 4) oNone (oSome (q2 dMod (q2 dFdiv (qVar 1) (qC (.int 36))) (qC (.int 10)))))) (tgN 13) [13] (bYes) (ce1_law)))))
    (fSeq (fIf (qB (q2 dEq (q2 dMod (q2 dFdiv (qVar 1) (qC (.int 360))) (qC (.int 3))) (qC (.int 0)))) (fSet 5 (qC (.str (ofS ";\n")))) (fNext))
    (fSeq (fSetX 6 (xRun 3 [] r__law_made (xaCons (xQ (qVar 2)) (xaCons (xQ (qVar 3)) (xaCons (xQ (qVar 5)) (xaNil))))))
    (fSeq (fSet 7 (qC (.str (ofS ""))))
    (fSeq (fFor (aF (qSl (qVar 0) (oSome (qC (.int 2))) (oSome (qC (.int 42))))) (tgN 8) (lb1_law))
    (fRet (qRunF 5 [] r__law_right (aCons (qVar 2) (aCons (qVar 6) (aCons (qVar 7) (aCons (qVar 3) (aCons (qVar 5) (aNil))))))))))))))))
def r_law : RF := runF 14 (f_law)
def klaw := And.intro (And.intro (And.intro (And.intro (And.intro (And.intro (@lit0) (@lit1)) (And.intro (@lit2) (And.intro (@litn3) (@lit4)))) (And.intro (And.intro (@lit5) (@lit6)) (And.intro (@litn7) (And.intro (@lit8) (@lit9))))) (And.intro (And.intro (And.intro (@lit10) (@lit11)) (And.intro (@gv_ROW_END) (And.intro (@okf_Exact_many) (@okf_Exact_text)))) (And.intro (And.intro (@okf_RowEnd_many) (@okf_RowEnd_text)) (And.intro (@okf_Word_most) (And.intro (@okf_Word_text) (@okf_Value_most)))))) (And.intro (And.intro (And.intro (And.intro (@okf_Value_text) (@ix_Exact_awaited)) (And.intro (@ix_Exact_fed) (And.intro (@ix_Exact_good) (@ix_Exact_many)))) (And.intro (And.intro (@ix_Exact_text) (@ix_Exact_told)) (And.intro (@ln_Exact) (And.intro (@put_Exact_0) (@put_Exact_1))))) (And.intro (And.intro (And.intro (@set_Exact_text) (@set_Exact_many)) (And.intro (@ix_RowEnd_awaited) (And.intro (@ix_RowEnd_fed) (@ix_RowEnd_good)))) (And.intro (And.intro (@ix_RowEnd_many) (And.intro (@ix_RowEnd_text) (@ix_RowEnd_told))) (And.intro (@ln_RowEnd) (And.intro (@put_RowEnd_0) (@put_RowEnd_1))))))) (And.intro (And.intro (And.intro (And.intro (And.intro (@set_RowEnd_text) (@set_RowEnd_many)) (And.intro (@ix_Word_awaited) (And.intro (@ix_Word_fed) (@ix_Word_good)))) (And.intro (And.intro (@ix_Word_most) (@ix_Word_text)) (And.intro (@ix_Word_told) (And.intro (@ln_Word) (@put_Word_0))))) (And.intro (And.intro (And.intro (@put_Word_1) (@set_Word_most)) (And.intro (@set_Word_text) (And.intro (@ix_Value_awaited) (@ix_Value_fed)))) (And.intro (And.intro (@ix_Value_good) (@ix_Value_most)) (And.intro (@ix_Value_text) (And.intro (@ix_Value_told) (@ln_Value)))))) (And.intro (And.intro (And.intro (And.intro (@put_Value_0) (@put_Value_1)) (And.intro (@set_Value_most) (And.intro (@set_Value_text) (@mt0_good_Value)))) (And.intro (And.intro (@mt1_awaited_Exact) (@mt1_awaited_RowEnd)) (And.intro (@mt1_awaited_Value) (And.intro (@mt1_awaited_Word) (@mt2_good_Exact))))) (And.intro (And.intro (And.intro (@mt2_good_RowEnd) (@mt2_good_Value)) (And.intro (@mt2_good_Word) (And.intro (@mt4_fed_Exact) (@mt4_fed_RowEnd)))) (And.intro (And.intro (@mt4_fed_Value) (And.intro (@mt4_fed_Word) (@mt3_told_Exact))) (And.intro (@mt3_told_RowEnd) (And.intro (@mt3_told_Value) (@mt3_told_Word)))))))
/-- what the top has left -/
structure Tx (P : Program) (w : World) (K : PySem.W.Frag) (mg : Str → Option Value) (base : Heap) : Prop where
  b_bool : mg "bool" = none
  b_isinstance : mg "isinstance" = none
  b_len : mg "len" = none
  b_range : mg "range" = none
  g_ROW_END : GlD K mg "ROW_END" g_ROW_END
  m__law_cell_at : mg "_law_cell_at" = some (.ref (He.ga K "_law_cell_at"))
  m__law_stream : mg "_law_stream" = some (.ref (He.ga K "_law_stream"))
  m__law_made : mg "_law_made" = some (.ref (He.ga K "_law_made"))
  m__law_good : mg "_law_good" = some (.ref (He.ga K "_law_good"))
  m_is_plain : mg "is_plain" = some (.ref (He.ga K "is_plain"))
  m_is_small : mg "is_small" = some (.ref (He.ga K "is_small"))
  m__law_right : mg "_law_right" = some (.ref (He.ga K "_law_right"))
  m__law_may : mg "_law_may" = some (.ref (He.ga K "_law_may"))
  m__law_sign : mg "_law_sign" = some (.ref (He.ga K "_law_sign"))
  m_law : mg "law" = some (.ref (He.ga K "law"))
  c_Exact : Cls K (He.ga K "Exact")
  c_RowEnd : Cls K (He.ga K "RowEnd")
  c_Word : Cls K (He.ga K "Word")
  c_Value : Cls K (He.ga K "Value")
  n_Exact_many : NoAttr K (He.ga K "Exact") "many"
  n_Exact_text : NoAttr K (He.ga K "Exact") "text"
  n_RowEnd_many : NoAttr K (He.ga K "RowEnd") "many"
  n_RowEnd_text : NoAttr K (He.ga K "RowEnd") "text"
  n_Word_most : NoAttr K (He.ga K "Word") "most"
  n_Word_text : NoAttr K (He.ga K "Word") "text"
  n_Value_most : NoAttr K (He.ga K "Value") "most"
  n_Value_text : NoAttr K (He.ga K "Value") "text"
  h_Value_good : Meth K (He.ga K "Value") "good" (He.ma K (He.ga K "Value") "good")
  h_Exact_awaited : Meth K (He.ga K "Exact") "awaited" (He.ma K (He.ga K "Exact") "awaited")
  h_RowEnd_awaited : Meth K (He.ga K "RowEnd") "awaited" (He.ma K (He.ga K "RowEnd") "awaited")
  h_Value_awaited : Meth K (He.ga K "Value") "awaited" (He.ma K (He.ga K "Value") "awaited")
  h_Word_awaited : Meth K (He.ga K "Word") "awaited" (He.ma K (He.ga K "Word") "awaited")
  h_Exact_good : Meth K (He.ga K "Exact") "good" (He.ma K (He.ga K "Exact") "good")
  h_RowEnd_good : Meth K (He.ga K "RowEnd") "good" (He.ma K (He.ga K "RowEnd") "good")
  h_Word_good : Meth K (He.ga K "Word") "good" (He.ma K (He.ga K "Word") "good")
  h_Exact_told : Meth K (He.ga K "Exact") "told" (He.ma K (He.ga K "Exact") "told")
  h_RowEnd_told : Meth K (He.ga K "RowEnd") "told" (He.ma K (He.ga K "RowEnd") "told")
  h_Value_told : Meth K (He.ga K "Value") "told" (He.ma K (He.ga K "Value") "told")
  h_Word_told : Meth K (He.ga K "Word") "told" (He.ma K (He.ga K "Word") "told")
  h_Exact_fed : Meth K (He.ga K "Exact") "fed" (He.ma K (He.ga K "Exact") "fed")
  h_RowEnd_fed : Meth K (He.ga K "RowEnd") "fed" (He.ma K (He.ga K "RowEnd") "fed")
  h_Value_fed : Meth K (He.ga K "Value") "fed" (He.ma K (He.ga K "Value") "fed")
  h_Word_fed : Meth K (He.ga K "Word") "fed" (He.ma K (He.ga K "Word") "fed")
  b_Exact___init___base : baseB K "Exact" "__init__" = true
  k_Exact : Mk K (He.ga K "Exact") (He.ma K (He.ga K "Exact") "__init__")
  m_Exact : mg "Exact" = some (.ref (He.ga K "Exact"))
  k_RowEnd : Mk K (He.ga K "RowEnd") (He.ma K (He.ga K "RowEnd") "__init__")
  m_RowEnd : mg "RowEnd" = some (.ref (He.ga K "RowEnd"))
  k_Value : Mk K (He.ga K "Value") (He.ma K (He.ga K "Value") "__init__")
  m_Value : mg "Value" = some (.ref (He.ga K "Value"))
  k_Word : Mk K (He.ga K "Word") (He.ma K (He.ga K "Word") "__init__")
  m_Word : mg "Word" = some (.ref (He.ga K "Word"))
  d__law_cell_at : ∃ fd, FunD K "_law_cell_at" "_law_cell_at" (defArgs s__law_cell_at) (defBody s__law_cell_at) (defScope s__law_cell_at) [] [] (He.ga K "_law_cell_at") fd
  d__law_stream : ∃ fd, FunD K "_law_stream" "_law_stream" (defArgs s__law_stream) (defBody s__law_stream) (defScope s__law_stream) [] [] (He.ga K "_law_stream") fd
  d__law_made : ∃ fd, FunD K "_law_made" "_law_made" (defArgs s__law_made) (defBody s__law_made) (defScope s__law_made) [] [] (He.ga K "_law_made") fd
  d__law_good : ∃ fd, FunD K "_law_good" "_law_good" (defArgs s__law_good) (defBody s__law_good) (defScope s__law_good) [] [] (He.ga K "_law_good") fd
  d_is_plain : ∃ fd, FunD K "is_plain" "is_plain" (defArgs s_is_plain) (defBody s_is_plain) (defScope s_is_plain) [] [] (He.ga K "is_plain") fd
  d_is_small : ∃ fd, FunD K "is_small" "is_small" (defArgs s_is_small) (defBody s_is_small) (defScope s_is_small) [] [] (He.ga K "is_small") fd
  d__law_right : ∃ fd, FunD K "_law_right" "_law_right" (defArgs s__law_right) (defBody s__law_right) (defScope s__law_right) [] [] (He.ga K "_law_right") fd
  d__law_may : ∃ fd, FunD K "_law_may" "_law_may" (defArgs s__law_may) (defBody s__law_may) (defScope s__law_may) [] [] (He.ga K "_law_may") fd
  d__law_sign : ∃ fd, FunD K "_law_sign" "_law_sign" (defArgs s__law_sign) (defBody s__law_sign) (defScope s__law_sign) [] [] (He.ga K "_law_sign") fd
  d_law : ∃ fd, FunD K "law" "law" (defArgs s_law) (defBody s_law) (defScope s_law) [] [] (He.ga K "law") fd
  d_Value_good : ∃ fd, FunD K "good" "Value.good" (defArgs s_Value_good) (defBody s_Value_good) (defScope s_Value_good) [] [] (He.ma K (He.ga K "Value") "good") fd
  d_Exact_awaited : ∃ fd, FunD K "awaited" "Exact.awaited" (defArgs s_Exact_awaited) (defBody s_Exact_awaited) (defScope s_Exact_awaited) [] [] (He.ma K (He.ga K "Exact") "awaited") fd
  d_RowEnd_awaited : ∃ fd, FunD K "awaited" "Exact.awaited" (defArgs s_Exact_awaited) (defBody s_Exact_awaited) (defScope s_Exact_awaited) [] [] (He.ma K (He.ga K "RowEnd") "awaited") fd
  d_Value_awaited : ∃ fd, FunD K "awaited" "Value.awaited" (defArgs s_Value_awaited) (defBody s_Value_awaited) (defScope s_Value_awaited) [] [] (He.ma K (He.ga K "Value") "awaited") fd
  d_Word_awaited : ∃ fd, FunD K "awaited" "Word.awaited" (defArgs s_Word_awaited) (defBody s_Word_awaited) (defScope s_Word_awaited) [] [] (He.ma K (He.ga K "Word") "awaited") fd
  d_Exact_good : ∃ fd, FunD K "good" "Exact.good" (defArgs s_Exact_good) (defBody s_Exact_good) (defScope s_Exact_good) [] [] (He.ma K (He.ga K "Exact") "good") fd
  d_RowEnd_good : ∃ fd, FunD K "good" "Exact.good" (defArgs s_Exact_good) (defBody s_Exact_good) (defScope s_Exact_good) [] [] (He.ma K (He.ga K "RowEnd") "good") fd
  d_Word_good : ∃ fd, FunD K "good" "Word.good" (defArgs s_Word_good) (defBody s_Word_good) (defScope s_Word_good) [] [] (He.ma K (He.ga K "Word") "good") fd
  d_Exact_told : ∃ fd, FunD K "told" "Exact.told" (defArgs s_Exact_told) (defBody s_Exact_told) (defScope s_Exact_told) [] [] (He.ma K (He.ga K "Exact") "told") fd
  d_RowEnd_told : ∃ fd, FunD K "told" "Exact.told" (defArgs s_Exact_told) (defBody s_Exact_told) (defScope s_Exact_told) [] [] (He.ma K (He.ga K "RowEnd") "told") fd
  d_Value_told : ∃ fd, FunD K "told" "Value.told" (defArgs s_Value_told) (defBody s_Value_told) (defScope s_Value_told) [] [] (He.ma K (He.ga K "Value") "told") fd
  d_Word_told : ∃ fd, FunD K "told" "Word.told" (defArgs s_Word_told) (defBody s_Word_told) (defScope s_Word_told) [] [] (He.ma K (He.ga K "Word") "told") fd
  d_Exact_fed : ∃ fd, FunD K "fed" "Exact.fed" (defArgs s_Exact_fed) (defBody s_Exact_fed) (defScope s_Exact_fed) [] [] (He.ma K (He.ga K "Exact") "fed") fd
  d_RowEnd_fed : ∃ fd, FunD K "fed" "Exact.fed" (defArgs s_Exact_fed) (defBody s_Exact_fed) (defScope s_Exact_fed) [] [] (He.ma K (He.ga K "RowEnd") "fed") fd
  d_Value_fed : ∃ fd, FunD K "fed" "Value.fed" (defArgs s_Value_fed) (defBody s_Value_fed) (defScope s_Value_fed) [] [] (He.ma K (He.ga K "Value") "fed") fd
  d_Word_fed : ∃ fd, FunD K "fed" "Word.fed" (defArgs s_Word_fed) (defBody s_Word_fed) (defScope s_Word_fed) [] [] (He.ma K (He.ga K "Word") "fed") fd
  d_Exact___init__ : ∃ fd, FunD K "__init__" "Exact.__init__" (defArgs s_Exact___init__) (defBody s_Exact___init__) (defScope s_Exact___init__) [] [] (He.ma K (He.ga K "Exact") "__init__") fd
  d_RowEnd___init__ : ∃ fd, FunD K "__init__" "RowEnd.__init__" (defArgs s_RowEnd___init__) (defBody s_RowEnd___init__) (defScope s_RowEnd___init__) [] [] (He.ma K (He.ga K "RowEnd") "__init__") fd
  d_Value___init__ : ∃ fd, FunD K "__init__" "Value.__init__" (defArgs s_Value___init__) (defBody s_Value___init__) (defScope s_Value___init__) [] [] (He.ma K (He.ga K "Value") "__init__") fd
  d_Word___init__ : ∃ fd, FunD K "__init__" "Word.__init__" (defArgs s_Word___init__) (defBody s_Word___init__) (defScope s_Word___init__) [] [] (He.ma K (He.ga K "Word") "__init__") fd
section
variable {P : Program} {w : World} {K : PySem.W.Frag} {mg : Str → Option Value} {base : Heap}
theorem Tx.ce (T : Tx P w K mg base) : CE K okF := ce_of (L := okL) (List.forall_mem_cons.mpr ⟨⟨T.c_Exact, T.n_Exact_many⟩, (List.forall_mem_cons.mpr ⟨⟨T.c_Exact, T.n_Exact_text⟩, (List.forall_mem_cons.mpr ⟨⟨T.c_RowEnd, T.n_RowEnd_many⟩, (List.forall_mem_cons.mpr ⟨⟨T.c_RowEnd, T.n_RowEnd_text⟩, (List.forall_mem_cons.mpr ⟨⟨T.c_Word, T.n_Word_most⟩, (List.forall_mem_cons.mpr ⟨⟨T.c_Word, T.n_Word_text⟩, (List.forall_mem_cons.mpr ⟨⟨T.c_Value, T.n_Value_most⟩, (List.forall_mem_cons.mpr ⟨⟨T.c_Value, T.n_Value_text⟩, (fun p hp => nomatch hp)⟩)⟩)⟩)⟩)⟩)⟩)⟩)⟩)
theorem sc__law_cell_at : FnScope ["_law_script", "_law_k"] ["_law_script", "_law_k"] (defScope s__law_cell_at) := ⟨rfl, rfl, rfl, by decide +kernel, rfl, by decide +kernel, by decide +kernel⟩
theorem pss__law_cell_at (T : Tx P w K mg base) {fa : Addr} {cdv : Value} {A : Around} {outer : List Env} {s : Shared} {H : Hp} {E : XK} (hr : Room 0 (A.deeper (envOfC "_law_cell_at" (defScope s__law_cell_at) s.heap.objs.size fa cdv))) :
    PSS (cxOf (L2.CX P w) P w K mg base ["_law_script", "_law_k"] "_law_cell_at" (defScope s__law_cell_at) fa cdv A outer s H E) [] (fun _ _ _ _ => False) (defBody s__law_cell_at) (f__law_cell_at) :=
  (pss_cons' (ps1_if (pb_cmp opd_lt (pq_var 1 (pv 1)) (pq_callB cd_len T.b_len (by decide +kernel) (paq_cons (pq_var 0 (pv 0)) paq_nil)) (nomark _)) (pss_one' (ps1_ret (pq_ix (pq_var 0 (pv 0)) (pq_var 1 (pv 1))))) pss_nil')
      (pss_one' (ps1_ret pq_int)))
theorem ok__law_cell_at (T : Tx P w K mg base) : OkQ P w K mg base "_law_cell_at" 1 2 [] r__law_cell_at := by
  obtain ⟨fd, F⟩ := T.d__law_cell_at
  exact ⟨_, fd, _, [], [], fnq_def F sc__law_cell_at rfl (fun cdv A outer s H E hr => pss__law_cell_at T hr) (fun _ _ h => h), F.bindsN (fun _ _ _ _ _ _ us hl => match us, hl with | [_, _], _ => rfl), .nil, fun _ => ⟨rfl, rfl⟩, rfl, T.m__law_cell_at, F.kp⟩
theorem sc__law_stream : FnScope ["_law_cell", "_law_many", "_law_found", "_law_number", "_law_k"] ["_law_cell", "_law_many"] (defScope s__law_stream) := ⟨rfl, rfl, rfl, by decide +kernel, rfl, by decide +kernel, by decide +kernel⟩
theorem pss__law_stream (T : Tx P w K mg base) {fa : Addr} {cdv : Value} {A : Around} {outer : List Env} {s : Shared} {H : Hp} {E : XK} (hr : Room 0 (A.deeper (envOfC "_law_stream" (defScope s__law_stream) s.heap.objs.size fa cdv))) :
    PSS (cxOf (L2.CX P w) P w K mg base ["_law_cell", "_law_many", "_law_found", "_law_number", "_law_k"] "_law_stream" (defScope s__law_stream) fa cdv A outer s H E) [] (fun _ _ _ _ => False) (defBody s__law_stream) (f__law_stream) :=
  (pss_cons' (ps1_setN (i := 2) sc__law_stream.nd rfl (by first | exact Or.inl rfl | exact Or.inr rfl) (pn_lst paq_nil))
      (pss_cons' (ps1_set (i := 3) sc__law_stream.nd rfl (by first | exact Or.inl rfl | exact Or.inr rfl) (pq_op opd_mod (pq_op opd_mul (pq_op opd_add (pq_var 0 (pv 0)) pq_int) pq_int) pq_int))
      (pss_cons' (ps1_for (passes_of rfl) rfl (pif_range1 (pq_var 1 (pv 1)) T.b_range) (pgd_name (vs := [4]) (pg_name (i := 4) sc__law_stream.nd rfl (by first | exact Or.inl rfl | exact Or.inr rfl))) (pss_wp [4] (pss_cons' (ps1_set (i := 3) sc__law_stream.nd rfl (by first | exact Or.inl rfl | exact Or.inr rfl) (pq_op opd_mod (pq_op opd_mul (pq_op opd_add (pq_op opd_add (pq_var 3 (pv 3)) (pq_op opd_mul pq_int (pq_var 4 (pv 4)))) pq_int) (pq_op opd_add (pq_op opd_fdiv (pq_var 3 (pv 3)) pq_int) pq_int)) pq_int))
      (pss_one' (ps1_app (fun te p => pe_bm PySem.F.plainAttrs_list PySem.F.slot_list_append PySem.F.type_list_append mt_append (pv 2) (pa_cons p pa_nil)) (pq_var 3 (pv 3)))))))
      (pss_one' (ps1_fz 2 (ps1_ret (pq_var 2 (pv 2))))))))
theorem ok__law_stream (T : Tx P w K mg base) : OkQ P w K mg base "_law_stream" 1 2 [] r__law_stream := by
  obtain ⟨fd, F⟩ := T.d__law_stream
  exact ⟨_, fd, _, [], [], fnq_def F sc__law_stream rfl (fun cdv A outer s H E hr => pss__law_stream T hr) (fun _ _ h => h), F.bindsN (fun _ _ _ _ _ _ us hl => match us, hl with | [_, _], _ => rfl), .nil, fun _ => ⟨rfl, rfl⟩, rfl, T.m__law_stream, F.kp⟩
theorem sc_Exact___init__ : FnScope ["self", "text"] ["self", "text"] (defScope s_Exact___init__) := ⟨rfl, rfl, rfl, by decide +kernel, rfl, by decide +kernel, by decide +kernel⟩
theorem pss_Exact___init__ (T : Tx P w K mg base) {fa : Addr} {cdv : Value} {A : Around} {outer : List Env} {s : Shared} {H : Hp} {E : XK} (hr : Room 0 (A.deeper (envOfC "Exact.__init__" (defScope s_Exact___init__) s.heap.objs.size fa cdv))) :
    PSS (cxOf (L2.CX P w) P w K mg base ["self", "text"] "Exact.__init__" (defScope s_Exact___init__) fa cdv A outer s H E) [0] (fun cls dx _ H' => E cls dx H') (defBody s_Exact___init__) (f_Exact___init__) :=
  (pss_cons' (ps1_fldX T.ce (pp_var (pv 0)) (px_q (pq_var 1 (pv 1))))
      (pss_one' (ps1_fldX T.ce (pp_var (pv 0)) (px_q pq_int))))
theorem ok_Exact_make (T : Tx P w K mg base) : OkK P w K mg base "Exact" 1 2 [] r_Exact___init__ := by
  obtain ⟨fd, F⟩ := T.d_Exact___init__
  exact ⟨_, fd, _, [], [], fnx_def F sc_Exact___init__ rfl (ks := [true, false]) (ob := [0]) (hob_of rfl) (fun cdv A outer s H E hr => pss_Exact___init__ T hr) (fun _ _ _ h => h), F.bindsN (fun _ _ _ _ _ _ us hl => match us, hl with | [_, _], _ => rfl), .nil, fun _ => ⟨rfl, rfl⟩, T.k_Exact, T.m_Exact⟩
theorem ok_Exact___init___base (T : Tx P w K mg base) : OkB P w K mg base "Exact" "__init__" 1 2 r_Exact___init__ := by
  obtain ⟨fd, F⟩ := T.d_Exact___init__
  exact ⟨fd, _, fnx_def F sc_Exact___init__ rfl (ks := [true, false]) (ob := [0]) (hob_of rfl) (fun cdv A outer s H E hr => pss_Exact___init__ T hr) (fun _ _ _ h => h), F.bindsN (fun _ _ _ _ _ _ us hl => match us, hl with | [_, _], _ => rfl), T.m_Exact, T.b_Exact___init___base⟩
theorem sc_Word___init__ : FnScope ["self", "most"] ["self", "most"] (defScope s_Word___init__) := ⟨rfl, rfl, rfl, by decide +kernel, rfl, by decide +kernel, by decide +kernel⟩
theorem pss_Word___init__ (T : Tx P w K mg base) {fa : Addr} {cdv : Value} {A : Around} {outer : List Env} {s : Shared} {H : Hp} {E : XK} (hr : Room 0 (A.deeper (envOfC "Word.__init__" (defScope s_Word___init__) s.heap.objs.size fa cdv))) :
    PSS (cxOf (L2.CX P w) P w K mg base ["self", "most"] "Word.__init__" (defScope s_Word___init__) fa cdv A outer s H E) [0] (fun cls dx _ H' => E cls dx H') (defBody s_Word___init__) (f_Word___init__) :=
  (pss_cons' (ps1_fldX T.ce (pp_var (pv 0)) (px_q (pq_var 1 (pv 1))))
      (pss_one' (ps1_fldX T.ce (pp_var (pv 0)) (px_q (pq_str "")))))
theorem ok_Word_make (T : Tx P w K mg base) : OkK P w K mg base "Word" 1 2 [] r_Word___init__ := by
  obtain ⟨fd, F⟩ := T.d_Word___init__
  exact ⟨_, fd, _, [], [], fnx_def F sc_Word___init__ rfl (ks := [true, false]) (ob := [0]) (hob_of rfl) (fun cdv A outer s H E hr => pss_Word___init__ T hr) (fun _ _ _ h => h), F.bindsN (fun _ _ _ _ _ _ us hl => match us, hl with | [_, _], _ => rfl), .nil, fun _ => ⟨rfl, rfl⟩, T.k_Word, T.m_Word⟩
theorem sc_Value___init__ : FnScope ["self", "most"] ["self", "most"] (defScope s_Value___init__) := ⟨rfl, rfl, rfl, by decide +kernel, rfl, by decide +kernel, by decide +kernel⟩
theorem pss_Value___init__ (T : Tx P w K mg base) {fa : Addr} {cdv : Value} {A : Around} {outer : List Env} {s : Shared} {H : Hp} {E : XK} (hr : Room 0 (A.deeper (envOfC "Value.__init__" (defScope s_Value___init__) s.heap.objs.size fa cdv))) :
    PSS (cxOf (L2.CX P w) P w K mg base ["self", "most"] "Value.__init__" (defScope s_Value___init__) fa cdv A outer s H E) [0] (fun cls dx _ H' => E cls dx H') (defBody s_Value___init__) (f_Value___init__) :=
  (pss_cons' (ps1_fldX T.ce (pp_var (pv 0)) (px_q (pq_var 1 (pv 1))))
      (pss_one' (ps1_fldX T.ce (pp_var (pv 0)) (px_q (pq_str "")))))
theorem ok_Value_make (T : Tx P w K mg base) : OkK P w K mg base "Value" 1 2 [] r_Value___init__ := by
  obtain ⟨fd, F⟩ := T.d_Value___init__
  exact ⟨_, fd, _, [], [], fnx_def F sc_Value___init__ rfl (ks := [true, false]) (ob := [0]) (hob_of rfl) (fun cdv A outer s H E hr => pss_Value___init__ T hr) (fun _ _ _ h => h), F.bindsN (fun _ _ _ _ _ _ us hl => match us, hl with | [_, _], _ => rfl), .nil, fun _ => ⟨rfl, rfl⟩, T.k_Value, T.m_Value⟩
theorem sc_RowEnd___init__ : FnScope ["self"] ["self"] (defScope s_RowEnd___init__) := ⟨rfl, rfl, rfl, by decide +kernel, rfl, by decide +kernel, by decide +kernel⟩
theorem pss_RowEnd___init__ (T : Tx P w K mg base) {fa : Addr} {cdv : Value} {A : Around} {outer : List Env} {s : Shared} {H : Hp} {E : XK} (hr : Room 1 (A.deeper (envOfC "RowEnd.__init__" (defScope s_RowEnd___init__) s.heap.objs.size fa cdv))) :
    PSS (cxOf (L2.CX P w) P w K mg base ["self"] "RowEnd.__init__" (defScope s_RowEnd___init__) fa cdv A outer s H E) [0] (fun cls dx _ H' => E cls dx H') (defBody s_RowEnd___init__) (f_RowEnd___init__) :=
  (pss_one' (ps1_exX (px_base (ok_Exact___init___base T) (hr.mono (by decide)) takes_cx (pax_slot (pv 0) (pax_cons (px_q (pq_glob T.g_ROW_END)) pax_nil)))))
theorem ok_RowEnd_make (T : Tx P w K mg base) : OkK P w K mg base "RowEnd" 2 1 [] r_RowEnd___init__ := by
  obtain ⟨fd, F⟩ := T.d_RowEnd___init__
  exact ⟨_, fd, _, [], [], fnx_def F sc_RowEnd___init__ rfl (ks := [true]) (ob := [0]) (hob_of rfl) (fun cdv A outer s H E hr => pss_RowEnd___init__ T hr) (fun _ _ _ h => h), F.bindsN (fun _ _ _ _ _ _ us hl => match us, hl with | [_], _ => rfl), .nil, fun _ => ⟨rfl, rfl⟩, T.k_RowEnd, T.m_RowEnd⟩
theorem sc__law_made : FnScope ["_law_kind", "_law_most", "_law_due"] ["_law_kind", "_law_most", "_law_due"] (defScope s__law_made) := ⟨rfl, rfl, rfl, by decide +kernel, rfl, by decide +kernel, by decide +kernel⟩
theorem pss__law_made (T : Tx P w K mg base) {fa : Addr} {cdv : Value} {A : Around} {outer : List Env} {s : Shared} {H : Hp} {E : XK} (hr : Room 3 (A.deeper (envOfC "_law_made" (defScope s__law_made) s.heap.objs.size fa cdv))) :
    PSS (cxOf (L2.CX P w) P w K mg base ["_law_kind", "_law_most", "_law_due"] "_law_made" (defScope s__law_made) fa cdv A outer s H E) [] (fun cls dx _ H' => E cls dx H') (defBody s__law_made) (f__law_made) :=
  (pss_cons' (ps1_if (pb_cmp (opd_eq hr) (pq_var 0 (pv 0)) pq_int (nomark _)) (pss_one' (ps1_retX (px_make (ok_Word_make T) (hr.mono (by decide)) takes_cx (pax_cons (px_q (pq_var 1 (pv 1))) pax_nil)))) pss_nil')
      (pss_cons' (ps1_if (pb_cmp (opd_eq hr) (pq_var 0 (pv 0)) pq_int (nomark _)) (pss_one' (ps1_retX (px_make (ok_Value_make T) (hr.mono (by decide)) takes_cx (pax_cons (px_q (pq_var 1 (pv 1))) pax_nil)))) pss_nil')
      (pss_cons' (ps1_if (pb_cmp (opd_eq hr) (pq_var 2 (pv 2)) (pq_str ";\n") (nomark _)) (pss_one' (ps1_retX (px_make0 (ok_RowEnd_make T) (hr.mono (by decide)) takes_cx))) pss_nil')
      (pss_one' (ps1_retX (px_make (ok_Exact_make T) (hr.mono (by decide)) takes_cx (pax_cons (px_q (pq_var 2 (pv 2))) pax_nil)))))))
theorem ok__law_made (T : Tx P w K mg base) : OkX P w K mg base "_law_made" 4 3 [] r__law_made := by
  obtain ⟨fd, F⟩ := T.d__law_made
  exact ⟨_, fd, _, [], [], fnx_def F sc__law_made rfl (ks := [false, false, false]) (ob := []) (hob_of rfl) (fun cdv A outer s H E hr => pss__law_made T hr) (fun _ _ _ h => h), F.bindsN (fun _ _ _ _ _ _ us hl => match us, hl with | [_, _, _], _ => rfl), .nil, fun _ => ⟨rfl, rfl⟩, T.m__law_made, F.kp⟩
theorem sc__law_good : FnScope ["_law_kind", "_law_text", "_law_due"] ["_law_kind", "_law_text", "_law_due"] (defScope s__law_good) := ⟨rfl, rfl, rfl, by decide +kernel, rfl, by decide +kernel, by decide +kernel⟩
theorem pss__law_good (T : Tx P w K mg base) {fa : Addr} {cdv : Value} {A : Around} {outer : List Env} {s : Shared} {H : Hp} {E : XK} (hr : Room 0 (A.deeper (envOfC "_law_good" (defScope s__law_good) s.heap.objs.size fa cdv))) :
    PSS (cxOf (L2.CX P w) P w K mg base ["_law_kind", "_law_text", "_law_due"] "_law_good" (defScope s__law_good) fa cdv A outer s H E) [] (fun _ _ _ _ => False) (defBody s__law_good) (f__law_good) :=
  (pss_cons' (ps1_if (pb_cmp (opd_eq hr) (pq_var 0 (pv 0)) pq_int (nomark _)) (pss_one' (ps1_ret (pq_cmp (opd_eq hr) (pq_var 1 (pv 1)) (pq_var 2 (pv 2)) (nomark _)))) pss_nil')
      (pss_one' (ps1_ret (pq_and (pq_cmp (opd_ne hr) (pq_var 1 (pv 1)) (pq_str "") (nomark _)) (pq_one (pq_cmp (opd_ne hr) (pq_ix (pq_var 1 (pv 1)) (pq_neg pq_int)) (pq_str " ") (nomark _)))))))
theorem ok__law_good (T : Tx P w K mg base) : OkQ P w K mg base "_law_good" 1 3 [] r__law_good := by
  obtain ⟨fd, F⟩ := T.d__law_good
  exact ⟨_, fd, _, [], [], fnq_def F sc__law_good rfl (fun cdv A outer s H E hr => pss__law_good T hr) (fun _ _ h => h), F.bindsN (fun _ _ _ _ _ _ us hl => match us, hl with | [_, _, _], _ => rfl), .nil, fun _ => ⟨rfl, rfl⟩, rfl, T.m__law_good, F.kp⟩
theorem sc_Exact_awaited : FnScope ["self"] ["self"] (defScope s_Exact_awaited) := ⟨rfl, rfl, rfl, by decide +kernel, rfl, by decide +kernel, by decide +kernel⟩
theorem pss_Exact_awaited (T : Tx P w K mg base) {fa : Addr} {cdv : Value} {A : Around} {outer : List Env} {s : Shared} {H : Hp} {E : XK} (hr : Room 0 (A.deeper (envOfC "Exact.awaited" (defScope s_Exact_awaited) s.heap.objs.size fa cdv))) :
    PSS (cxOf (L2.CX P w) P w K mg base ["self"] "Exact.awaited" (defScope s_Exact_awaited) fa cdv A outer s H E) [] (fun _ _ _ _ => False) (defBody s_Exact_awaited) (f_Exact_awaited) :=
  (pss_one' (ps1_ret (pq_sl (pq_fld T.ce (pq_var 0 (pv 0))) (poq_some (pq_fld T.ce (pq_var 0 (pv 0)))) poq_none)))
theorem sc_Value_good : FnScope ["self"] ["self"] (defScope s_Value_good) := ⟨rfl, rfl, rfl, by decide +kernel, rfl, by decide +kernel, by decide +kernel⟩
theorem pss_Value_good (T : Tx P w K mg base) {fa : Addr} {cdv : Value} {A : Around} {outer : List Env} {s : Shared} {H : Hp} {E : XK} (hr : Room 0 (A.deeper (envOfC "Value.good" (defScope s_Value_good) s.heap.objs.size fa cdv))) :
    PSS (cxOf (L2.CX P w) P w K mg base ["self"] "Value.good" (defScope s_Value_good) fa cdv A outer s H E) [] (fun _ _ _ _ => False) (defBody s_Value_good) (f_Value_good) :=
  (pss_one' (ps1_ret (pq_and (pq_cmp (opd_ne hr) (pq_fld T.ce (pq_var 0 (pv 0))) (pq_str "") (nomark _)) (pq_one (pq_cmp (opd_ne hr) (pq_ix (pq_fld T.ce (pq_var 0 (pv 0))) (pq_neg pq_int)) (pq_str " ") (nomark _))))))
theorem ok_Value_good_at (T : Tx P w K mg base) : OkFM P w K mg base "Value" "good" 1 1 [] r_Value_good := by
  obtain ⟨fd, F⟩ := T.d_Value_good
  exact ⟨_, fd, _, [], [], fnf_def (ob := []) F sc_Value_good rfl (fun cdv A outer s H E hr => pss_Value_good T hr) (fun _ _ _ h => h), F.bindsN (fun _ _ _ _ _ _ us hl => match us, hl with | [_], _ => rfl), .nil, fun _ => ⟨rfl, rfl⟩, T.c_Value, T.h_Value_good⟩
theorem mt0_good_ok (T : Tx P w K mg base) : ∀ c run, mt0_good c = some run → OkFM P w K mg base c "good" 1 1 [] run := tbl_ok (List.forall_mem_cons.mpr ⟨(ok_Value_good_at T).mono (by decide), (fun z hz => nomatch hz)⟩)
theorem sc_Value_awaited : FnScope ["self"] ["self"] (defScope s_Value_awaited) := ⟨rfl, rfl, rfl, by decide +kernel, rfl, by decide +kernel, by decide +kernel⟩
theorem pss_Value_awaited (T : Tx P w K mg base) {fa : Addr} {cdv : Value} {A : Around} {outer : List Env} {s : Shared} {H : Hp} {E : XK} (hr : Room 1 (A.deeper (envOfC "Value.awaited" (defScope s_Value_awaited) s.heap.objs.size fa cdv))) :
    PSS (cxOf (L2.CX P w) P w K mg base ["self"] "Value.awaited" (defScope s_Value_awaited) fa cdv A outer s H E) [] (fun _ _ _ _ => False) (defBody s_Value_awaited) (f_Value_awaited) :=
  (pss_cons' (ps1_if (pb_val (pq_methF0 (mt0_good_ok T) (pq_var 0 (pv 0)) (hr.mono (by decide)))) (pss_one' (ps1_ret (pq_str ""))) pss_nil')
      (pss_one' (ps1_ret (pq_str "a"))))
theorem sc_Word_awaited : FnScope ["self"] ["self"] (defScope s_Word_awaited) := ⟨rfl, rfl, rfl, by decide +kernel, rfl, by decide +kernel, by decide +kernel⟩
theorem pss_Word_awaited (T : Tx P w K mg base) {fa : Addr} {cdv : Value} {A : Around} {outer : List Env} {s : Shared} {H : Hp} {E : XK} (hr : Room 0 (A.deeper (envOfC "Word.awaited" (defScope s_Word_awaited) s.heap.objs.size fa cdv))) :
    PSS (cxOf (L2.CX P w) P w K mg base ["self"] "Word.awaited" (defScope s_Word_awaited) fa cdv A outer s H E) [] (fun _ _ _ _ => False) (defBody s_Word_awaited) (f_Word_awaited) :=
  (pss_cons' (ps1_if (pb_cmp (opd_eq hr) (pq_fld T.ce (pq_var 0 (pv 0))) (pq_str "") (nomark _)) (pss_one' (ps1_ret (pq_str "a"))) pss_nil')
      (pss_one' (ps1_ret (pq_str ""))))
theorem ok_Exact_awaited_at (T : Tx P w K mg base) : OkFM P w K mg base "Exact" "awaited" 1 1 [] r_Exact_awaited := by
  obtain ⟨fd, F⟩ := T.d_Exact_awaited
  exact ⟨_, fd, _, [], [], fnf_def (ob := []) F sc_Exact_awaited rfl (fun cdv A outer s H E hr => pss_Exact_awaited T hr) (fun _ _ _ h => h), F.bindsN (fun _ _ _ _ _ _ us hl => match us, hl with | [_], _ => rfl), .nil, fun _ => ⟨rfl, rfl⟩, T.c_Exact, T.h_Exact_awaited⟩
theorem ok_RowEnd_awaited_at (T : Tx P w K mg base) : OkFM P w K mg base "RowEnd" "awaited" 1 1 [] r_Exact_awaited := by
  obtain ⟨fd, F⟩ := T.d_RowEnd_awaited
  exact ⟨_, fd, _, [], [], fnf_def (ob := []) F sc_Exact_awaited rfl (fun cdv A outer s H E hr => pss_Exact_awaited T hr) (fun _ _ _ h => h), F.bindsN (fun _ _ _ _ _ _ us hl => match us, hl with | [_], _ => rfl), .nil, fun _ => ⟨rfl, rfl⟩, T.c_RowEnd, T.h_RowEnd_awaited⟩
theorem ok_Value_awaited_at (T : Tx P w K mg base) : OkFM P w K mg base "Value" "awaited" 2 1 [] r_Value_awaited := by
  obtain ⟨fd, F⟩ := T.d_Value_awaited
  exact ⟨_, fd, _, [], [], fnf_def (ob := []) F sc_Value_awaited rfl (fun cdv A outer s H E hr => pss_Value_awaited T hr) (fun _ _ _ h => h), F.bindsN (fun _ _ _ _ _ _ us hl => match us, hl with | [_], _ => rfl), .nil, fun _ => ⟨rfl, rfl⟩, T.c_Value, T.h_Value_awaited⟩
theorem ok_Word_awaited_at (T : Tx P w K mg base) : OkFM P w K mg base "Word" "awaited" 1 1 [] r_Word_awaited := by
  obtain ⟨fd, F⟩ := T.d_Word_awaited
  exact ⟨_, fd, _, [], [], fnf_def (ob := []) F sc_Word_awaited rfl (fun cdv A outer s H E hr => pss_Word_awaited T hr) (fun _ _ _ h => h), F.bindsN (fun _ _ _ _ _ _ us hl => match us, hl with | [_], _ => rfl), .nil, fun _ => ⟨rfl, rfl⟩, T.c_Word, T.h_Word_awaited⟩
theorem mt1_awaited_ok (T : Tx P w K mg base) : ∀ c run, mt1_awaited c = some run → OkFM P w K mg base c "awaited" 2 1 [] run := tbl_ok (List.forall_mem_cons.mpr ⟨(ok_Exact_awaited_at T).mono (by decide), (List.forall_mem_cons.mpr ⟨(ok_RowEnd_awaited_at T).mono (by decide), (List.forall_mem_cons.mpr ⟨(ok_Value_awaited_at T).mono (by decide), (List.forall_mem_cons.mpr ⟨(ok_Word_awaited_at T).mono (by decide), (fun z hz => nomatch hz)⟩)⟩)⟩)⟩)
theorem sc_Exact_good : FnScope ["self"] ["self"] (defScope s_Exact_good) := ⟨rfl, rfl, rfl, by decide +kernel, rfl, by decide +kernel, by decide +kernel⟩
theorem pss_Exact_good (T : Tx P w K mg base) {fa : Addr} {cdv : Value} {A : Around} {outer : List Env} {s : Shared} {H : Hp} {E : XK} (hr : Room 0 (A.deeper (envOfC "Exact.good" (defScope s_Exact_good) s.heap.objs.size fa cdv))) :
    PSS (cxOf (L2.CX P w) P w K mg base ["self"] "Exact.good" (defScope s_Exact_good) fa cdv A outer s H E) [] (fun _ _ _ _ => False) (defBody s_Exact_good) (f_Exact_good) :=
  (pss_one' (ps1_ret (pq_cmp (opd_eq hr) (pq_fld T.ce (pq_var 0 (pv 0))) (pq_callB cd_len T.b_len (by decide +kernel) (paq_cons (pq_fld T.ce (pq_var 0 (pv 0))) paq_nil)) (nomark _))))
theorem sc_Word_good : FnScope ["self"] ["self"] (defScope s_Word_good) := ⟨rfl, rfl, rfl, by decide +kernel, rfl, by decide +kernel, by decide +kernel⟩
theorem pss_Word_good (T : Tx P w K mg base) {fa : Addr} {cdv : Value} {A : Around} {outer : List Env} {s : Shared} {H : Hp} {E : XK} (hr : Room 0 (A.deeper (envOfC "Word.good" (defScope s_Word_good) s.heap.objs.size fa cdv))) :
    PSS (cxOf (L2.CX P w) P w K mg base ["self"] "Word.good" (defScope s_Word_good) fa cdv A outer s H E) [] (fun _ _ _ _ => False) (defBody s_Word_good) (f_Word_good) :=
  (pss_one' (ps1_ret (pq_cmp (opd_ne hr) (pq_fld T.ce (pq_var 0 (pv 0))) (pq_str "") (nomark _))))
theorem ok_Exact_good_at (T : Tx P w K mg base) : OkFM P w K mg base "Exact" "good" 1 1 [] r_Exact_good := by
  obtain ⟨fd, F⟩ := T.d_Exact_good
  exact ⟨_, fd, _, [], [], fnf_def (ob := []) F sc_Exact_good rfl (fun cdv A outer s H E hr => pss_Exact_good T hr) (fun _ _ _ h => h), F.bindsN (fun _ _ _ _ _ _ us hl => match us, hl with | [_], _ => rfl), .nil, fun _ => ⟨rfl, rfl⟩, T.c_Exact, T.h_Exact_good⟩
theorem ok_RowEnd_good_at (T : Tx P w K mg base) : OkFM P w K mg base "RowEnd" "good" 1 1 [] r_Exact_good := by
  obtain ⟨fd, F⟩ := T.d_RowEnd_good
  exact ⟨_, fd, _, [], [], fnf_def (ob := []) F sc_Exact_good rfl (fun cdv A outer s H E hr => pss_Exact_good T hr) (fun _ _ _ h => h), F.bindsN (fun _ _ _ _ _ _ us hl => match us, hl with | [_], _ => rfl), .nil, fun _ => ⟨rfl, rfl⟩, T.c_RowEnd, T.h_RowEnd_good⟩
theorem ok_Word_good_at (T : Tx P w K mg base) : OkFM P w K mg base "Word" "good" 1 1 [] r_Word_good := by
  obtain ⟨fd, F⟩ := T.d_Word_good
  exact ⟨_, fd, _, [], [], fnf_def (ob := []) F sc_Word_good rfl (fun cdv A outer s H E hr => pss_Word_good T hr) (fun _ _ _ h => h), F.bindsN (fun _ _ _ _ _ _ us hl => match us, hl with | [_], _ => rfl), .nil, fun _ => ⟨rfl, rfl⟩, T.c_Word, T.h_Word_good⟩
theorem mt2_good_ok (T : Tx P w K mg base) : ∀ c run, mt2_good c = some run → OkFM P w K mg base c "good" 1 1 [] run := tbl_ok (List.forall_mem_cons.mpr ⟨(ok_Exact_good_at T).mono (by decide), (List.forall_mem_cons.mpr ⟨(ok_RowEnd_good_at T).mono (by decide), (List.forall_mem_cons.mpr ⟨(ok_Value_good_at T).mono (by decide), (List.forall_mem_cons.mpr ⟨(ok_Word_good_at T).mono (by decide), (fun z hz => nomatch hz)⟩)⟩)⟩)⟩)
theorem sc_Exact_fed : FnScope ["self", "sign"] ["self", "sign"] (defScope s_Exact_fed) := ⟨rfl, rfl, rfl, by decide +kernel, rfl, by decide +kernel, by decide +kernel⟩
theorem pss_Exact_fed (T : Tx P w K mg base) {fa : Addr} {cdv : Value} {A : Around} {outer : List Env} {s : Shared} {H : Hp} {E : XK} (hr : Room 0 (A.deeper (envOfC "Exact.fed" (defScope s_Exact_fed) s.heap.objs.size fa cdv))) :
    PSS (cxOf (L2.CX P w) P w K mg base ["self", "sign"] "Exact.fed" (defScope s_Exact_fed) fa cdv A outer s H E) [0] (fun cls dx _ H' => E cls dx H') (defBody s_Exact_fed) (f_Exact_fed) :=
  (pss_cons' (ps1_if (PWB.pb (pwb_and (pb_cmp opd_lt (pq_fld T.ce (pq_var 0 (pv 0))) (pq_callB cd_len T.b_len (by decide +kernel) (paq_cons (pq_fld T.ce (pq_var 0 (pv 0))) paq_nil)) (nomark _)) (pw1_and (pb_cmp (opd_eq hr) (pq_var 1 (pv 1)) (pq_ix (pq_fld T.ce (pq_var 0 (pv 0))) (pq_fld T.ce (pq_var 0 (pv 0)))) (nomark _))))) (pss_cons' (ps1_fldadd T.ce (pp_var (pv 0)) pq_int)
      (pss_one' (ps1_ret pq_bl))) pss_nil')
      (pss_one' (ps1_ret pq_bl)))
theorem sc_is_plain : FnScope ["sign"] ["sign"] (defScope s_is_plain) := ⟨rfl, rfl, rfl, by decide +kernel, rfl, by decide +kernel, by decide +kernel⟩
theorem pss_is_plain (T : Tx P w K mg base) {fa : Addr} {cdv : Value} {A : Around} {outer : List Env} {s : Shared} {H : Hp} {E : XK} (hr : Room 0 (A.deeper (envOfC "is_plain" (defScope s_is_plain) s.heap.objs.size fa cdv))) :
    PSS (cxOf (L2.CX P w) P w K mg base ["sign"] "is_plain" (defScope s_is_plain) fa cdv A outer s H E) [] (fun _ _ _ _ => False) (defBody s_is_plain) (f_is_plain) :=
  (pss_one' (ps1_ret (pq_or (pq_cmp (opd_eq hr) (pq_var 0 (pv 0)) (pq_str "\n") (nomark _)) (pq_one (pq_and (pq_cmp (opd_eq hr) (pq_callB cd_len T.b_len (by decide +kernel) (paq_cons (pq_var 0 (pv 0)) paq_nil)) pq_int (nomark _)) (pq_one (pq_chain opd_le opd_le (pq_str " ") (pq_var 0 (pv 0)) (pq_str "~"))))))))
theorem ok_is_plain (T : Tx P w K mg base) : OkQ P w K mg base "is_plain" 1 1 [] r_is_plain := by
  obtain ⟨fd, F⟩ := T.d_is_plain
  exact ⟨_, fd, _, [], [], fnq_def F sc_is_plain rfl (fun cdv A outer s H E hr => pss_is_plain T hr) (fun _ _ h => h), F.bindsN (fun _ _ _ _ _ _ us hl => match us, hl with | [_], _ => rfl), .nil, fun _ => ⟨rfl, rfl⟩, rfl, T.m_is_plain, F.kp⟩
theorem sc_Value_fed : FnScope ["self", "sign"] ["self", "sign"] (defScope s_Value_fed) := ⟨rfl, rfl, rfl, by decide +kernel, rfl, by decide +kernel, by decide +kernel⟩
theorem pss_Value_fed (T : Tx P w K mg base) {fa : Addr} {cdv : Value} {A : Around} {outer : List Env} {s : Shared} {H : Hp} {E : XK} (hr : Room 1 (A.deeper (envOfC "Value.fed" (defScope s_Value_fed) s.heap.objs.size fa cdv))) :
    PSS (cxOf (L2.CX P w) P w K mg base ["self", "sign"] "Value.fed" (defScope s_Value_fed) fa cdv A outer s H E) [0] (fun cls dx _ H' => E cls dx H') (defBody s_Value_fed) (f_Value_fed) :=
  (pss_cons' (ps1_if (PWB.pb (pwb_or (pb_not (pb_val (pq_call (ok_is_plain T) (hr.mono (by decide)) (paq_cons (pq_var 1 (pv 1)) paq_nil)))) (pwb_or (pb_cmp (opd_eq hr) (pq_var 1 (pv 1)) (pq_str "\n") (nomark _)) (pwb_or (pb_cmp (opd_eq hr) (pq_var 1 (pv 1)) (pq_str ";") (nomark _)) (pw1_or (pb_cmp (opd_eq hr) (pq_callB cd_len T.b_len (by decide +kernel) (paq_cons (pq_fld T.ce (pq_var 0 (pv 0))) paq_nil)) (pq_fld T.ce (pq_var 0 (pv 0))) (nomark _))))))) (pss_one' (ps1_ret pq_bl)) pss_nil')
      (pss_cons' (ps1_if (PWB.pb (pwb_and (pb_cmp (opd_eq hr) (pq_var 1 (pv 1)) (pq_str " ") (nomark _)) (pw1_and (PWB.pb (pwb_or (pb_cmp (opd_eq hr) (pq_fld T.ce (pq_var 0 (pv 0))) (pq_str "") (nomark _)) (pw1_or (pb_cmp (opd_eq hr) (pq_op opd_add (pq_callB cd_len T.b_len (by decide +kernel) (paq_cons (pq_fld T.ce (pq_var 0 (pv 0))) paq_nil)) pq_int) (pq_fld T.ce (pq_var 0 (pv 0))) (nomark _)))))))) (pss_one' (ps1_ret pq_bl)) pss_nil')
      (pss_cons' (ps1_fldX T.ce (pp_var (pv 0)) (px_q (pq_op opd_add (pq_fld T.ce (pq_var 0 (pv 0))) (pq_var 1 (pv 1)))))
      (pss_one' (ps1_ret pq_bl)))))
theorem sc_is_small : FnScope ["sign"] ["sign"] (defScope s_is_small) := ⟨rfl, rfl, rfl, by decide +kernel, rfl, by decide +kernel, by decide +kernel⟩
theorem pss_is_small (T : Tx P w K mg base) {fa : Addr} {cdv : Value} {A : Around} {outer : List Env} {s : Shared} {H : Hp} {E : XK} (hr : Room 0 (A.deeper (envOfC "is_small" (defScope s_is_small) s.heap.objs.size fa cdv))) :
    PSS (cxOf (L2.CX P w) P w K mg base ["sign"] "is_small" (defScope s_is_small) fa cdv A outer s H E) [] (fun _ _ _ _ => False) (defBody s_is_small) (f_is_small) :=
  (pss_one' (ps1_ret (pq_and (pq_cmp (opd_eq hr) (pq_callB cd_len T.b_len (by decide +kernel) (paq_cons (pq_var 0 (pv 0)) paq_nil)) pq_int (nomark _)) (pq_one (pq_chain opd_le opd_le (pq_str "a") (pq_var 0 (pv 0)) (pq_str "z"))))))
theorem ok_is_small (T : Tx P w K mg base) : OkQ P w K mg base "is_small" 1 1 [] r_is_small := by
  obtain ⟨fd, F⟩ := T.d_is_small
  exact ⟨_, fd, _, [], [], fnq_def F sc_is_small rfl (fun cdv A outer s H E hr => pss_is_small T hr) (fun _ _ h => h), F.bindsN (fun _ _ _ _ _ _ us hl => match us, hl with | [_], _ => rfl), .nil, fun _ => ⟨rfl, rfl⟩, rfl, T.m_is_small, F.kp⟩
theorem sc_Word_fed : FnScope ["self", "sign"] ["self", "sign"] (defScope s_Word_fed) := ⟨rfl, rfl, rfl, by decide +kernel, rfl, by decide +kernel, by decide +kernel⟩
theorem pss_Word_fed (T : Tx P w K mg base) {fa : Addr} {cdv : Value} {A : Around} {outer : List Env} {s : Shared} {H : Hp} {E : XK} (hr : Room 1 (A.deeper (envOfC "Word.fed" (defScope s_Word_fed) s.heap.objs.size fa cdv))) :
    PSS (cxOf (L2.CX P w) P w K mg base ["self", "sign"] "Word.fed" (defScope s_Word_fed) fa cdv A outer s H E) [0] (fun cls dx _ H' => E cls dx H') (defBody s_Word_fed) (f_Word_fed) :=
  (pss_cons' (ps1_if (PWB.pb (pwb_or (pb_not (pb_val (pq_call (ok_is_small T) (hr.mono (by decide)) (paq_cons (pq_var 1 (pv 1)) paq_nil)))) (pw1_or (pb_cmp (opd_eq hr) (pq_callB cd_len T.b_len (by decide +kernel) (paq_cons (pq_fld T.ce (pq_var 0 (pv 0))) paq_nil)) (pq_fld T.ce (pq_var 0 (pv 0))) (nomark _))))) (pss_one' (ps1_ret pq_bl)) pss_nil')
      (pss_cons' (ps1_fldX T.ce (pp_var (pv 0)) (px_q (pq_op opd_add (pq_fld T.ce (pq_var 0 (pv 0))) (pq_var 1 (pv 1)))))
      (pss_one' (ps1_ret pq_bl))))
theorem ok_Exact_fed_at (T : Tx P w K mg base) : OkM P w K mg base "Exact" "fed" 1 2 [] r_Exact_fed := by
  obtain ⟨fd, F⟩ := T.d_Exact_fed
  exact ⟨_, fd, _, [], [], fnx_def F sc_Exact_fed rfl (ks := [true, false]) (ob := [0]) (hob_of rfl) (fun cdv A outer s H E hr => pss_Exact_fed T hr) (fun _ _ _ h => h), F.bindsN (fun _ _ _ _ _ _ us hl => match us, hl with | [_, _], _ => rfl), .nil, fun _ => ⟨rfl, rfl⟩, T.c_Exact, T.h_Exact_fed⟩
theorem ok_RowEnd_fed_at (T : Tx P w K mg base) : OkM P w K mg base "RowEnd" "fed" 1 2 [] r_Exact_fed := by
  obtain ⟨fd, F⟩ := T.d_RowEnd_fed
  exact ⟨_, fd, _, [], [], fnx_def F sc_Exact_fed rfl (ks := [true, false]) (ob := [0]) (hob_of rfl) (fun cdv A outer s H E hr => pss_Exact_fed T hr) (fun _ _ _ h => h), F.bindsN (fun _ _ _ _ _ _ us hl => match us, hl with | [_, _], _ => rfl), .nil, fun _ => ⟨rfl, rfl⟩, T.c_RowEnd, T.h_RowEnd_fed⟩
theorem ok_Value_fed_at (T : Tx P w K mg base) : OkM P w K mg base "Value" "fed" 2 2 [] r_Value_fed := by
  obtain ⟨fd, F⟩ := T.d_Value_fed
  exact ⟨_, fd, _, [], [], fnx_def F sc_Value_fed rfl (ks := [true, false]) (ob := [0]) (hob_of rfl) (fun cdv A outer s H E hr => pss_Value_fed T hr) (fun _ _ _ h => h), F.bindsN (fun _ _ _ _ _ _ us hl => match us, hl with | [_, _], _ => rfl), .nil, fun _ => ⟨rfl, rfl⟩, T.c_Value, T.h_Value_fed⟩
theorem ok_Word_fed_at (T : Tx P w K mg base) : OkM P w K mg base "Word" "fed" 2 2 [] r_Word_fed := by
  obtain ⟨fd, F⟩ := T.d_Word_fed
  exact ⟨_, fd, _, [], [], fnx_def F sc_Word_fed rfl (ks := [true, false]) (ob := [0]) (hob_of rfl) (fun cdv A outer s H E hr => pss_Word_fed T hr) (fun _ _ _ h => h), F.bindsN (fun _ _ _ _ _ _ us hl => match us, hl with | [_, _], _ => rfl), .nil, fun _ => ⟨rfl, rfl⟩, T.c_Word, T.h_Word_fed⟩
theorem mt4_fed_ok (T : Tx P w K mg base) : ∀ c run, mt4_fed c = some run → OkM P w K mg base c "fed" 2 2 [] run := tbl_ok (List.forall_mem_cons.mpr ⟨(ok_Exact_fed_at T).mono (by decide), (List.forall_mem_cons.mpr ⟨(ok_RowEnd_fed_at T).mono (by decide), (List.forall_mem_cons.mpr ⟨(ok_Value_fed_at T).mono (by decide), (List.forall_mem_cons.mpr ⟨(ok_Word_fed_at T).mono (by decide), (fun z hz => nomatch hz)⟩)⟩)⟩)⟩)
theorem sc_Exact_told : FnScope ["self"] ["self"] (defScope s_Exact_told) := ⟨rfl, rfl, rfl, by decide +kernel, rfl, by decide +kernel, by decide +kernel⟩
theorem pss_Exact_told (T : Tx P w K mg base) {fa : Addr} {cdv : Value} {A : Around} {outer : List Env} {s : Shared} {H : Hp} {E : XK} (hr : Room 0 (A.deeper (envOfC "Exact.told" (defScope s_Exact_told) s.heap.objs.size fa cdv))) :
    PSS (cxOf (L2.CX P w) P w K mg base ["self"] "Exact.told" (defScope s_Exact_told) fa cdv A outer s H E) [] (fun _ _ _ _ => False) (defBody s_Exact_told) (f_Exact_told) :=
  (pss_one' (ps1_ret (pq_fld T.ce (pq_var 0 (pv 0)))))
theorem sc_Value_told : FnScope ["self"] ["self"] (defScope s_Value_told) := ⟨rfl, rfl, rfl, by decide +kernel, rfl, by decide +kernel, by decide +kernel⟩
theorem pss_Value_told (T : Tx P w K mg base) {fa : Addr} {cdv : Value} {A : Around} {outer : List Env} {s : Shared} {H : Hp} {E : XK} (hr : Room 0 (A.deeper (envOfC "Value.told" (defScope s_Value_told) s.heap.objs.size fa cdv))) :
    PSS (cxOf (L2.CX P w) P w K mg base ["self"] "Value.told" (defScope s_Value_told) fa cdv A outer s H E) [] (fun _ _ _ _ => False) (defBody s_Value_told) (f_Value_told) :=
  (pss_one' (ps1_ret (pq_fld T.ce (pq_var 0 (pv 0)))))
theorem sc_Word_told : FnScope ["self"] ["self"] (defScope s_Word_told) := ⟨rfl, rfl, rfl, by decide +kernel, rfl, by decide +kernel, by decide +kernel⟩
theorem pss_Word_told (T : Tx P w K mg base) {fa : Addr} {cdv : Value} {A : Around} {outer : List Env} {s : Shared} {H : Hp} {E : XK} (hr : Room 0 (A.deeper (envOfC "Word.told" (defScope s_Word_told) s.heap.objs.size fa cdv))) :
    PSS (cxOf (L2.CX P w) P w K mg base ["self"] "Word.told" (defScope s_Word_told) fa cdv A outer s H E) [] (fun _ _ _ _ => False) (defBody s_Word_told) (f_Word_told) :=
  (pss_one' (ps1_ret (pq_fld T.ce (pq_var 0 (pv 0)))))
theorem ok_Exact_told_at (T : Tx P w K mg base) : OkFM P w K mg base "Exact" "told" 1 1 [] r_Exact_told := by
  obtain ⟨fd, F⟩ := T.d_Exact_told
  exact ⟨_, fd, _, [], [], fnf_def (ob := []) F sc_Exact_told rfl (fun cdv A outer s H E hr => pss_Exact_told T hr) (fun _ _ _ h => h), F.bindsN (fun _ _ _ _ _ _ us hl => match us, hl with | [_], _ => rfl), .nil, fun _ => ⟨rfl, rfl⟩, T.c_Exact, T.h_Exact_told⟩
theorem ok_RowEnd_told_at (T : Tx P w K mg base) : OkFM P w K mg base "RowEnd" "told" 1 1 [] r_Exact_told := by
  obtain ⟨fd, F⟩ := T.d_RowEnd_told
  exact ⟨_, fd, _, [], [], fnf_def (ob := []) F sc_Exact_told rfl (fun cdv A outer s H E hr => pss_Exact_told T hr) (fun _ _ _ h => h), F.bindsN (fun _ _ _ _ _ _ us hl => match us, hl with | [_], _ => rfl), .nil, fun _ => ⟨rfl, rfl⟩, T.c_RowEnd, T.h_RowEnd_told⟩
theorem ok_Value_told_at (T : Tx P w K mg base) : OkFM P w K mg base "Value" "told" 1 1 [] r_Value_told := by
  obtain ⟨fd, F⟩ := T.d_Value_told
  exact ⟨_, fd, _, [], [], fnf_def (ob := []) F sc_Value_told rfl (fun cdv A outer s H E hr => pss_Value_told T hr) (fun _ _ _ h => h), F.bindsN (fun _ _ _ _ _ _ us hl => match us, hl with | [_], _ => rfl), .nil, fun _ => ⟨rfl, rfl⟩, T.c_Value, T.h_Value_told⟩
theorem ok_Word_told_at (T : Tx P w K mg base) : OkFM P w K mg base "Word" "told" 1 1 [] r_Word_told := by
  obtain ⟨fd, F⟩ := T.d_Word_told
  exact ⟨_, fd, _, [], [], fnf_def (ob := []) F sc_Word_told rfl (fun cdv A outer s H E hr => pss_Word_told T hr) (fun _ _ _ h => h), F.bindsN (fun _ _ _ _ _ _ us hl => match us, hl with | [_], _ => rfl), .nil, fun _ => ⟨rfl, rfl⟩, T.c_Word, T.h_Word_told⟩
theorem mt3_told_ok (T : Tx P w K mg base) : ∀ c run, mt3_told c = some run → OkFM P w K mg base c "told" 1 1 [] run := tbl_ok (List.forall_mem_cons.mpr ⟨(ok_Exact_told_at T).mono (by decide), (List.forall_mem_cons.mpr ⟨(ok_RowEnd_told_at T).mono (by decide), (List.forall_mem_cons.mpr ⟨(ok_Value_told_at T).mono (by decide), (List.forall_mem_cons.mpr ⟨(ok_Word_told_at T).mono (by decide), (fun z hz => nomatch hz)⟩)⟩)⟩)⟩)
theorem sc__law_right : FnScope ["_law_kind", "_law_machine", "_law_text", "_law_most", "_law_due", "_law_good_here", "_law_more", "_law_again", "_law_sign_here"] ["_law_kind", "_law_machine", "_law_text", "_law_most", "_law_due"] (defScope s__law_right) := ⟨rfl, rfl, rfl, by decide +kernel, rfl, by decide +kernel, by decide +kernel⟩
theorem pss__law_right (T : Tx P w K mg base) {fa : Addr} {cdv : Value} {A : Around} {outer : List Env} {s : Shared} {H : Hp} {E : XK} (hr : Room 4 (A.deeper (envOfC "_law_right" (defScope s__law_right) s.heap.objs.size fa cdv))) :
    PSS (cxOf (L2.CX P w) P w K mg base ["_law_kind", "_law_machine", "_law_text", "_law_most", "_law_due", "_law_good_here", "_law_more", "_law_again", "_law_sign_here"] "_law_right" (defScope s__law_right) fa cdv A outer s H E) [] (fun _ _ _ _ => False) (defBody s__law_right) (f__law_right) :=
  (pss_cons' (ps1_set (i := 5) sc__law_right.nd rfl (by first | exact Or.inl rfl | exact Or.inr rfl) (pq_call (ok__law_good T) (hr.mono (by decide)) (paq_cons (pq_var 0 (pv 0)) (paq_cons (pq_var 2 (pv 2)) (paq_cons (pq_var 4 (pv 4)) paq_nil)))))
      (pss_cons' (ps1_set (i := 6) sc__law_right.nd rfl (by first | exact Or.inl rfl | exact Or.inr rfl) (pq_methF0 (mt1_awaited_ok T) (pq_var 1 (pv 1)) (hr.mono (by decide))))
      (pss_cons' (ps1_if (PWB.pb (pwb_or (pb_not (pb_val (pq_isi (pq_methF0 (mt2_good_ok T) (pq_var 1 (pv 1)) (hr.mono (by decide))) T.b_isinstance T.b_bool (by decide +kernel)))) (pw1_or (pb_cmp (opd_ne hr) (pq_methF0 (mt2_good_ok T) (pq_var 1 (pv 1)) (hr.mono (by decide))) (pq_var 5 (pv 5)) (nomark _))))) (pss_one' (ps1_ret pq_bl)) pss_nil')
      (pss_cons' (ps1_if (PWB.pb (pwb_and (pb_val (pq_var 5 (pv 5))) (pw1_and (PWB.pb (pwb_or (pb_cmp (opd_ne hr) (pq_methF0 (mt3_told_ok T) (pq_var 1 (pv 1)) (hr.mono (by decide))) (pq_var 2 (pv 2)) (nomark _)) (pw1_or (pb_cmp (opd_ne hr) (pq_var 6 (pv 6)) (pq_str "") (nomark _)))))))) (pss_one' (ps1_ret pq_bl)) pss_nil')
      (pss_cons' (ps1_setX (i := 7) sc__law_right.nd rfl (by first | exact Or.inl rfl | exact Or.inr rfl) (px_call (ok__law_made T) (hr.mono (by decide)) takes0 (pax_cons (px_q (pq_var 0 (pv 0))) (pax_cons (px_q (pq_var 3 (pv 3))) (pax_cons (px_q (pq_var 4 (pv 4))) pax_nil)))))
      (pss_cons' (ps1_for (passes_of rfl) rfl (pif_any (pq_op opd_add (pq_var 2 (pv 2)) (pq_var 6 (pv 6)))) (pgd_name (vs := [8]) (pg_name (i := 8) sc__law_right.nd rfl (by first | exact Or.inl rfl | exact Or.inr rfl))) (pss_wp [8] (pss_one' (ps1_ifX (ptx_cmp opd_isnot (px_methS (mt4_fed_ok T) (pv 7) (hr.mono (by decide)) takes0 (pax_cons (px_q (pq_var 8 (pv 8))) pax_nil)) (px_q pq_bl) (nomark _)) (pss_one' (ps1_ret pq_bl)) pss_nil'))))
      (pss_one' (ps1_ret (pq_and (pq_cmp opd_is_ (pq_methF0 (mt2_good_ok T) (pq_var 7 (pv 7)) (hr.mono (by decide))) pq_bl (nomark _)) (pq_one (pq_cmp (opd_eq hr) (pq_methF0 (mt3_told_ok T) (pq_var 7 (pv 7)) (hr.mono (by decide))) (pq_op opd_add (pq_var 2 (pv 2)) (pq_var 6 (pv 6))) (nomark _))))))))))))
theorem ok__law_right (T : Tx P w K mg base) : OkF P w K mg base "_law_right" 5 5 [] r__law_right := by
  obtain ⟨fd, F⟩ := T.d__law_right
  exact ⟨_, fd, _, [], [], fnf_def (ob := []) F sc__law_right rfl (fun cdv A outer s H E hr => pss__law_right T hr) (fun _ _ _ h => h), F.bindsN (fun _ _ _ _ _ _ us hl => match us, hl with | [_, _, _, _, _], _ => rfl), .nil, fun _ => ⟨rfl, rfl⟩, T.m__law_right, F.kp⟩
theorem sc__law_may : FnScope ["_law_kind", "_law_text", "_law_most", "_law_due", "_law_sign_here"] ["_law_kind", "_law_text", "_law_most", "_law_due"] (defScope s__law_may) := ⟨rfl, rfl, rfl, by decide +kernel, rfl, by decide +kernel, by decide +kernel⟩
theorem pss__law_may (T : Tx P w K mg base) {fa : Addr} {cdv : Value} {A : Around} {outer : List Env} {s : Shared} {H : Hp} {E : XK} (hr : Room 0 (A.deeper (envOfC "_law_may" (defScope s__law_may) s.heap.objs.size fa cdv))) :
    PSS (cxOf (L2.CX P w) P w K mg base ["_law_kind", "_law_text", "_law_most", "_law_due", "_law_sign_here"] "_law_may" (defScope s__law_may) fa cdv A outer s H E) [] (fun _ _ _ _ => False) (defBody s__law_may) (f__law_may) :=
  (pss_cons' (ps1_if (pb_cmp (opd_eq hr) (pq_var 0 (pv 0)) pq_int (nomark _)) (pss_one' (ps1_ret (pq_and (pq_cmp opd_le (pq_callB cd_len T.b_len (by decide +kernel) (paq_cons (pq_var 1 (pv 1)) paq_nil)) (pq_var 2 (pv 2)) (nomark _)) (pq_one (pq_cmp (opd_eq hr) (PN.pq (pn_lc (own := [("_law_sign_here", 4)]) rfl sc__law_may.nd (piq_any (pq_var 1 (pv 1))) (blkOk_by (own := [("_law_sign_here", 4)]) (by kernel_rfl)) (fun _ _ _ _ _ => (pgd_name (vs := [4]) (pg_name (i := 4) sc__law_may.nd rfl (by first | exact Or.inl rfl | exact Or.inr rfl)))) (fun _ _ _ _ _ => (ptsb_one (pb_not (pb_chain opd_le opd_le (pq_str "a") (pq_var 4 (pv 4)) (pq_str "z"))))) (fun _ _ _ _ _ => (pq_var 4 (pv 4))))) (PN.pq (pn_lst paq_nil)) (nomark _)))))) pss_nil')
      (pss_cons' (ps1_if (pb_cmp (opd_eq hr) (pq_var 0 (pv 0)) pq_int (nomark _)) (pss_one' (ps1_ret (pq_cmp (opd_eq hr) (pq_sl (pq_var 3 (pv 3)) poq_none (poq_some (pq_callB cd_len T.b_len (by decide +kernel) (paq_cons (pq_var 1 (pv 1)) paq_nil)))) (pq_var 1 (pv 1)) (nomark _)))) pss_nil')
      (pss_cons' (ps1_if (PWB.pb (pwb_or (pb_cmp opd_gt (pq_callB cd_len T.b_len (by decide +kernel) (paq_cons (pq_var 1 (pv 1)) paq_nil)) (pq_var 2 (pv 2)) (nomark _)) (pwb_or (pb_cmp (opd_eq hr) (pq_sl (pq_var 1 (pv 1)) poq_none (poq_some pq_int)) (pq_str " ") (nomark _)) (pwb_or (pb_cmp opd_in (pq_str ";") (pq_var 1 (pv 1)) (by rfl)) (pw1_or (pb_cmp opd_in (pq_str "\n") (pq_var 1 (pv 1)) (by rfl))))))) (pss_one' (ps1_ret pq_bl)) pss_nil')
      (pss_one' (ps1_ret (pq_or (pq_cmp (opd_ne hr) (pq_sl (pq_var 1 (pv 1)) (poq_some (pq_neg pq_int)) poq_none) (pq_str " ") (nomark _)) (pq_one (pq_cmp opd_lt (pq_callB cd_len T.b_len (by decide +kernel) (paq_cons (pq_var 1 (pv 1)) paq_nil)) (pq_var 2 (pv 2)) (nomark _)))))))))
theorem ok__law_may (T : Tx P w K mg base) : OkQ P w K mg base "_law_may" 1 4 [] r__law_may := by
  obtain ⟨fd, F⟩ := T.d__law_may
  exact ⟨_, fd, _, [], [], fnq_def F sc__law_may rfl (fun cdv A outer s H E hr => pss__law_may T hr) (fun _ _ h => h), F.bindsN (fun _ _ _ _ _ _ us hl => match us, hl with | [_, _, _, _], _ => rfl), .nil, fun _ => ⟨rfl, rfl⟩, rfl, T.m__law_may, F.kp⟩
theorem sc__law_sign : FnScope ["_law_x", "_law_some"] ["_law_x"] (defScope s__law_sign) := ⟨rfl, rfl, rfl, by decide +kernel, rfl, by decide +kernel, by decide +kernel⟩
theorem pss__law_sign (T : Tx P w K mg base) {fa : Addr} {cdv : Value} {A : Around} {outer : List Env} {s : Shared} {H : Hp} {E : XK} (hr : Room 0 (A.deeper (envOfC "_law_sign" (defScope s__law_sign) s.heap.objs.size fa cdv))) :
    PSS (cxOf (L2.CX P w) P w K mg base ["_law_x", "_law_some"] "_law_sign" (defScope s__law_sign) fa cdv A outer s H E) [] (fun _ _ _ _ => False) (defBody s__law_sign) (f__law_sign) :=
  (pss_cons' (ps1_set (i := 1) sc__law_sign.nd rfl (by first | exact Or.inl rfl | exact Or.inr rfl) (pq_str " !\"#$&'()*+,-./0123456789:;<=>?@ABCDEFGHIJKLMNOPQRSTUVWXYZ[\\]^_`"))
      (pss_cons' (ps1_set (i := 1) sc__law_sign.nd rfl (by first | exact Or.inl rfl | exact Or.inr rfl) (pq_op opd_add (pq_var 1 (pv 1)) (pq_str "abcdefghijklmnopqrstuvwxyz{|}~\n")))
      (pss_one' (ps1_ret (pq_ix (pq_var 1 (pv 1)) (pq_op opd_mod (pq_var 0 (pv 0)) pq_int))))))
theorem ok__law_sign (T : Tx P w K mg base) : OkQ P w K mg base "_law_sign" 1 1 [] r__law_sign := by
  obtain ⟨fd, F⟩ := T.d__law_sign
  exact ⟨_, fd, _, [], [], fnq_def F sc__law_sign rfl (fun cdv A outer s H E hr => pss__law_sign T hr) (fun _ _ h => h), F.bindsN (fun _ _ _ _ _ _ us hl => match us, hl with | [_], _ => rfl), .nil, fun _ => ⟨rfl, rfl⟩, rfl, T.m__law_sign, F.kp⟩
theorem sc_law : FnScope ["_law_script", "_law_first", "_law_kind", "_law_most", "_law_ys", "_law_due", "_law_machine", "_law_text", "_law_cell", "_law_xs", "_law_sign_here", "_law_may_here", "_law_found", "_law_y"] ["_law_script"] (defScope s_law) := ⟨rfl, rfl, rfl, by decide +kernel, rfl, by decide +kernel, by decide +kernel⟩
theorem pss_law (T : Tx P w K mg base) {fa : Addr} {cdv : Value} {A : Around} {outer : List Env} {s : Shared} {H : Hp} {E : XK} (hr : Room 5 (A.deeper (envOfC "law" (defScope s_law) s.heap.objs.size fa cdv))) :
    PSS (cxOf (L2.CX P w) P w K mg base ["_law_script", "_law_first", "_law_kind", "_law_most", "_law_ys", "_law_due", "_law_machine", "_law_text", "_law_cell", "_law_xs", "_law_sign_here", "_law_may_here", "_law_found", "_law_y"] "law" (defScope s_law) fa cdv A outer s H E) [] (fun _ _ _ _ => False) (defBody s_law) (f_law) :=
  (pss_cons' (ps1_set (i := 1) sc_law.nd rfl (by first | exact Or.inl rfl | exact Or.inr rfl) (pq_call (ok__law_cell_at T) (hr.mono (by decide)) (paq_cons (pq_var 0 (pv 0)) (paq_cons pq_int paq_nil))))
      (pss_cons' (ps1_set (i := 2) sc_law.nd rfl (by first | exact Or.inl rfl | exact Or.inr rfl) (pq_op opd_mod (pq_var 1 (pv 1)) pq_int))
      (pss_cons' (ps1_set (i := 3) sc_law.nd rfl (by first | exact Or.inl rfl | exact Or.inr rfl) (pq_op opd_add pq_int (pq_op opd_mod (pq_op opd_fdiv (pq_var 1 (pv 1)) pq_int) pq_int)))
      (pss_cons' (ps1_set (i := 4) sc_law.nd rfl (by first | exact Or.inl rfl | exact Or.inr rfl) (pq_call (ok__law_stream T) (hr.mono (by decide)) (paq_cons (pq_call (ok__law_cell_at T) (hr.mono (by decide)) (paq_cons (pq_var 0 (pv 0)) (paq_cons pq_int paq_nil))) (paq_cons pq_int paq_nil))))
      (pss_cons' (ps1_set (i := 5) sc_law.nd rfl (by first | exact Or.inl rfl | exact Or.inr rfl) (pq_m1 mtd_join PySem.F.slot_str_join PySem.F.type_str_join (pq_str "") (PN.pq (pn_lc (own := [("_law_y", 13)]) rfl sc_law.nd (piq_any (pq_sl (pq_var 4 (pv 4)) poq_none (poq_some (pq_op opd_mod (pq_op opd_fdiv (pq_var 1 (pv 1)) pq_int) pq_int)))) (blkOk_by (own := [("_law_y", 13)]) (by kernel_rfl)) (fun _ _ _ _ _ => (pgd_name (vs := [13]) (pg_name (i := 13) sc_law.nd rfl (by first | exact Or.inl rfl | exact Or.inr rfl)))) (fun _ _ _ _ _ => ptsb_nil) (fun _ _ _ _ _ => (pq_call (ok__law_sign T) (hr.mono (by decide)) (paq_cons (pq_var 13 (pv 13)) paq_nil)))))))
      (pss_cons' (ps1_if (pb_cmp (opd_eq hr) (pq_op opd_mod (pq_op opd_fdiv (pq_var 1 (pv 1)) pq_int) pq_int) pq_int (nomark _)) (pss_one' (ps1_set (i := 5) sc_law.nd rfl (by first | exact Or.inl rfl | exact Or.inr rfl) (pq_str ";\n"))) pss_nil')
      (pss_cons' (ps1_setX (i := 6) sc_law.nd rfl (by first | exact Or.inl rfl | exact Or.inr rfl) (px_call (ok__law_made T) (hr.mono (by decide)) takes0 (pax_cons (px_q (pq_var 2 (pv 2))) (pax_cons (px_q (pq_var 3 (pv 3))) (pax_cons (px_q (pq_var 5 (pv 5))) pax_nil)))))
      (pss_cons' (ps1_set (i := 7) sc_law.nd rfl (by first | exact Or.inl rfl | exact Or.inr rfl) (pq_str ""))
      (pss_cons' (ps1_for (passes_of rfl) rfl (pif_any (pq_sl (pq_var 0 (pv 0)) (poq_some pq_int) (poq_some pq_int))) (pgd_name (vs := [8]) (pg_name (i := 8) sc_law.nd rfl (by first | exact Or.inl rfl | exact Or.inr rfl))) (pss_wp [8, 9, 10, 11, 12] (pss_cons' (ps1_set (i := 9) sc_law.nd rfl (by first | exact Or.inl rfl | exact Or.inr rfl) (pq_call (ok__law_stream T) (hr.mono (by decide)) (paq_cons (pq_var 8 (pv 8)) (paq_cons pq_int paq_nil))))
      (pss_cons' (ps1_set (i := 10) sc_law.nd rfl (by first | exact Or.inl rfl | exact Or.inr rfl) (pq_ix (PN.pq (pn_lst (paq_cons (pq_call (ok__law_sign T) (hr.mono (by decide)) (paq_cons (pq_ix (pq_var 9 (pv 9)) pq_int) paq_nil)) (paq_cons (pq_ix (pq_str "abcxyz") (pq_op opd_mod (pq_ix (pq_var 9 (pv 9)) pq_int) pq_int)) (paq_cons (pq_str " ") (paq_cons (pq_str "q") paq_nil)))))) (pq_op opd_mod (pq_ix (pq_var 9 (pv 9)) pq_int) pq_int)))
      (pss_cons' (ps1_if (PWB.pb (pwb_and (pb_cmp (opd_eq hr) (pq_var 2 (pv 2)) pq_int (nomark _)) (pwb_and (pb_cmp opd_gt (pq_op opd_mod (pq_ix (pq_var 9 (pv 9)) pq_int) pq_int) pq_int (nomark _)) (pw1_and (pb_cmp opd_lt (pq_callB cd_len T.b_len (by decide +kernel) (paq_cons (pq_var 7 (pv 7)) paq_nil)) (pq_callB cd_len T.b_len (by decide +kernel) (paq_cons (pq_var 5 (pv 5)) paq_nil)) (nomark _)))))) (pss_one' (ps1_set (i := 10) sc_law.nd rfl (by first | exact Or.inl rfl | exact Or.inr rfl) (pq_ix (pq_var 5 (pv 5)) (pq_callB cd_len T.b_len (by decide +kernel) (paq_cons (pq_var 7 (pv 7)) paq_nil))))) pss_nil')
      (pss_cons' (ps1_set (i := 11) sc_law.nd rfl (by first | exact Or.inl rfl | exact Or.inr rfl) (pq_call (ok__law_may T) (hr.mono (by decide)) (paq_cons (pq_var 2 (pv 2)) (paq_cons (pq_op opd_add (pq_var 7 (pv 7)) (pq_var 10 (pv 10))) (paq_cons (pq_var 3 (pv 3)) (paq_cons (pq_var 5 (pv 5)) paq_nil))))))
      (pss_cons' (ps1_setX (i := 12) sc_law.nd rfl (by first | exact Or.inl rfl | exact Or.inr rfl) (px_methS (mt4_fed_ok T) (pv 6) (hr.mono (by decide)) takes0 (pax_cons (px_q (pq_var 10 (pv 10))) pax_nil)))
      (pss_cons' (ps1_if (PWB.pb (pwb_or (pb_not (pb_val (pq_isi (pq_var 12 (pv 12)) T.b_isinstance T.b_bool (by decide +kernel)))) (pw1_or (pb_cmp (opd_ne hr) (pq_var 12 (pv 12)) (pq_var 11 (pv 11)) (nomark _))))) (pss_one' (ps1_ret pq_bl)) pss_nil')
      (pss_cons' (ps1_if (pb_val (pq_var 11 (pv 11))) (pss_one' (ps1_set (i := 7) sc_law.nd rfl (by first | exact Or.inl rfl | exact Or.inr rfl) (pq_op opd_add (pq_var 7 (pv 7)) (pq_var 10 (pv 10))))) pss_nil')
      (pss_one' (ps1_if (pb_not (pb_val (pq_callF (ok__law_right T) (hr.mono (by decide)) (paq_cons (pq_var 2 (pv 2)) (paq_cons (pq_var 6 (pv 6)) (paq_cons (pq_var 7 (pv 7)) (paq_cons (pq_var 3 (pv 3)) (paq_cons (pq_var 5 (pv 5)) paq_nil)))))))) (pss_one' (ps1_ret pq_bl)) pss_nil')))))))))))
      (pss_one' (ps1_ret (pq_callF (ok__law_right T) (hr.mono (by decide)) (paq_cons (pq_var 2 (pv 2)) (paq_cons (pq_var 6 (pv 6)) (paq_cons (pq_var 7 (pv 7)) (paq_cons (pq_var 3 (pv 3)) (paq_cons (pq_var 5 (pv 5)) paq_nil)))))))))))))))))
theorem fn_law (T : Tx P w K mg base) {fd : FuncData} (F : FunD K "law" "law" (defArgs s_law) (defBody s_law) (defScope s_law) [] [] (He.ga K "law") fd) : FnOk P w K mg base (L2.CX P w) 6 (He.ga K "law") fd ["_law_script"] (spF K 1 r_law) :=
  fnf_def (ob := []) F sc_law rfl (fun cdv A outer s H E hr => pss_law T hr) fun _ _ _ h => h
end
def fn : List He.DefD := [D__law_cell_at, D__law_stream, D__law_made, D__law_good, D_is_plain, D_is_small, D__law_right, D__law_may, D__law_sign, D_law, DM_Value_good, DM_Exact_awaited, DM_RowEnd_awaited, DM_Value_awaited, DM_Word_awaited, DM_Exact_good, DM_RowEnd_good, DM_Word_good, DM_Exact_told, DM_RowEnd_told, DM_Value_told, DM_Word_told, DM_Exact_fed, DM_RowEnd_fed, DM_Value_fed, DM_Word_fed, DM_Exact___init__, DM_RowEnd___init__, DM_Value___init__, DM_Word___init__]
def fa : List He.Fa := [.free "bool", .free "isinstance", .free "len", .free "range", .str "ROW_END" ";\n", .glo "_law_cell_at", .glo "_law_stream", .glo "_law_made", .glo "_law_good", .glo "is_plain", .glo "is_small", .glo "_law_right", .glo "_law_may", .glo "_law_sign", .glo "law", .cls "Exact", .cls "RowEnd", .cls "Word", .cls "Value", .noat "Exact" "many", .noat "Exact" "text", .noat "RowEnd" "many", .noat "RowEnd" "text", .noat "Word" "most", .noat "Word" "text", .noat "Value" "most", .noat "Value" "text", .meth "Value" "good", .meth "Exact" "awaited", .meth "RowEnd" "awaited", .meth "Value" "awaited", .meth "Word" "awaited", .meth "Exact" "good", .meth "RowEnd" "good", .meth "Word" "good", .meth "Exact" "told", .meth "RowEnd" "told", .meth "Value" "told", .meth "Word" "told", .meth "Exact" "fed", .meth "RowEnd" "fed", .meth "Value" "fed", .meth "Word" "fed", .mkr "Exact", .glo "Exact", .mkr "RowEnd", .glo "RowEnd", .mkr "Value", .glo "Value", .mkr "Word", .glo "Word"]
def ex (K : PySem.W.Frag) : Bool := baseB K "Exact" "__init__"
abbrev hk : PySem.W.Hook := hookY 4 fa fn ex
theorem facts {P : Program} {w : World} {K : PySem.W.Frag} {h : Heap} {mg : Str → Option Value} {base : Heap} (X : K.In h) (G : h.Ns mainGlobals mg) (c : SaysY fa fn ex K) : Tx P w K mg base := by
  have cd : He.SaysD fa fn K := c.d
  have ce : ex K = true := c.more
  unfold ex at ce
  have e_Exact___init___base := ce
  exact {
    b_bool := He.free_ok X G (cd.fact 0 (f := .free "bool") rfl)
    b_isinstance := He.free_ok X G (cd.fact 1 (f := .free "isinstance") rfl)
    b_len := He.free_ok X G (cd.fact 2 (f := .free "len") rfl)
    b_range := He.free_ok X G (cd.fact 3 (f := .free "range") rfl)
    g_ROW_END := gld_str (He.str_ok X G (cd.fact 4 (f := .str "ROW_END" ";\n") rfl))
    m__law_cell_at := He.glo_ok X G (cd.fact 5 (f := .glo "_law_cell_at") rfl)
    m__law_stream := He.glo_ok X G (cd.fact 6 (f := .glo "_law_stream") rfl)
    m__law_made := He.glo_ok X G (cd.fact 7 (f := .glo "_law_made") rfl)
    m__law_good := He.glo_ok X G (cd.fact 8 (f := .glo "_law_good") rfl)
    m_is_plain := He.glo_ok X G (cd.fact 9 (f := .glo "is_plain") rfl)
    m_is_small := He.glo_ok X G (cd.fact 10 (f := .glo "is_small") rfl)
    m__law_right := He.glo_ok X G (cd.fact 11 (f := .glo "_law_right") rfl)
    m__law_may := He.glo_ok X G (cd.fact 12 (f := .glo "_law_may") rfl)
    m__law_sign := He.glo_ok X G (cd.fact 13 (f := .glo "_law_sign") rfl)
    m_law := He.glo_ok X G (cd.fact 14 (f := .glo "law") rfl)
    c_Exact := He.cls_ok (cd.fact 15 (f := .cls "Exact") rfl)
    c_RowEnd := He.cls_ok (cd.fact 16 (f := .cls "RowEnd") rfl)
    c_Word := He.cls_ok (cd.fact 17 (f := .cls "Word") rfl)
    c_Value := He.cls_ok (cd.fact 18 (f := .cls "Value") rfl)
    n_Exact_many := He.noat_ok (cd.fact 19 (f := .noat "Exact" "many") rfl)
    n_Exact_text := He.noat_ok (cd.fact 20 (f := .noat "Exact" "text") rfl)
    n_RowEnd_many := He.noat_ok (cd.fact 21 (f := .noat "RowEnd" "many") rfl)
    n_RowEnd_text := He.noat_ok (cd.fact 22 (f := .noat "RowEnd" "text") rfl)
    n_Word_most := He.noat_ok (cd.fact 23 (f := .noat "Word" "most") rfl)
    n_Word_text := He.noat_ok (cd.fact 24 (f := .noat "Word" "text") rfl)
    n_Value_most := He.noat_ok (cd.fact 25 (f := .noat "Value" "most") rfl)
    n_Value_text := He.noat_ok (cd.fact 26 (f := .noat "Value" "text") rfl)
    h_Value_good := He.meth_ok (cd.fact 27 (f := .meth "Value" "good") rfl)
    h_Exact_awaited := He.meth_ok (cd.fact 28 (f := .meth "Exact" "awaited") rfl)
    h_RowEnd_awaited := He.meth_ok (cd.fact 29 (f := .meth "RowEnd" "awaited") rfl)
    h_Value_awaited := He.meth_ok (cd.fact 30 (f := .meth "Value" "awaited") rfl)
    h_Word_awaited := He.meth_ok (cd.fact 31 (f := .meth "Word" "awaited") rfl)
    h_Exact_good := He.meth_ok (cd.fact 32 (f := .meth "Exact" "good") rfl)
    h_RowEnd_good := He.meth_ok (cd.fact 33 (f := .meth "RowEnd" "good") rfl)
    h_Word_good := He.meth_ok (cd.fact 34 (f := .meth "Word" "good") rfl)
    h_Exact_told := He.meth_ok (cd.fact 35 (f := .meth "Exact" "told") rfl)
    h_RowEnd_told := He.meth_ok (cd.fact 36 (f := .meth "RowEnd" "told") rfl)
    h_Value_told := He.meth_ok (cd.fact 37 (f := .meth "Value" "told") rfl)
    h_Word_told := He.meth_ok (cd.fact 38 (f := .meth "Word" "told") rfl)
    h_Exact_fed := He.meth_ok (cd.fact 39 (f := .meth "Exact" "fed") rfl)
    h_RowEnd_fed := He.meth_ok (cd.fact 40 (f := .meth "RowEnd" "fed") rfl)
    h_Value_fed := He.meth_ok (cd.fact 41 (f := .meth "Value" "fed") rfl)
    h_Word_fed := He.meth_ok (cd.fact 42 (f := .meth "Word" "fed") rfl)
    b_Exact___init___base := e_Exact___init___base
    k_Exact := He.mkr_ok (cd.fact 43 (f := .mkr "Exact") rfl)
    m_Exact := He.glo_ok X G (cd.fact 44 (f := .glo "Exact") rfl)
    k_RowEnd := He.mkr_ok (cd.fact 45 (f := .mkr "RowEnd") rfl)
    m_RowEnd := He.glo_ok X G (cd.fact 46 (f := .glo "RowEnd") rfl)
    k_Value := He.mkr_ok (cd.fact 47 (f := .mkr "Value") rfl)
    m_Value := He.glo_ok X G (cd.fact 48 (f := .glo "Value") rfl)
    k_Word := He.mkr_ok (cd.fact 49 (f := .mkr "Word") rfl)
    m_Word := He.glo_ok X G (cd.fact 50 (f := .glo "Word") rfl)
    d__law_cell_at := cd.def_ 0 (d := D__law_cell_at) rfl
    d__law_stream := cd.def_ 1 (d := D__law_stream) rfl
    d__law_made := cd.def_ 2 (d := D__law_made) rfl
    d__law_good := cd.def_ 3 (d := D__law_good) rfl
    d_is_plain := cd.def_ 4 (d := D_is_plain) rfl
    d_is_small := cd.def_ 5 (d := D_is_small) rfl
    d__law_right := cd.def_ 6 (d := D__law_right) rfl
    d__law_may := cd.def_ 7 (d := D__law_may) rfl
    d__law_sign := cd.def_ 8 (d := D__law_sign) rfl
    d_law := cd.def_ 9 (d := D_law) rfl
    d_Value_good := cd.def_ 10 (d := DM_Value_good) rfl
    d_Exact_awaited := cd.def_ 11 (d := DM_Exact_awaited) rfl
    d_RowEnd_awaited := cd.def_ 12 (d := DM_RowEnd_awaited) rfl
    d_Value_awaited := cd.def_ 13 (d := DM_Value_awaited) rfl
    d_Word_awaited := cd.def_ 14 (d := DM_Word_awaited) rfl
    d_Exact_good := cd.def_ 15 (d := DM_Exact_good) rfl
    d_RowEnd_good := cd.def_ 16 (d := DM_RowEnd_good) rfl
    d_Word_good := cd.def_ 17 (d := DM_Word_good) rfl
    d_Exact_told := cd.def_ 18 (d := DM_Exact_told) rfl
    d_RowEnd_told := cd.def_ 19 (d := DM_RowEnd_told) rfl
    d_Value_told := cd.def_ 20 (d := DM_Value_told) rfl
    d_Word_told := cd.def_ 21 (d := DM_Word_told) rfl
    d_Exact_fed := cd.def_ 22 (d := DM_Exact_fed) rfl
    d_RowEnd_fed := cd.def_ 23 (d := DM_RowEnd_fed) rfl
    d_Value_fed := cd.def_ 24 (d := DM_Value_fed) rfl
    d_Word_fed := cd.def_ 25 (d := DM_Word_fed) rfl
    d_Exact___init__ := cd.def_ 26 (d := DM_Exact___init__) rfl
    d_RowEnd___init__ := cd.def_ 27 (d := DM_RowEnd___init__) rfl
    d_Value___init__ := cd.def_ 28 (d := DM_Value___init__) rfl
    d_Word___init__ := cd.def_ 29 (d := DM_Word___init__) rfl
  }
abbrev R : PySem.W.OpenRow := PySem.W.OpenLaw.row PySem.Challenge.rw_framepost_k23_words_and_values_read
def ob (s : PySem.W.SharedT) : AlY := obsY 4 fa fn ex (HandSHeadRun.getT s)
theorem ob_eq (s : PySem.W.SharedT) : ob s = hk.obs s.abs := obsY_eq (HandSHeadRun.getT_eq s)
end G
namespace G
open PySem PySem.Spec PyProof.Rows L2 Fw
local macro_rules | `(tactic| walk_at "d") => `(tactic| first | assumption | omega | (simp -implicitDefEqProofs only [List.length_append, List.length_cons, List.length_nil, List.length_map, List.length_take, List.length_drop, List.length_replicate, List.length_range, strsL_cons, strsL_nil, strsL_map, intsL_cons, intsL_nil, Nat.reduceAdd, klaw] ; omega) | decide | (simp -implicitDefEqProofs only [plset, allStr_cons, allStr_nil, allStr_map, allInt_cons, allInt_nil, *] ; done) | (apply List.ne_nil_of_length_pos ; omega))
local macro_rules | `(tactic| walk_at "k") => `(tactic| simp (disch := walk_at "d") only [kset, kset2, klaw, Option.bind_some, Option.map_some, Option.bind_none, Option.map_none, List.getElem?_cons_zero, List.getElem?_cons_succ, List.set_cons_zero, List.set_cons_succ, List.cons_append, List.nil_append, List.append_nil, List.length_cons, List.length_nil, List.length_map, List.replicate_zero, List.replicate_succ, Bool.and_true, Bool.true_and, Bool.not_true, Bool.not_false, Bool.false_eq_true, Bool.not_eq_true', decide_eq_true_eq, decide_eq_false_iff_not, Bool.and_eq_true, Bool.or_eq_true, Nat.reduceAdd, Nat.reduceSub, Nat.reduceLeDiff, Nat.reduceLT, Nat.reduceEqDiff, List.take_succ_cons, Bool.or_false, Bool.or_true, Bool.false_or, Bool.true_or, Bool.and_false, Bool.false_and, List.take_zero, List.take_nil, Int.reduceLT, Int.reduceLE, Int.reduceNeg, Int.reduceAdd, Int.reduceSub, Int.reduceMul, Int.reduceEq, Int.reduceToNat, Int.reducePow, and_true, true_and, and_false, false_and, or_true, true_or, or_false, false_or, not_true_eq_false, not_false_eq_true, eq_self, if_true, if_false, ite_self, decide_true, decide_false, ite_not, List.map_cons, List.map_nil, List.cons.injEq, reduceCtorEq, List.isEmpty_cons, Int.natCast_one, Int.cast_ofNat_Int, Int.natCast_zero, Int.toNat_natCast, *])
def sm (c : Nat) : Bool := decide (97 ≤ c) && decide (c ≤ 122)
theorem is_small_eq (c : Nat) : r_is_small [.str [c]] = some (.bl (sm c)) := by
  unfold r_is_small f_is_small sm
  walk_at "k"
def pln (c : Nat) : Bool := decide (c = 10) || (decide (32 ≤ c) && decide (c ≤ 126))
theorem is_plain_eq (c : Nat) : r_is_plain [.str [c]] = some (.bl (pln c)) := by
  unfold r_is_plain f_is_plain pln
  walk_at "k"
/-! ### the stream -/
def stp (n k : Int) : Int := (n + 7919 * k + 1) * (n / 1009 + 69621) % 2147483647
theorem stp_lt (n k : Int) : 0 ≤ stp n k ∧ stp n k < 2147483647 := ⟨Int.emod_nonneg _ (by decide), Int.emod_lt_of_pos _ (by decide)⟩
def stq (s : List Int × Int) (k : Nat) : List Int × Int := (s.1 ++ [stp s.2 k], stp s.2 k)
def strm (c : Int) (m : Nat) : List Int := ((List.range m).foldl stq ([], (c + 1) * 48271 % 2147483647)).1
theorem strm_fold (ks : List Nat) : ∀ s : List Int × Int, 0 ≤ s.2 → s.2 < 2147483647 → (∀ x ∈ s.1, 0 ≤ x ∧ x < 2147483647) → let r := ks.foldl stq s; r.1.length = s.1.length + ks.length ∧ ∀ x ∈ r.1, 0 ≤ x ∧ x < 2147483647 := by
  induction ks with
  | nil => intro s _ _ h; exact ⟨rfl, h⟩
  | cons k ks ih =>
    intro s h0 h1 h
    obtain ⟨q0, q1⟩ := stp_lt s.2 k
    obtain ⟨e1, e2⟩ := ih (stq s k) q0 q1 (by
      intro x hx
      rcases List.mem_append.mp hx with hx | hx
      · exact h x hx
      · rw [List.mem_singleton.mp hx]; exact ⟨q0, q1⟩)
    refine ⟨?_, e2⟩
    rw [List.foldl_cons, e1]
    simp only [stq, List.length_append, List.length_cons, List.length_nil]
    omega
theorem strm_len (c : Int) (m : Nat) : (strm c m).length = m := by
  have := (strm_fold (List.range m) ([], (c + 1) * 48271 % 2147483647) (Int.emod_nonneg _ (by decide)) (Int.emod_lt_of_pos _ (by decide)) (by simp)).1
  unfold strm
  rw [this]
  simp
theorem strm_lt (c : Int) (m : Nat) : ∀ x ∈ strm c m, 0 ≤ x ∧ x < 2147483647 :=
  (strm_fold (List.range m) ([], (c + 1) * 48271 % 2147483647) (Int.emod_nonneg _ (by decide)) (Int.emod_lt_of_pos _ (by decide)) (by simp)).2
theorem stream_eq (c : Int) (m : Int) (h0 : 0 ≤ m) (hm : m ≤ 1000) : r__law_stream [.int c, .int m] = some (.lst ((strm c m.toNat).map D.int)) := by
  obtain ⟨h1, h2⟩ := forL_inv (g := tgN 4) (b := lb1__law_stream) (μ := []) (fun i : Nat => D.int (i : Int)) (fun s : List Int × Int => [.int c, .int m, .ml (s.1.map D.int), .int s.2, .un])
    (fun s rest => 0 ≤ s.2 ∧ s.2 < 2147483647 ∧ s.1.length + rest.length ≤ 1000) stq (by
      rintro ⟨acc, n⟩ k rest ⟨a0, a1, a2⟩
      simp only [List.length_cons] at a0 a1 a2
      refine ⟨_, rfl, ?_, (stp_lt n k).1, (stp_lt n k).2, ?_⟩
      · unfold lb1__law_stream
        walk_at "k"
        simp [stq, stp]
      · simp only [stq, List.length_append, List.length_cons, List.length_nil]; omega) (List.range m.toNat) ([], (c + 1) * 48271 % 2147483647)
    ⟨Int.emod_nonneg _ (by decide), Int.emod_lt_of_pos _ (by decide), by simp; omega⟩
  simp only [List.map_nil] at h1
  unfold r__law_stream f__law_stream
  walk_at "k"
  rfl

abbrev tabA : List Nat := ofS " !\"#$&'()*+,-./0123456789:;<=>?@ABCDEFGHIJKLMNOPQRSTUVWXYZ[\\]^_`"
abbrev tabB : List Nat := ofS "abcdefghijklmnopqrstuvwxyz{|}~\n"
def sgn (x : Int) : Nat := (tabA ++ tabB).getD (x % 95).toNat 0
theorem sign_eq (x : Int) : r__law_sign [.int x] = some (.str [sgn x]) := by
  unfold r__law_sign f__law_sign sgn
  walk_at "k"
theorem sgn_pln (x : Int) : pln (sgn x) = true := by
  have h : ∀ c ∈ tabA ++ tabB, pln c = true := by decide +kernel
  have hl : (tabA ++ tabB).length = 95 := by decide +kernel
  refine h _ ?_
  unfold sgn
  rw [List.getD_eq_getElem?_getD, List.getElem?_eq_getElem (by omega)]
  exact List.getElem_mem _
theorem cell_eq (ns : List Int) (k : Int) (h : 0 ≤ k) (hn : ns.length ≤ 63) : r__law_cell_at [.lst (ns.map D.int), .int k] = some (.int (if k < ns.length then ns.getD k.toNat 0 else 0)) := by
  unfold r__law_cell_at f__law_cell_at
  walk_at "k"
  split <;> rfl
/-! ### what the law asks -/
def vmay (t : List Nat) (most : Int) : Bool := !decide (most < t.length ∨ t.take 1 = [32] ∨ 59 ∈ t ∨ 10 ∈ t) && (!decide (t.drop (t.length - 1) = [32]) || decide ((t.length : Int) < most))
def pmay (k : Int) (t : List Nat) (most : Int) (due : List Nat) : Bool :=
  if k = 0 then decide ((t.length : Int) ≤ most) && t.all sm
  else if k = 2 then decide (due.take t.length = t)
  else vmay t most
theorem may_eq (k : Int) (t : List Nat) (most : Int) (due : List Nat) (hl : t.length ≤ 1000) (hd : due.length ≤ 1000) (hc : ∀ c ∈ t, c < 1114112) :
    r__law_may [.int k, .str t, .int most, .str due] = some (.bl (pmay k t most due)) := by
  have lc : lcL (tgN 4) ct1__law_may (qVar 4) [.int k, .str t, .int most, .str due, .un] [] (t.map fun c => .str [c]) = some ((t.filter fun c => !sm c).map fun c => .str [c]) := by
    refine lcL_map (fun c : Nat => D.str [c]) (fun c => !sm c) (fun c => D.str [c]) t fun c _ => ⟨_, rfl, ?_, fun _ => ⟨rfl, rfl⟩⟩
    unfold ct1__law_may sm
    walk_at "k"
  have hp : pl 50 (.lst ((t.filter fun c => !sm c).map fun c => D.str [c])) = true := by
    rw [pl_lst, plL_all]
    simp only [List.mem_map, List.mem_filter]
    rintro d ⟨c, ⟨h1, _⟩, rfl⟩
    rw [pl_str]
    exact cok_of (by simpa using hc c h1)
  have hs : eqT (.lst ((t.filter fun c => !sm c).map fun c => D.str [c])) (.lst []) = t.all sm := by
    rw [Bool.eq_iff_iff, eqT_iff]
    simp
  unfold r__law_may f__law_may pmay vmay
  walk_at "k"

  (repeat' split) <;> rfl
def pgood (k : Int) (t due : List Nat) : Bool := if k = 2 then decide (t = due) else decide (t ≠ []) && decide (t.getLastD 0 ≠ 32)
theorem good_eq (k : Int) (t due : List Nat) (hl : t.length ≤ 1000) :
    r__law_good [.int k, .str t, .str due] = some (.bl (pgood k t due)) := by
  unfold r__law_good f__law_good pgood
  walk_at "k"
  split <;> simp
/-! ### a machine that keeps to it -/
structure Mac (k most : Int) (due : List Nat) (cn : Str) (sh : List Str) (fl : List Nat → List D) (rfed : RX) (rgood rtold raw : RF) (aw : List Nat → List Nat) (V : List Nat → Prop) : Prop where
  tfed : mt4_fed cn = some rfed
  tgood : mt2_good cn = some rgood
  ttold : mt3_told cn = some rtold
  taw : mt1_awaited cn = some raw
  ifed : fidx "fed" sh = none
  igood : fidx "good" sh = none
  itold : fidx "told" sh = none
  iaw : fidx "awaited" sh = none
  fz : ∀ t, fzL (fl t) = fl t
  ffed : ∀ t c μ, V t → t.length ≤ 500 → pln c = true → rfed [.obj cn sh (fl t), .str [c]] μ = some (.ok (.bl (pmay k (t ++ [c]) most due)) [.obj cn sh (fl (if pmay k (t ++ [c]) most due = true then t ++ [c] else t)), .str [c]] μ)
  fgood : ∀ t μ, V t → t.length ≤ 500 → rgood [.fo cn sh (fl t)] μ = some (.bl (pgood k t due))
  ftold : ∀ t μ, V t → t.length ≤ 500 → pgood k t due = true → rtold [.fo cn sh (fl t)] μ = some (.str t)
  faw : ∀ t μ, V t → t.length ≤ 500 → raw [.fo cn sh (fl t)] μ = some (.str (aw t))
  made : ∀ μ, r__law_made [.int k, .int most, .str due] μ = some (.ok (.obj cn sh (fl [])) [.int k, .int most, .str due] μ)
  v0 : V []
  vs : ∀ t c, V t → pln c = true → pmay k (t ++ [c]) most due = true → V (t ++ [c])
  vp : ∀ t, V t → ∀ c ∈ t, pln c = true
  nil : ∀ t, V t → pgood k t due = true → aw t = []
  fin : ∀ t, V t → V (t ++ aw t) ∧ pgood k (t ++ aw t) due = true
  pre : ∀ t p c, V t → p ++ [c] <+: t ++ aw t → V p ∧ pln c = true ∧ pmay k (p ++ [c]) most due = true
  len : ∀ t, V t → t.length ≤ 100 → (aw t).length ≤ 100
section
variable {k most : Int} {due : List Nat} {cn : Str} {sh : List Str} {fl : List Nat → List D} {rfed : RX} {rgood rtold raw : RF} {aw : List Nat → List Nat} {V : List Nat → Prop} {μ : List D}
theorem right_eq (M : Mac k most due cn sh fl rfed rgood rtold raw aw V) {t : List Nat} (hv : V t) (hl : t.length ≤ 100) : r__law_right [.int k, .fo cn sh (fl t), .str t, .int most, .str due] μ = some (.bl true) := by
  have hla := M.len t hv hl
  obtain ⟨v2, g2⟩ := M.fin t hv
  have tl : (t ++ aw t).length ≤ 200 := by rw [List.length_append]; omega
  have lp := (forL_inv (g := tgN 8) (b := lb1__law_right) (μ := μ) (fun c : Nat => D.str [c]) (fun u : List Nat => [.int k, .fo cn sh (fl t), .str t, .int most, .str due, .bl (pgood k t due), .str (aw t), .obj cn sh (fl u), .un])
    (fun u rest => u ++ rest = t ++ aw t) (fun u c => u ++ [c]) (by
      intro u c rest e
      have hp : u ++ [c] <+: t ++ aw t := ⟨rest, by rw [← e, List.append_assoc]; rfl⟩
      obtain ⟨hu, hc, hm⟩ := M.pre t u c hv hp
      have ul : u.length ≤ 500 := by
        have := hp.length_le
        rw [List.length_append] at this
        omega
      have f1 := M.ffed u c μ hu ul hc
      rw [hm, if_pos rfl] at f1
      have t1 := M.tfed
      have t2 := M.ifed
      refine ⟨_, rfl, ?_, by rw [List.append_assoc]; exact e⟩
      unfold lb1__law_right
      clear M hp hv hu hm e
      walk_at "k") (t ++ aw t) [] rfl).1
  have ls : (t ++ aw t).foldl (fun u c => u ++ [c]) [] = t ++ aw t := by
    generalize t ++ aw t = s
    have : ∀ (s u : List Nat), s.foldl (fun u c => u ++ [c]) u = u ++ s := by
      intro s
      induction s with
      | nil => intro u; simp
      | cons c s ih => intro u; simp [ih]
    rw [this, List.nil_append]
  rw [ls] at lp
  have f1 : ∀ μ : List D, rgood [.fo cn sh (fl t)] μ = some (.bl (pgood k t due)) := fun μ => M.fgood t μ hv (by omega)
  have f3 : ∀ μ : List D, raw [.fo cn sh (fl t)] μ = some (.str (aw t)) := fun μ => M.faw t μ hv (by omega)
  have f5 : ∀ μ : List D, rgood [.fo cn sh (fl (t ++ aw t))] μ = some (.bl true) := fun μ => (M.fgood _ μ v2 (by omega)).trans (by rw [g2])
  have f6 : ∀ μ : List D, rtold [.fo cn sh (fl (t ++ aw t))] μ = some (.str (t ++ aw t)) := fun μ => M.ftold _ μ v2 (by omega) g2
  have f7 := M.made
  have f8 := good_eq k t due (by omega)
  have t1 := M.tgood
  have t2 := M.ttold
  have t3 := M.taw
  have t4 := M.igood
  have t5 := M.itold
  have t6 := M.iaw
  have t7 := M.fz
  have f9 : pgood k t due = true → (∀ μ : List D, rtold [.fo cn sh (fl t)] μ = some (.str t)) ∧ aw t = [] := fun z => ⟨fun μ => M.ftold t μ hv (by omega) z, M.nil t hv z⟩
  clear M hv v2 g2 ls
  unfold r__law_right f__law_right
  cases a : pgood k t due with
  | true =>
    obtain ⟨q1, q2⟩ := f9 a
    rw [a] at lp
    clear f9
    simp only [q2, List.append_nil] at lp f3 f5 f6
    walk_at "k"
  | false =>
    rw [a] at lp
    clear f9
    walk_at "k"
end

theorem last_app (t : List Nat) (c : Nat) : (t ++ [c]).drop ((t ++ [c]).length - 1) = [c] := by
  rw [List.length_append, List.length_singleton, Nat.add_sub_cancel, List.drop_left]
theorem pre_one {t p : List Nat} {c : Nat} (h : p ++ [c] <+: t) : ∃ r, t = p ++ c :: r := by
  obtain ⟨r, h⟩ := h
  exact ⟨r, by rw [← h, List.append_assoc]; rfl⟩
theorem word_last {t : List Nat} (h2 : t.all sm = true) (z : t ≠ []) : t.getLastD 0 ≠ 32 := by
  have : sm (t.getLastD 0) = true := by
    rw [List.getLastD_eq_getLast?, List.getLast?_eq_some_getLast z]
    exact List.all_eq_true.mp h2 _ (List.getLast_mem z)
  intro w
  rw [w] at this
  cases this
theorem word_good {t : List Nat} {due : List Nat} (h2 : t.all sm = true) : pgood 0 t due = decide (t ≠ []) := by
  unfold pgood
  rw [if_neg (by decide)]
  by_cases z : t = []
  · simp [z]
  · simp only [z, word_last h2 z, ne_eq, not_false_eq_true, decide_true, Bool.and_self]
theorem mac_word (most : Int) (due : List Nat) (hm : 1 ≤ most) (hm2 : most ≤ 12) : Mac 0 most due "Word" sh_Word (fun t => [.int most, .str t]) r_Word_fed r_Word_good r_Word_told r_Word_awaited (fun t => if t = [] then [97] else []) (fun t => (t.length : Int) ≤ most ∧ t.all sm = true) where
  tfed := rfl
  tgood := rfl
  ttold := rfl
  taw := rfl
  ifed := by decide +kernel
  igood := by decide +kernel
  itold := by decide +kernel
  iaw := by decide +kernel
  fz _ := rfl
  ffed t c μ hv hl hc := by
    have e1 := is_small_eq
    have e2 : pmay 0 (t ++ [c]) most due = !decide (sm c = false ∨ (t.length : Int) = most) := by
      obtain ⟨h1, h2⟩ := hv
      unfold pmay
      rw [if_pos rfl, List.all_append, h2, List.length_append, Bool.eq_iff_iff]
      cases z : sm c <;> simp [z]
      omega
    rw [e2]
    clear e2 hv
    unfold r_Word_fed f_Word_fed
    walk_at "k"
    split <;> simp [*]
  fgood t μ hv hl := by
    obtain ⟨h1, h2⟩ := hv
    have e2 := word_good (due := due) h2
    rw [e2]
    clear h1 h2 e2
    unfold r_Word_good f_Word_good
    walk_at "k"
    simp
  ftold t μ hv hl hg := by
    unfold r_Word_told f_Word_told
    clear hg hv
    walk_at "k"
  faw t μ hv hl := by
    unfold r_Word_awaited f_Word_awaited
    clear hv
    walk_at "k"
    split <;> rfl
  made μ := by
    unfold r__law_made f__law_made r_Word___init__ f_Word___init__
    walk_at "k"
  v0 := ⟨by show (0 : Int) ≤ most; omega, rfl⟩
  vs t c hv hc h := by
    unfold pmay at h
    rw [if_pos rfl, Bool.and_eq_true, decide_eq_true_eq] at h
    exact h
  vp t hv c hc := by
    have := List.all_eq_true.mp hv.2 c hc
    unfold sm at this
    unfold pln
    simp at this ⊢
    omega
  nil t hv h := by
    unfold pgood at h
    by_cases z : t = []
    · simp [z] at h
    · simp [z]
  fin t hv := by
    by_cases z : t = []
    · subst z
      refine ⟨⟨?_, rfl⟩, rfl⟩
      show ((1 : Nat) : Int) ≤ most
      omega
    · simp only [z, if_false, List.append_nil]
      exact ⟨hv, by rw [word_good hv.2]; simpa using z⟩
  pre t p c hv h := by
    obtain ⟨r, e⟩ := pre_one h
    have h2 : (t ++ if t = [] then [97] else []).all sm = true := by
      by_cases z : t = []
      · subst z; rfl
      · simp [z, hv.2]
    have h3 : ((t ++ if t = [] then [97] else []).length : Int) ≤ most := by
      by_cases z : t = []
      · subst z; show ((1 : Nat) : Int) ≤ most; omega
      · simp only [z, if_false, List.append_nil]; exact hv.1
    rw [e] at h2 h3
    simp only [List.all_append, List.all_cons, Bool.and_eq_true, List.length_append, List.length_cons] at h2 h3
    refine ⟨⟨by omega, h2.1⟩, ?_, ?_⟩
    · have := h2.2.1
      unfold sm at this
      unfold pln
      simp at this ⊢
      omega
    · unfold pmay
      rw [if_pos rfl]
      simp [h2.1, h2.2.1]
      omega
  len t hv hl := by
    split <;> simp

/-! ### a value -/
def vV (most : Int) (t : List Nat) : Prop := vmay t most = true ∧ ∀ c ∈ t, pln c = true
theorem vmay_iff {t : List Nat} {most : Int} : vmay t most = true ↔ (t.length : Int) ≤ most ∧ t.take 1 ≠ [32] ∧ 59 ∉ t ∧ 10 ∉ t ∧ (t.drop (t.length - 1) ≠ [32] ∨ (t.length : Int) < most) := by
  unfold vmay
  simp only [Bool.and_eq_true, Bool.not_eq_true', decide_eq_false_iff_not, Bool.or_eq_true, decide_eq_true_eq, not_or, ne_eq, Int.not_lt]
  constructor
  · rintro ⟨⟨h1, h2, h3, h4⟩, h5⟩; exact ⟨h1, h2, h3, h4, h5⟩
  · rintro ⟨h1, h2, h3, h4, h5⟩; exact ⟨⟨h1, h2, h3, h4⟩, h5⟩
theorem vmay_app {t : List Nat} {c : Nat} {most : Int} (hv : vmay t most = true) : vmay (t ++ [c]) most = true ↔ c ≠ 10 ∧ c ≠ 59 ∧ (t.length : Int) ≠ most ∧ ¬ (c = 32 ∧ (t = [] ∨ (t.length : Int) + 1 = most)) := by
  rw [vmay_iff] at hv ⊢
  obtain ⟨h1, h2, h3, h4, h5⟩ := hv
  rw [last_app]
  simp only [List.length_append, List.length_singleton, List.mem_append, List.mem_singleton, h3, h4, false_or]
  cases t with
  | nil => simp; omega
  | cons a t => simp at h1 h2 ⊢; omega
def vaw (t : List Nat) : List Nat := if t ≠ [] ∧ t.getLastD 0 ≠ 32 then [] else [97]
theorem getLast_drop {t : List Nat} (h : t ≠ []) : t.drop (t.length - 1) = [t.getLastD 0] := by
  obtain ⟨u, c, rfl⟩ : ∃ u c, t = u ++ [c] := ⟨t.dropLast, t.getLast h, (List.dropLast_concat_getLast h).symm⟩
  rw [last_app, List.getLastD_concat]
theorem vaw_may {t : List Nat} {most : Int} (hm : 1 ≤ most) (hv : vmay t most = true) : vmay (t ++ vaw t) most = true := by
  unfold vaw
  split
  · rw [List.append_nil]; exact hv
  · rename_i z
    rw [vmay_app hv]
    rw [vmay_iff] at hv
    obtain ⟨h1, h2, h3, h4, h5⟩ := hv
    refine ⟨by decide, by decide, ?_, by omega⟩
    intro e
    by_cases y : t = []
    · subst y; simp at e; omega
    · rw [getLast_drop y] at h5
      simp [y] at z
      rcases h5 with h5 | h5
      · exact h5 (by rw [List.getLastD_eq_getLast?, z])
      · omega
theorem vmay_pre {t r : List Nat} {most : Int} (h : vmay (t ++ r) most = true) : vmay t most = true := by
  rw [vmay_iff] at h ⊢
  obtain ⟨h1, h2, h3, h4, h5⟩ := h
  rw [List.length_append] at h1 h5
  simp only [List.mem_append, not_or] at h3 h4
  refine ⟨by omega, ?_, h3.1, h4.1, ?_⟩
  · intro e
    cases t with
    | nil => cases e
    | cons a t => simp at h2 e; exact h2 e
  · cases r with
    | nil => simpa using h5
    | cons a r => right; simp at h1; omega
theorem mac_value (most : Int) (due : List Nat) (hm : 1 ≤ most) (hm2 : most ≤ 12) : Mac 1 most due "Value" sh_Value (fun t => [.int most, .str t]) r_Value_fed r_Value_good r_Value_told r_Value_awaited vaw (vV most) where
  tfed := rfl
  tgood := rfl
  ttold := rfl
  taw := rfl
  ifed := by decide +kernel
  igood := by decide +kernel
  itold := by decide +kernel
  iaw := by decide +kernel
  fz _ := rfl
  ffed t c μ hv hl hc := by
    have e1 := is_plain_eq
    have e2 : pmay 1 (t ++ [c]) most due = (!decide (c = 10 ∨ c = 59 ∨ (t.length : Int) = most) && !decide (c = 32 ∧ (t = [] ∨ (t.length : Int) + 1 = most))) := by
      unfold pmay
      rw [if_neg (by decide), if_neg (by decide), Bool.eq_iff_iff, vmay_app hv.1]
      simp only [Bool.and_eq_true, Bool.not_eq_true', decide_eq_false_iff_not, not_or]
      grind
    rw [e2]
    clear e2 hv
    unfold r_Value_fed f_Value_fed
    walk_at "k"
    split
    · simp [*]
    · split <;> simp [*]
  fgood t μ hv hl := by
    clear hv
    unfold r_Value_good f_Value_good pgood
    walk_at "k"
    simp
  ftold t μ hv hl hg := by
    unfold r_Value_told f_Value_told
    clear hg hv
    walk_at "k"
  faw t μ hv hl := by
    have e : (mt0_good "Value") = some r_Value_good := rfl
    have e2 : ∀ μ : List D, r_Value_good [.fo "Value" sh_Value [.int most, .str t]] μ = some (.bl (pgood 1 t due)) := fun μ => by
      unfold r_Value_good f_Value_good pgood
      clear hv e
      walk_at "k"
      simp
    unfold r_Value_awaited f_Value_awaited vaw
    clear hv
    have e3 : pgood 1 t due = decide (t ≠ [] ∧ t.getLastD 0 ≠ 32) := by
      unfold pgood
      rw [if_neg (by decide), ← Bool.decide_and]
    rw [e3] at e2
    clear e3
    walk_at "k"
    split <;> simp [*]
  made μ := by
    unfold r__law_made f__law_made r_Value___init__ f_Value___init__
    walk_at "k"
  v0 := ⟨by rw [vmay_iff]; simp; omega, fun _ h => nomatch h⟩
  vs t c hv hc h := by
    unfold pmay at h
    rw [if_neg (by decide), if_neg (by decide)] at h
    exact ⟨h, fun x hx => by
      rcases List.mem_append.mp hx with hx | hx
      · exact hv.2 x hx
      · rw [List.mem_singleton.mp hx]; exact hc⟩
  vp t hv := hv.2
  nil t hv h := by
    unfold pgood at h
    rw [if_neg (by decide), ← Bool.decide_and, decide_eq_true_eq] at h
    unfold vaw
    rw [if_pos h]
  fin t hv := by
    refine ⟨⟨vaw_may hm hv.1, fun x hx => ?_⟩, ?_⟩
    · rcases List.mem_append.mp hx with hx | hx
      · exact hv.2 x hx
      · unfold vaw at hx
        split at hx
        · cases hx
        · rw [List.mem_singleton.mp hx]; rfl
    · unfold pgood
      rw [if_neg (by decide), ← Bool.decide_and, decide_eq_true_eq]
      unfold vaw
      split
      · rename_i z; rw [List.append_nil]; exact z
      · rw [List.getLastD_concat]; simp
  pre t p c hv h := by
    obtain ⟨r, e⟩ := pre_one h
    have h1 := vaw_may hm hv.1
    have h2 : ∀ x ∈ t ++ vaw t, pln x = true := fun x hx => by
      rcases List.mem_append.mp hx with hx | hx
      · exact hv.2 x hx
      · unfold vaw at hx
        split at hx
        · cases hx
        · rw [List.mem_singleton.mp hx]; rfl
    rw [e] at h1 h2
    refine ⟨⟨vmay_pre h1, fun x hx => h2 x (List.mem_append_left _ hx)⟩, h2 c (by simp), ?_⟩
    unfold pmay
    rw [if_neg (by decide), if_neg (by decide)]
    refine vmay_pre (r := r) ?_
    rw [List.append_assoc]
    exact h1
  len t hv hl := by
    unfold vaw
    split <;> simp

/-! ### a text -/
theorem take_pre {t due : List Nat} {c : Nat} (h : t <+: due) : due.take (t ++ [c]).length = t ++ [c] ↔ (t.length : Int) < due.length ∧ c = due.getD t.length 0 := by
  obtain ⟨r, rfl⟩ := h
  rw [List.length_append, List.length_singleton, List.take_append, List.take_of_length_le (by omega), show t.length + 1 - t.length = 1 by omega, List.append_cancel_left_eq]
  cases r with
  | nil => simp
  | cons a r => simp; constructor <;> intro h <;> first | exact h.symm | exact ⟨by omega, h.symm⟩ | exact h.2.symm
theorem pre_drop {t due : List Nat} (h : t <+: due) : t ++ due.drop t.length = due := by
  obtain ⟨r, rfl⟩ := h
  rw [List.drop_left]
theorem mac_exact (most : Int) (due : List Nat) (hp : ∀ c ∈ due, pln c = true) (hd : due.length ≤ 100) (hdue : due ≠ [59, 10]) : Mac 2 most due "Exact" sh_Exact (fun t => [.str due, .int t.length]) r_Exact_fed r_Exact_good r_Exact_told r_Exact_awaited (fun t => due.drop t.length) (fun t => t <+: due) where
  tfed := rfl
  tgood := rfl
  ttold := rfl
  taw := rfl
  ifed := by decide +kernel
  igood := by decide +kernel
  itold := by decide +kernel
  iaw := by decide +kernel
  fz _ := rfl
  ffed t c μ hv hl hc := by
    have e2 : pmay 2 (t ++ [c]) most due = decide ((t.length : Int) < due.length ∧ c = due.getD t.length 0) := by
      unfold pmay
      rw [if_neg (by decide), if_pos rfl, Bool.eq_iff_iff]
      simp only [decide_eq_true_eq]
      exact take_pre hv
    rw [e2]
    clear e2 hv hdue
    unfold r_Exact_fed f_Exact_fed
    walk_at "k"
    split <;> simp_all
  fgood t μ hv hl := by
    have e2 : pgood 2 t due = decide (t.length = due.length) := by
      unfold pgood
      rw [if_pos rfl, Bool.eq_iff_iff]
      simp only [decide_eq_true_eq]
      exact ⟨fun z => by rw [z], fun z => hv.eq_of_length z⟩
    rw [e2]
    clear e2 hv hdue
    unfold r_Exact_good f_Exact_good
    walk_at "k"
    simp
    omega
  ftold t μ hv hl hg := by
    unfold pgood at hg
    rw [if_pos rfl, decide_eq_true_eq] at hg
    subst hg
    clear hv hdue
    unfold r_Exact_told f_Exact_told
    walk_at "k"
  faw t μ hv hl := by
    clear hv hdue
    unfold r_Exact_awaited f_Exact_awaited
    walk_at "k"
  made μ := by
    have e := hdue
    unfold r__law_made f__law_made r_Exact___init__ f_Exact___init__
    walk_at "k"
  v0 := List.nil_prefix
  vs t c hv hc h := by
    unfold pmay at h
    rw [if_neg (by decide), if_pos rfl, decide_eq_true_eq] at h
    rw [← h]
    exact List.take_prefix _ _
  vp t hv c hc := hp c (hv.subset hc)
  nil t hv h := by
    unfold pgood at h
    rw [if_pos rfl, decide_eq_true_eq] at h
    rw [h]
    simp
  fin t hv := by
    have e : t ++ due.drop t.length = due := pre_drop hv
    simp only [e]
    exact ⟨List.prefix_refl _, by unfold pgood; simp⟩
  pre t p c hv h := by
    have e : t ++ due.drop t.length = due := pre_drop hv
    rw [e] at h
    have h2 : p ++ [c] <+: due := h
    refine ⟨(List.prefix_append p [c]).trans h2, hp c (h2.subset (by simp)), ?_⟩
    unfold pmay
    rw [if_neg (by decide), if_pos rfl, decide_eq_true_eq]
    exact (List.prefix_iff_eq_take.mp h2).symm
  len t hv hl := by
    rw [List.length_drop]
    omega
theorem mac_rowend (most : Int) (due : List Nat) (hp : ∀ c ∈ due, pln c = true) (hd : due.length ≤ 100) (hdue : due = [59, 10]) : Mac 2 most due "RowEnd" sh_RowEnd (fun t => [.str due, .int t.length]) r_Exact_fed r_Exact_good r_Exact_told r_Exact_awaited (fun t => due.drop t.length) (fun t => t <+: due) where
  tfed := rfl
  tgood := rfl
  ttold := rfl
  taw := rfl
  ifed := by decide +kernel
  igood := by decide +kernel
  itold := by decide +kernel
  iaw := by decide +kernel
  fz _ := rfl
  ffed t c μ hv hl hc := by
    have e2 : pmay 2 (t ++ [c]) most due = decide ((t.length : Int) < due.length ∧ c = due.getD t.length 0) := by
      unfold pmay
      rw [if_neg (by decide), if_pos rfl, Bool.eq_iff_iff]
      simp only [decide_eq_true_eq]
      exact take_pre hv
    rw [e2]
    clear e2 hv hdue
    unfold r_Exact_fed f_Exact_fed
    walk_at "k"
    split <;> simp_all
  fgood t μ hv hl := by
    have e2 : pgood 2 t due = decide (t.length = due.length) := by
      unfold pgood
      rw [if_pos rfl, Bool.eq_iff_iff]
      simp only [decide_eq_true_eq]
      exact ⟨fun z => by rw [z], fun z => hv.eq_of_length z⟩
    rw [e2]
    clear e2 hv hdue
    unfold r_Exact_good f_Exact_good
    walk_at "k"
    simp
    omega
  ftold t μ hv hl hg := by
    unfold pgood at hg
    rw [if_pos rfl, decide_eq_true_eq] at hg
    subst hg
    clear hv hdue
    unfold r_Exact_told f_Exact_told
    walk_at "k"
  faw t μ hv hl := by
    clear hv hdue
    unfold r_Exact_awaited f_Exact_awaited
    walk_at "k"
  made μ := by
    have e := hdue
    unfold r__law_made f__law_made r_RowEnd___init__ f_RowEnd___init__ r_Exact___init__ f_Exact___init__
    walk_at "k"
  v0 := List.nil_prefix
  vs t c hv hc h := by
    unfold pmay at h
    rw [if_neg (by decide), if_pos rfl, decide_eq_true_eq] at h
    rw [← h]
    exact List.take_prefix _ _
  vp t hv c hc := hp c (hv.subset hc)
  nil t hv h := by
    unfold pgood at h
    rw [if_pos rfl, decide_eq_true_eq] at h
    rw [h]
    simp
  fin t hv := by
    have e : t ++ due.drop t.length = due := pre_drop hv
    simp only [e]
    exact ⟨List.prefix_refl _, by unfold pgood; simp⟩
  pre t p c hv h := by
    have e : t ++ due.drop t.length = due := pre_drop hv
    rw [e] at h
    have h2 : p ++ [c] <+: due := h
    refine ⟨(List.prefix_append p [c]).trans h2, hp c (h2.subset (by simp)), ?_⟩
    unfold pmay
    rw [if_neg (by decide), if_pos rfl, decide_eq_true_eq]
    exact (List.prefix_iff_eq_take.mp h2).symm
  len t hv hl := by
    rw [List.length_drop]
    omega

/-! ### the law -/
theorem mac_any (k most : Int) (due : List Nat) (hk : k = 0 ∨ k = 1 ∨ k = 2) (hm : 1 ≤ most) (hm2 : most ≤ 12) (hp : ∀ c ∈ due, pln c = true) (hd : due.length ≤ 100) :
    ∃ cn sh fl rfed rgood rtold raw aw V, Mac k most due cn sh fl rfed rgood rtold raw aw V := by
  rcases hk with rfl | rfl | rfl
  · exact ⟨_, _, _, _, _, _, _, _, _, mac_word most due hm hm2⟩
  · exact ⟨_, _, _, _, _, _, _, _, _, mac_value most due hm hm2⟩
  · by_cases z : due = [59, 10]
    · exact ⟨_, _, _, _, _, _, _, _, _, mac_rowend most due hp hd z⟩
    · exact ⟨_, _, _, _, _, _, _, _, _, mac_exact most due hp hd z⟩
theorem pick4 (a b c d : Nat) (x : Int) : ([[a], [b], [c], [d]] : List (List Nat)).getD (x % 4).toNat [] = [[a, b, c, d].getD (x % 4).toNat 0] := by
  have h : (x % 4).toNat < 4 := by omega
  match (x % 4).toNat, h with
  | 0, _ => rfl
  | 1, _ => rfl
  | 2, _ => rfl
  | 3, _ => rfl
theorem pln_getD {l : List Nat} (h : ∀ c ∈ l, pln c = true) (h32 : 0 < l.length) {i : Nat} (hi : i < l.length) : pln (l.getD i 0) = true := by
  rw [List.getD_eq_getElem?_getD, List.getElem?_eq_getElem hi]
  exact h _ (List.getElem_mem hi)
theorem len1 (c : Nat) : ([c] : List Nat).length = 1 := rfl
section
variable {k most : Int} {due : List Nat} {cn : Str} {sh : List Str} {fl : List Nat → List D} {rfed : RX} {rgood rtold raw : RF} {aw : List Nat → List Nat} {V : List Nat → Prop}
theorem turn (M : Mac k most due cn sh fl rfed rgood rtold raw aw V) (hk : k = 0 ∨ k = 1 ∨ k = 2) (hd : due.length ≤ 100) (hp : ∀ c ∈ due, pln c = true) (S F Y : D) (c : Int) (t : List Nat) (hv : V t) (hl : t.length ≤ 90) :
    ∃ t', lb1_law [S, F, .int k, .int most, Y, .str due, .obj cn sh (fl t), .str t, .int c, .un, .un, .un, .un, .un] [] = some (.nx [S, F, .int k, .int most, Y, .str due, .obj cn sh (fl t'), .str t', .un, .un, .un, .un, .un, .un] []) ∧ V t' ∧ t'.length ≤ t.length + 1 := by
  have e1 := stream_eq c 2 (by decide) (by decide)
  have e2 : (strm c (2 : Int).toNat).length = 2 := strm_len c 2
  obtain ⟨x0, x1, e3⟩ : ∃ x0 x1, strm c (2 : Int).toNat = [x0, x1] := by
    match strm c (2 : Int).toNat, e2 with
    | [a, b], _ => exact ⟨a, b, rfl⟩
  rw [e3] at e1
  simp only [List.map_cons, List.map_nil] at e1
  clear e2 e3
  have e4 := sign_eq x1
  have e5 := pick4 (sgn x1) ([97, 98, 99, 120, 121, 122].getD (x1 % 6).toNat 0) 32 113 x0
  -- one sign, and what is made of it
  have go : ∀ (e : Nat), pln e = true → ∃ t', (V t' ∧ t'.length ≤ t.length + 1) ∧ pmay k (t ++ [e]) most due = pmay k (t ++ [e]) most due ∧ t' = (if pmay k (t ++ [e]) most due = true then t ++ [e] else t) := by
    intro e he
    refine ⟨_, ?_, rfl, rfl⟩
    split
    · rename_i h
      exact ⟨M.vs t e hv he h, by simp⟩
    · exact ⟨hv, by omega⟩
  have main : ∀ (e : Nat), pln e = true → (r__law_may [.int k, .str (t ++ [e]), .int most, .str due] = some (.bl (pmay k (t ++ [e]) most due))) ∧
      (∀ μ, rfed [.obj cn sh (fl t), .str [e]] μ = some (.ok (.bl (pmay k (t ++ [e]) most due)) [.obj cn sh (fl (if pmay k (t ++ [e]) most due = true then t ++ [e] else t)), .str [e]] μ)) ∧
      (∀ μ, r__law_right [.int k, .fo cn sh (fl (if pmay k (t ++ [e]) most due = true then t ++ [e] else t)), .str (if pmay k (t ++ [e]) most due = true then t ++ [e] else t), .int most, .str due] μ = some (.bl true)) := by
    intro e he
    obtain ⟨t', ⟨h1, h2⟩, _, h3⟩ := go e he
    refine ⟨may_eq k _ most due (by simp; omega) (by omega) ?_, fun μ => M.ffed t e μ hv (by omega) he, fun μ => ?_⟩
    · intro c hc
      have : pln c = true := by
        rcases List.mem_append.mp hc with hc | hc
        · exact M.vp t hv c hc
        · rw [List.mem_singleton.mp hc]; exact he
      unfold pln at this
      simp at this
      omega
    · rw [← h3]
      exact right_eq M h1 (by omega)
  have t1 := M.tfed
  have t2 := M.ifed
  have t7 := M.fz
  by_cases z : k = 2 ∧ (0 : Int) < x0 % 4 ∧ (t.length : Int) < due.length
  · have he : pln (due.getD t.length 0) = true := pln_getD hp (by omega) (by omega)
    obtain ⟨t', h1, _, h3⟩ := go _ he
    obtain ⟨m1, m2, m3⟩ := main _ he
    refine ⟨t', ?_, h1⟩
    clear M go main hp he
    rw [h3]
    clear h1 h3
    obtain ⟨z1, z2, z3⟩ := z
    subst z1
    generalize pmay 2 (t ++ [due.getD t.length 0]) most due = b at *
    unfold lb1_law
    cases b <;> simp only [Bool.false_eq_true, if_true, if_false] at m2 m3 <;> walk_at "k"
  · have he : pln ([sgn x1, [97, 98, 99, 120, 121, 122].getD (x1 % 6).toNat 0, 32, 113].getD (x0 % 4).toNat 0) = true := by
      refine pln_getD ?_ (by simp) (by simp; omega)
      intro c hc
      simp only [List.mem_cons, List.not_mem_nil, or_false] at hc
      rcases hc with rfl | rfl | rfl | rfl
      · exact sgn_pln x1
      · exact pln_getD (by decide) (by decide) (by simp; omega)
      · rfl
      · rfl
    obtain ⟨t', h1, _, h3⟩ := go _ he
    obtain ⟨m1, m2, m3⟩ := main _ he
    refine ⟨t', ?_, h1⟩
    clear M go main hp he
    rw [h3]
    clear h1 h3
    generalize [sgn x1, [97, 98, 99, 120, 121, 122].getD (x1 % 6).toNat 0, 32, 113].getD (x0 % 4).toNat 0 = e at *
    generalize pmay k (t ++ [e]) most due = b at *
    have z2 : (k = 2 ∧ 0 < x0 % 4 ∧ (t.length : Int) < due.length) = False := eq_false z
    unfold lb1_law
    cases b <;> simp only [Bool.false_eq_true, if_true, if_false] at m2 m3 <;> walk_at "k"
end
theorem law_true (ns : List Int) (h : ns.length ≤ 63) : r_law [.lst (ns.map D.int)] [] = some (.bl true) := by
  have e0 := cell_eq ns 0 (by decide) h
  have e1 := cell_eq ns 1 (by decide) h
  generalize (if (0 : Int) < ns.length then ns.getD (Int.toNat 0) 0 else 0) = first at e0
  generalize (if (1 : Int) < ns.length then ns.getD (Int.toNat 1) 0 else 0) = second at e1
  have e2 := stream_eq second 9 (by decide) (by decide)
  have e3 : (strm second (9 : Int).toNat).length = 9 := strm_len second 9
  generalize strm second (9 : Int).toNat = ys at e2 e3
  have lc : ∀ (a0 a1 a2 a3 a4 a5 a6 a7 a8 a9 a10 a11 a12 : D) (l : List Int) (μ : List D), lcL (tgN 13) bYes ce1_law [a0, a1, a2, a3, a4, a5, a6, a7, a8, a9, a10, a11, a12, .un] μ (l.map D.int) = some (l.map fun x => D.str [sgn x]) := by
    intro a0 a1 a2 a3 a4 a5 a6 a7 a8 a9 a10 a11 a12 l μ
    refine lc_all D.int (fun x => D.str [sgn x]) l fun x _ => ⟨_, rfl, ?_, rfl⟩
    have := sign_eq x
    unfold ce1_law
    walk_at "k"
  obtain ⟨due, hdue, hp, hd⟩ : ∃ due, due = (if first / 360 % 3 = 0 then [59, 10] else (ys.take (first / 36 % 10).toNat).map sgn) ∧ (∀ c ∈ due, pln c = true) ∧ due.length ≤ 100 := by
    refine ⟨_, rfl, ?_, ?_⟩
    · split
      · decide
      · intro c hc
        obtain ⟨x, _, rfl⟩ := List.mem_map.mp hc
        exact sgn_pln x
    · split
      · decide
      · rw [List.length_map, List.length_take]; omega
  obtain ⟨cn, sh, fl, rfed, rgood, rtold, raw, aw, V, M⟩ := mac_any (first % 3) (1 + first / 3 % 12) due (by omega) (by omega) (by omega) hp hd
  have m := M.made
  have t7 := M.fz
  have lp := forL_ex (g := tgN 8) (b := lb1_law) (μ := []) D.int (fun t : List Nat => [.lst (ns.map D.int), .int first, .int (first % 3), .int (1 + first / 3 % 12), .lst (ys.map D.int), .str due, .obj cn sh (fl t), .str t, .un, .un, .un, .un, .un, .un])
    (fun t rest => V t ∧ t.length + rest.length ≤ 61) (by
      rintro t c rest ⟨h1, h2⟩
      simp only [List.length_cons] at h2
      obtain ⟨t', k1, k2, k3⟩ := turn M (by omega) hd hp (.lst (ns.map D.int)) (.int first) (.lst (ys.map D.int)) c t h1 (by omega)
      exact ⟨_, t', rfl, k1, k2, by omega⟩) ((ns.take 42).drop 2) [] ⟨M.v0, by simp; omega⟩
  obtain ⟨t, k1, k2, k3⟩ := lp
  have k4 := right_eq (μ := []) M k2 (by simp at k3; omega)
  clear M k2 k3 hp hd
  unfold r_law f_law
  by_cases z : first / 360 % 3 = 0
  · rw [if_pos z] at hdue
    subst hdue
    walk_at "k"
  · rw [if_neg z] at hdue
    subst hdue
    walk_at "k"
end G
namespace G
open PySem PySem.Spec PyProof.Rows L2 Fw
def loose : List PySem.Str := ["ROW_END", "is_small", "is_plain", "Exact", "RowEnd", "Word", "Value", "_law_cell_at", "_law_stream", "_law_sign", "_law_made", "_law_may", "_law_good", "_law_right"]
theorem run (w : World) : HandSHeadRun.RunEq R (PySem.W.view R.prog [17]) hk ob 4000 loose w := by
  intro os
  kernel_rfl
end G
open PySem PySem.W PySem.Calls PyProof.Rows
set_option maxRecDepth 100000 in
set_option maxHeartbeats 0 in
theorem PySem.Challenge.cw_framepost_k23_words_and_values_read_holds : PySem.Challenge.rw_framepost_k23_words_and_values_read.Holds := by
  w_on; o_law
  refine HandSHeadRun.head_any (r := OpenLaw.row PySem.Challenge.rw_framepost_k23_words_and_values_read) (q := view (OpenLaw.row PySem.Challenge.rw_framepost_k23_words_and_values_read).prog [17]) (H := G.hk) (ob := G.ob) (M := 4000) (loose := G.loose) (d := HandSHeadRun.topDef (OpenLaw.row PySem.Challenge.rw_framepost_k23_words_and_values_read).prog 17) (kwd := []) G.ob_eq
    (by kernel_rfl) (fun s => by kernel_rfl) G.run (by kernel_rfl) (by kernel_rfl) (by kernel_rfl) (by rfl) (by first | assumption | decide +kernel) (by decide +kernel) ⟨rfl, rfl, rfl, rfl, rfl, by decide +kernel⟩ ?hw ?hc
  case hw => w_witness2
  case hc =>
    refine L2.walk_ofE (l := PySem.Challenge.rw_framepost_k23_words_and_values_read) (n := 63) (k := 6) (x := "_law_script") (CX := Fw.CXw) rfl (by decide) (by kernel_rfl) ⟨rfl, by decide, by decide⟩ ?F (fun _ _ _ _ z => Fw.cxw_none z)
    intro w mg fa h Y G0 hmg0
    obtain ⟨K, KX, c⟩ := Y
    have hmg : mg ("law" : PySem.Str) = some (.ref fa) := by
      have e : (HandSHeadRun.topDef (OpenLaw.row PySem.Challenge.rw_framepost_k23_words_and_values_read).prog 17).name = ("law" : PySem.Str) := by kernel_rfl
      rw [← e]
      exact hmg0
    obtain ⟨fd, F⟩ := (G.facts (P := (PySem.Challenge.rw_framepost_k23_words_and_values_read).prog) (w := w) (base := h) KX G0 c).d_law
    have em := (G.facts (P := (PySem.Challenge.rw_framepost_k23_words_and_values_read).prog) (w := w) (base := h) KX G0 c).m_law
    rw [hmg] at em
    cases em
    refine ⟨K, fd, Fw.spF K 1 G.r_law, KX, fun s u => L2.FunD.bindsA (ps := ["_law_script"]) F (fun _ _ _ _ _ _ us hl => match us, hl with | [_], _ => rfl) s [u] rfl, fun H a ns hl _ hS => Fw.law_spF hS (G.law_true ns hl), fun base hb hn => ?_⟩
    exact Fw.cx_wide (G.fn_law (G.facts (P := (PySem.Challenge.rw_framepost_k23_words_and_values_read).prog) (w := w) (base := base) KX G0 c) F)
#print axioms PySem.Challenge.cw_framepost_k23_words_and_values_read_holds

