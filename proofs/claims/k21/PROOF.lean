import PyProof.Rows.All
import Wide.All
import OpenK.AllK
import Wide.FinOn
import HandS.ForMost
import HandS.Exc
import HandS.TryOnly
import HandS.ExcOwn
import HandS.WordsExc
import HandS.Defaults
import HandS.HeadHook1
import HandS.HeadHook2
import HandS.HeadHook4
import HandS.Head2
import HandS.HeadEnd
import HandS.Evl
import HandS.Wide
import HandS.WideBits
import HandS.TupAny
import HandS.IsInst
import HandS.Style
import HandS.StrMore
import HandS.CallSlots
import HandS.Iter
import HandS.Replace
import PySem.Challenge.RW_framepost_k21_a_number_read
set_option Elab.async false
set_option linter.all false
set_option maxRecDepth 100000
set_option maxHeartbeats 4000000
/-! # values as trees, worlds, and how a tree stands in the abstract heap -/
namespace Fw
open PySem PySem.Spec PyProof.Rows L2
open Evl (Ex)

/-- a value as a tree: lst a list that nobody changes any more, ml one that one place owns, obj an instance that one place owns, fo an instance that nobody changes meanwhile, ref an instance that is shared, un nothing -/
inductive D where
  | non | bl (b : Bool) | int (i : Int) | str (s : List Nat) | tup (ds : List D) | lst (ds : List D) | ml (ds : List D)
  | obj (c : Str) (ns : List Str) (ds : List D) | fo (c : Str) (ns : List Str) (ds : List D) | ref (k : Nat) | un
abbrev tr (s : List Nat) : Str := ⟨s.toArray⟩
/-- a written text's signs -/
def ofS (s : String) : List Nat := s.toList.map Char.toNat
theorem tr_ofS (s : String) : (Str.ofString s) = tr (ofS s) := Str.ofString_eq_toList s

structure Wd where
  H : Hp
  Fr : Addr → Prop
  m : List Addr
/-- a list that stands still -/
def FzR (W : Wd) (a : Addr) (xs : List V) : Prop := Rd W.H a (.lst xs) ∧ W.Fr a
def FzL (K : PySem.W.Frag) (W : Wd) (a : Addr) (xs : List V) : Prop := FzR W a xs ∨ SqL K (fun _ => none) a xs
theorem FzL.sq {K : PySem.W.Frag} {W : Wd} {a : Addr} {xs : List V} (h : FzL K W a xs) : SqL K W.H a xs := by
  rcases h with h | h
  · exact .inl h.1
  · rcases h with h | h
    · rcases h with h | ⟨_, h⟩ <;> cases h
    · exact .inr h

mutual
def R (K : PySem.W.Frag) (W : Wd) : D → V → List Addr → Prop
  | .non, v, F => v = .non ∧ F = []
  | .bl b, v, F => v = .bl b ∧ F = []
  | .int i, v, F => v = .int i ∧ F = []
  | .str s, v, F => v = .str (tr s) ∧ F = []
  | .tup ds, v, F => ∃ a vs, v = .ref a ∧ SqT K W.H a vs ∧ RL K W ds vs F
  | .lst ds, v, F => ∃ a vs, v = .ref a ∧ FzL K W a vs ∧ RL K W ds vs [] ∧ F = []
  | .ml ds, v, F => ∃ a vs F', v = .ref a ∧ W.H a = some (.lst vs) ∧ RL K W ds vs F' ∧ F = a :: F'
  | .obj c ns ds, v, F => ∃ a dx vs F', v = .ref a ∧ W.H a = some (.ins (He.ga K c) dx (ns.zip vs)) ∧ ns.length = ds.length ∧ RL K W ds vs F' ∧ F = a :: F'
  | .fo c ns ds, v, F => ∃ a dx vs, v = .ref a ∧ W.H a = some (.ins (He.ga K c) dx (ns.zip vs)) ∧ W.Fr a ∧ ns.length = ds.length ∧ RL K W ds vs [] ∧ F = []
  | .ref k, v, F => ∃ a, v = .ref a ∧ W.m[k]? = some a ∧ F = []
  | .un, v, F => False
def RL (K : PySem.W.Frag) (W : Wd) : List D → List V → List Addr → Prop
  | [], vs, F => vs = [] ∧ F = []
  | d :: ds, vs, F => ∃ v vs' F1 F2, vs = v :: vs' ∧ R K W d v F1 ∧ RL K W ds vs' F2 ∧ F = F1 ++ F2
end
/-- a slot -/
def R1 (K : PySem.W.Frag) (W : Wd) : D → Option V → List Addr → Prop
  | .un, _, F => F = []
  | d, o, F => ∃ v, o = some v ∧ R K W d v F
def RS (K : PySem.W.Frag) (W : Wd) : List D → List (Option V) → List Addr → Prop
  | [], σ, F => σ = [] ∧ F = []
  | d :: ds, σ, F => ∃ o σ' F1 F2, σ = o :: σ' ∧ R1 K W d o F1 ∧ RS K W ds σ' F2 ∧ F = F1 ++ F2

def WOk (W : Wd) : Prop := ∀ a, W.Fr a → W.H a ≠ none
/-- a place of its own: a list or an instance that may change -/
def Own (W : Wd) (a : Addr) : Prop := ¬ W.Fr a ∧ ((∃ xs, W.H a = some (.lst xs)) ∨ ∃ C dx fs, W.H a = some (.ins C dx fs))

/-- the world has grown: nothing that was there is other -/
structure Ext (W W' : Wd) : Prop where
  ex : Ex W.H W'.H
  fr : ∀ a, W.Fr a → W'.Fr a
  nf : ∀ a, W'.Fr a → W.Fr a ∨ W.H a = none
  m : W'.m = W.m
  ok : WOk W'
theorem Ext.refl {W : Wd} (h : WOk W) : Ext W W := ⟨Ex.refl _, fun _ h => h, fun _ h => .inl h, rfl, h⟩
theorem Ext.trans {A B C : Wd} (h : Ext A B) (g : Ext B C) : Ext A C :=
  ⟨h.ex.trans g.ex, fun a q => g.fr a (h.fr a q), fun a q => by
    rcases g.nf a q with q | q
    · exact h.nf a q
    · exact .inr (Evl.fresh_back h.ex q), g.m.trans h.m, g.ok⟩

theorem FzR.ext {W W' : Wd} {a : Addr} {xs : List V} (e : Ext W W') (h : FzR W a xs) : FzR W' a xs := ⟨Evl.ex_rd e.ex h.1, e.fr _ h.2⟩
theorem FzL.ext {K : PySem.W.Frag} {W W' : Wd} {a : Addr} {xs : List V} (e : Ext W W') (h : FzL K W a xs) : FzL K W' a xs := h.imp (fun z => z.ext e) id
section
variable {K : PySem.W.Frag} {W W' : Wd}
mutual
theorem R_ext (e : Ext W W') : ∀ (d : D) {v : V} {F : List Addr}, R K W d v F → R K W' d v F
  | .non, _, _, h => h
  | .bl _, _, _, h => h
  | .int _, _, _, h => h
  | .str _, _, _, h => h
  | .tup ds, _, _, h => by
    obtain ⟨a, vs, h1, h2, h3⟩ := h
    exact ⟨a, vs, h1, Evl.ex_t e.ex h2, RL_ext e ds h3⟩
  | .lst ds, _, _, h => by
    obtain ⟨a, vs, h1, h2, h3, h4⟩ := h
    exact ⟨a, vs, h1, h2.ext e, RL_ext e ds h3, h4⟩
  | .ml ds, _, _, h => by
    obtain ⟨a, vs, F', h1, h2, h3, h4⟩ := h
    exact ⟨a, vs, F', h1, e.ex _ _ h2, RL_ext e ds h3, h4⟩
  | .obj c ns ds, _, _, h => by
    obtain ⟨a, dx, vs, F', h1, h2, h3, h4, h5⟩ := h
    exact ⟨a, dx, vs, F', h1, e.ex _ _ h2, h3, RL_ext e ds h4, h5⟩
  | .fo c ns ds, _, _, h => by
    obtain ⟨a, dx, vs, h1, h2, h3, h4, h5, h6⟩ := h
    exact ⟨a, dx, vs, h1, e.ex _ _ h2, e.fr _ h3, h4, RL_ext e ds h5, h6⟩
  | .ref k, _, _, h => by
    obtain ⟨a, h1, h2, h3⟩ := h
    exact ⟨a, h1, by rw [e.m]; exact h2, h3⟩
  | .un, _, _, h => h.elim
theorem RL_ext (e : Ext W W') : ∀ (ds : List D) {vs : List V} {F : List Addr}, RL K W ds vs F → RL K W' ds vs F
  | [], _, _, h => h
  | d :: ds, _, _, h => by
    obtain ⟨v, vs', F1, F2, h1, h2, h3, h4⟩ := h
    exact ⟨v, vs', F1, F2, h1, R_ext e d h2, RL_ext e ds h3, h4⟩
end
theorem R1_iff : ∀ {d : D} {o : Option V} {F : List Addr}, R1 K W d o F ↔ (d = .un ∧ F = []) ∨ (∃ v, o = some v ∧ R K W d v F) := by
  intro d o F
  cases d <;> simp [R1, R]
theorem R1_ext (e : Ext W W') {d : D} {o : Option V} {F : List Addr} (h : R1 K W d o F) : R1 K W' d o F := by
  rw [R1_iff] at h ⊢
  rcases h with h | ⟨v, h1, h2⟩
  · exact .inl h
  · exact .inr ⟨v, h1, R_ext e d h2⟩
theorem RS_ext (e : Ext W W') : ∀ {ds : List D} {σ : List (Option V)} {F : List Addr}, RS K W ds σ F → RS K W' ds σ F
  | [], _, _, h => h
  | d :: ds, _, _, h => by
    obtain ⟨o, σ', F1, F2, h1, h2, h3, h4⟩ := h
    exact ⟨o, σ', F1, F2, h1, R1_ext e h2, RS_ext e h3, h4⟩
theorem Own.ext {a : Addr} (e : Ext W W') (h : Own W a) : Own W' a := by
  obtain ⟨h1, h2⟩ := h
  refine ⟨fun q => ?_, ?_⟩
  · rcases e.nf a q with q | q
    · exact h1 q
    · rcases h2 with ⟨xs, h2⟩ | ⟨C, dx, fs, h2⟩ <;> rw [q] at h2 <;> cases h2
  · rcases h2 with ⟨xs, h2⟩ | ⟨C, dx, fs, h2⟩
    · exact .inl ⟨xs, e.ex _ _ h2⟩
    · exact .inr ⟨C, dx, fs, e.ex _ _ h2⟩
end
/-- the slots and the store stand in the world -/
structure Sta (K : PySem.W.Frag) (W : Wd) (σ : L2.St) (ρ μ : List D) (F : List Addr) : Prop where
  ex : ∃ F1 F2, RS K W ρ σ F1 ∧ RL K W μ (W.m.map V.ref) F2 ∧ F = F1 ++ F2
  nd : F.Nodup
  own : ∀ a ∈ F, Own W a
  ok : WOk W
theorem Sta.ext {K : PySem.W.Frag} {W W' : Wd} {σ : L2.St} {ρ μ : List D} {F : List Addr} (e : Ext W W') (h : Sta K W σ ρ μ F) : Sta K W' σ ρ μ F := by
  obtain ⟨⟨F1, F2, h1, h2, h3⟩, h4, h5, h6⟩ := h
  exact ⟨⟨F1, F2, RS_ext e h1, by rw [e.m]; exact RL_ext e μ h2, h3⟩, h4, fun a ha => (h5 a ha).ext e, e.ok⟩
section
variable {K : PySem.W.Frag} {W W' : Wd}
theorem RS_get : ∀ {ρ : List D} {σ : List (Option V)} {F : List Addr} {i : Nat} {d : D}, RS K W ρ σ F → ρ[i]? = some d → d ≠ .un → ∃ v F1, σ[i]? = some (some v) ∧ R K W d v F1
  | [], _, _, i, d, _, h, _ => by simp at h
  | d0 :: ρ, _, _, 0, d, h, h1, h2 => by
    obtain ⟨o, σ', F1, F2, e1, e2, e3, e4⟩ := h
    have e : d0 = d := Option.some.inj h1
    subst e
    rw [R1_iff] at e2
    rcases e2 with ⟨q, _⟩ | ⟨v, q1, q2⟩
    · exact absurd q h2
    · exact ⟨v, F1, by rw [e1, q1]; rfl, q2⟩
  | d0 :: ρ, _, _, i + 1, d, h, h1, h2 => by
    obtain ⟨o, σ', F1, F2, e1, e2, e3, e4⟩ := h
    obtain ⟨v, F3, q1, q2⟩ := RS_get (i := i) e3 (by simpa using h1) h2
    exact ⟨v, F3, by rw [e1]; simpa using q1, q2⟩
/-! ### data -/
mutual
def data : D → Bool
  | .tup ds => dataL ds
  | .lst ds => dataL ds
  | .ml _ => false
  | .obj _ _ _ => false
  | .fo _ _ _ => false
  | .ref _ => false
  | .un => false
  | _ => true
def dataL : List D → Bool
  | [] => true
  | d :: ds => data d && dataL ds
end
mutual
theorem R_data : ∀ (d : D) {v : V} {F : List Addr}, data d = true → R K W d v F → F = []
  | .non, _, _, _, h => h.2
  | .bl _, _, _, _, h => h.2
  | .int _, _, _, _, h => h.2
  | .str _, _, _, _, h => h.2
  | .tup ds, _, _, q, h => by
    obtain ⟨a, vs, h1, h2, h3⟩ := h
    exact RL_data ds q h3
  | .lst ds, _, _, _, h => by
    obtain ⟨a, vs, h1, h2, h3, h4⟩ := h
    exact h4
  | .ml ds, _, _, q, h => by cases q
  | .obj c ns ds, _, _, q, h => by cases q
  | .fo c ns ds, _, _, q, h => by cases q
  | .ref k, _, _, q, h => by cases q
  | .un, _, _, _, h => h.elim
theorem RL_data : ∀ (ds : List D) {vs : List V} {F : List Addr}, dataL ds = true → RL K W ds vs F → F = []
  | [], _, _, _, h => h.2
  | d :: ds, _, _, q, h => by
    obtain ⟨v, vs', F1, F2, h1, h2, h3, h4⟩ := h
    have q1 : (data d && dataL ds) = true := q
    obtain ⟨qa, qb⟩ := Bool.and_eq_true_iff.mp q1
    rw [h4, R_data d qa h2, RL_data ds qb h3]
    rfl
end
theorem dataL_all : ∀ (ds : List D), dataL ds = ds.all data
  | [] => rfl
  | d :: ds => by
    show (data d && dataL ds) = _
    rw [dataL_all ds, List.all_cons]
/-! ### lists of values -/
theorem RL_len : ∀ {ds : List D} {vs : List V} {F : List Addr}, RL K W ds vs F → vs.length = ds.length
  | [], _, _, h => by rw [h.1] <;> rfl
  | d :: ds, _, _, h => by
    obtain ⟨v, vs', F1, F2, h1, h2, h3, h4⟩ := h
    rw [h1, List.length_cons, List.length_cons, RL_len h3]
theorem RL_get : ∀ {ds : List D} {vs : List V} {F : List Addr} {i : Nat} {d : D}, RL K W ds vs F → ds[i]? = some d → ∃ v F1, vs[i]? = some v ∧ R K W d v F1 ∧ ∀ a ∈ F1, a ∈ F
  | [], _, _, i, d, _, h => by simp at h
  | d0 :: ds, _, _, 0, d, h, h1 => by
    obtain ⟨v, vs', F1, F2, e1, e2, e3, e4⟩ := h
    have e : d0 = d := Option.some.inj h1
    subst e
    exact ⟨v, F1, by rw [e1]; rfl, e2, fun a ha => by rw [e4]; exact List.mem_append_left _ ha⟩
  | d0 :: ds, _, _, i + 1, d, h, h1 => by
    obtain ⟨v, vs', F1, F2, e1, e2, e3, e4⟩ := h
    obtain ⟨u, F3, q1, q2, q3⟩ := RL_get (i := i) e3 (by simpa using h1)
    exact ⟨u, F3, by rw [e1]; simpa using q1, q2, fun a ha => by rw [e4]; exact List.mem_append_right _ (q3 a ha)⟩
theorem RL_app : ∀ {ds es : List D} {vs us : List V} {F G : List Addr}, RL K W ds vs F → RL K W es us G → RL K W (ds ++ es) (vs ++ us) (F ++ G)
  | [], es, _, us, _, G, h, g => by
    rw [h.1, h.2]
    exact g
  | d :: ds, es, _, us, _, G, h, g => by
    obtain ⟨v, vs', F1, F2, e1, e2, e3, e4⟩ := h
    refine ⟨v, vs' ++ us, F1, F2 ++ G, by rw [e1]; rfl, e2, RL_app e3 g, by rw [e4, List.append_assoc]⟩
theorem RL_take : ∀ {ds : List D} {vs : List V} {n : Nat}, RL K W ds vs [] → RL K W (ds.take n) (vs.take n) []
  | [], _, n, h => by
    rw [h.1, List.take_nil, List.take_nil]
    exact ⟨rfl, rfl⟩
  | d :: ds, _, 0, h => by
    rw [List.take_zero, List.take_zero]
    exact ⟨rfl, rfl⟩
  | d :: ds, _, n + 1, h => by
    obtain ⟨v, vs', F1, F2, e1, e2, e3, e4⟩ := h
    obtain ⟨rfl, rfl⟩ := List.append_eq_nil_iff.mp e4.symm
    rw [e1]
    exact ⟨v, vs'.take n, [], [], rfl, e2, RL_take e3, rfl⟩
theorem RL_drop : ∀ {ds : List D} {vs : List V} {n : Nat}, RL K W ds vs [] → RL K W (ds.drop n) (vs.drop n) []
  | [], _, n, h => by
    rw [h.1, List.drop_nil, List.drop_nil]
    exact ⟨rfl, rfl⟩
  | d :: ds, _, 0, h => by
    rw [List.drop_zero, List.drop_zero]
    exact h
  | d :: ds, _, n + 1, h => by
    obtain ⟨v, vs', F1, F2, e1, e2, e3, e4⟩ := h
    obtain ⟨rfl, rfl⟩ := List.append_eq_nil_iff.mp e4.symm
    rw [e1]
    show RL K W (ds.drop n) (vs'.drop n) []
    exact RL_drop (n := n) e3
end
/-! ### the world grows by one -/
section
variable {W : Wd} {p : Addr} {o : HO}
abbrev Wd.put (W : Wd) (p : Addr) (o : HO) : Wd := ⟨upd W.H p o, W.Fr, W.m⟩
abbrev Wd.frz (W : Wd) (p : Addr) (xs : List V) : Wd := ⟨upd W.H p (.lst xs), fun a => W.Fr a ∨ a = p, W.m⟩
theorem Ext.put (ok : WOk W) (hp : W.H p = none) : Ext W (W.put p o) :=
  ⟨Ex.new hp, fun _ h => h, fun _ h => .inl h, rfl, fun a h => by
    show upd W.H p o a ≠ none
    by_cases e : a = p
    · rw [e, upd_same]
      exact fun z => nomatch z
    · rw [upd_ne e]
      exact ok a h⟩
theorem Ext.frz {xs : List V} (ok : WOk W) (hp : W.H p = none) : Ext W (W.frz p xs) :=
  ⟨Ex.new hp, fun _ h => .inl h, fun a h => by
    rcases h with h | h
    · exact .inl h
    · exact .inr (by rw [h]; exact hp), rfl, fun a h => by
    show upd W.H p (.lst xs) a ≠ none
    rcases h with h | h
    · by_cases e : a = p
      · rw [e, upd_same]
        exact fun z => nomatch z
      · rw [upd_ne e]
        exact ok a h
    · rw [h, upd_same]
      exact fun z => nomatch z⟩
theorem R_newT {K : PySem.W.Frag} {ds : List D} {vs : List V} {F : List Addr} (ok : WOk W) (hp : W.H p = none) (h : RL K W ds vs F) : R K (W.put p (.tup vs)) (.tup ds) (.ref p) F :=
  ⟨p, vs, rfl, Evl.st_of upd_same, RL_ext (Ext.put ok hp) ds h⟩
theorem R_newL {K : PySem.W.Frag} {ds : List D} {vs : List V} (ok : WOk W) (hp : W.H p = none) (h : RL K W ds vs []) : R K (W.frz p vs) (.lst ds) (.ref p) [] :=
  ⟨p, vs, rfl, .inl ⟨.inl upd_same, .inr rfl⟩, RL_ext (Ext.frz ok hp) ds h, rfl⟩
end
/-! ### what stands still stays, whatever else is changed -/
structure Lt (W W' : Wd) : Prop where
  tup : ∀ a xs, Rd W.H a (.tup xs) → Rd W'.H a (.tup xs)
  fz : ∀ a xs, FzR W a xs → FzR W' a xs
  fi : ∀ a C dx fs, W.H a = some (.ins C dx fs) → W.Fr a → W'.H a = some (.ins C dx fs) ∧ W'.Fr a
  m : ∀ (k : Nat) (a : Addr), W.m[k]? = some a → W'.m[k]? = some a
theorem Lt.refl {W : Wd} : Lt W W := ⟨fun _ _ h => h, fun _ _ h => h, fun _ _ _ _ h h' => ⟨h, h'⟩, fun _ _ h => h⟩
theorem Lt.trans {A B C : Wd} (h : Lt A B) (g : Lt B C) : Lt A C := ⟨fun a xs q => g.tup a xs (h.tup a xs q), fun a xs q => g.fz a xs (h.fz a xs q), fun a C dx fs q q' => g.fi a C dx fs (h.fi a C dx fs q q').1 (h.fi a C dx fs q q').2, fun k a q => g.m k a (h.m k a q)⟩
theorem Ext.lt {W W' : Wd} (e : Ext W W') : Lt W W' := ⟨fun _ _ h => Evl.ex_rd e.ex h, fun _ _ h => h.ext e, fun _ _ _ _ h h' => ⟨e.ex _ _ h, e.fr _ h'⟩, fun _ _ h => by rw [e.m]; exact h⟩
theorem FzL.lt {K : PySem.W.Frag} {W W' : Wd} {a : Addr} {xs : List V} (e : Lt W W') (h : FzL K W a xs) : FzL K W' a xs := h.imp (fun z => e.fz _ _ z) id
theorem Lt.sqT {K : PySem.W.Frag} {W W' : Wd} {a : Addr} {xs : List V} (e : Lt W W') (h : SqT K W.H a xs) : SqT K W'.H a xs := by
  rcases h with h | h
  · exact .inl (e.tup a xs h)
  · exact .inr h
section
variable {K : PySem.W.Frag} {W W' : Wd}
mutual
theorem R_lt (e : Lt W W') : ∀ (d : D) {v : V}, R K W d v [] → R K W' d v []
  | .non, _, h => h
  | .bl _, _, h => h
  | .int _, _, h => h
  | .str _, _, h => h
  | .tup ds, _, h => by
    obtain ⟨a, vs, h1, h2, h3⟩ := h
    exact ⟨a, vs, h1, e.sqT h2, RL_lt e ds h3⟩
  | .lst ds, _, h => by
    obtain ⟨a, vs, h1, h2, h3, h4⟩ := h
    exact ⟨a, vs, h1, h2.lt e, RL_lt e ds h3, h4⟩
  | .ml ds, _, h => by
    obtain ⟨a, vs, F', h1, h2, h3, h4⟩ := h
    cases h4
  | .obj c ns ds, _, h => by
    obtain ⟨a, dx, vs, F', h1, h2, h3, h4, h5⟩ := h
    cases h5
  | .fo c ns ds, _, h => by
    obtain ⟨a, dx, vs, h1, h2, h3, h4, h5, h6⟩ := h
    obtain ⟨q1, q2⟩ := e.fi _ _ _ _ h2 h3
    exact ⟨a, dx, vs, h1, q1, q2, h4, RL_lt e ds h5, h6⟩
  | .ref k, _, h => by
    obtain ⟨a, h1, h2, h3⟩ := h
    exact ⟨a, h1, e.m _ _ h2, h3⟩
  | .un, _, h => h.elim
theorem RL_lt (e : Lt W W') : ∀ (ds : List D) {vs : List V}, RL K W ds vs [] → RL K W' ds vs []
  | [], _, h => h
  | d :: ds, _, h => by
    obtain ⟨v, vs', F1, F2, h1, h2, h3, h4⟩ := h
    obtain ⟨rfl, rfl⟩ := List.append_eq_nil_iff.mp h4.symm
    exact ⟨v, vs', [], [], h1, R_lt e d h2, RL_lt e ds h3, rfl⟩
end
/-! ### a slot is set -/
theorem RS_len : ∀ {ρ : List D} {σ : List (Option V)} {F : List Addr}, RS K W ρ σ F → σ.length = ρ.length
  | [], _, _, h => by rw [h.1] <;> rfl
  | d :: ρ, _, _, h => by
    obtain ⟨o, σ', F1, F2, e1, e2, e3, e4⟩ := h
    rw [e1, List.length_cons, List.length_cons, RS_len e3]
theorem RS_set {d' : D} {o' : Option V} {G : List Addr} (g : R1 K W d' o' G) : ∀ {ρ : List D} {σ : List (Option V)} {F : List Addr} {i : Nat}, RS K W ρ σ F → i < ρ.length → ∃ A B C, F = A ++ (B ++ C) ∧ RS K W (ρ.set i d') (σ.set i o') (A ++ (G ++ C))
  | [], _, _, i, _, h => by cases h
  | d :: ρ, _, _, 0, h, _ => by
    obtain ⟨o, σ', F1, F2, e1, e2, e3, e4⟩ := h
    exact ⟨[], F1, F2, e4, by rw [e1]; exact ⟨o', σ', G, F2, rfl, g, e3, rfl⟩⟩
  | d :: ρ, _, _, i + 1, h, hl => by
    obtain ⟨o, σ', F1, F2, e1, e2, e3, e4⟩ := h
    obtain ⟨A, B, C, q1, q2⟩ := RS_set g (i := i) e3 (Nat.lt_of_succ_lt_succ hl)
    refine ⟨F1 ++ A, B, C, by rw [e4, q1, List.append_assoc], ?_⟩
    rw [e1]
    exact ⟨o, σ'.set i o', F1, A ++ (G ++ C), rfl, e2, q2, by rw [List.append_assoc]⟩
end
/-- a slot gets what has no place of its own -/
theorem Sta.set {K : PySem.W.Frag} {W : Wd} {σ : L2.St} {ρ μ : List D} {F : List Addr} {i : Nat} {d : D} {o : Option V} (S : Sta K W σ ρ μ F) (g : R1 K W d o []) : ∃ F', Sta K W (σ.set i o) (ρ.set i d) μ F' ∧ ∀ a ∈ F', a ∈ F := by
  obtain ⟨⟨F1, F2, h1, h2, h3⟩, nd, own, ok⟩ := S
  have hl := RS_len h1
  by_cases hi : i < ρ.length
  · obtain ⟨A, B, C, q1, q2⟩ := RS_set g h1 hi
    have e1 : F = A ++ (B ++ C) ++ F2 := by rw [h3, q1]
    have sub : (A ++ ([] ++ C) ++ F2).Sublist F := by
      rw [e1]
      exact List.Sublist.append (List.Sublist.append (List.Sublist.refl A) (List.Sublist.append (List.nil_sublist B) (List.Sublist.refl C))) (List.Sublist.refl F2)
    exact ⟨A ++ ([] ++ C) ++ F2, ⟨⟨_, F2, q2, h2, rfl⟩, nd.sublist sub, fun a ha => own a (sub.subset ha), ok⟩, fun a ha => sub.subset ha⟩
  · rw [List.set_eq_of_length_le (by omega), List.set_eq_of_length_le (by omega)]
    exact ⟨F, ⟨⟨F1, F2, h1, h2, h3⟩, nd, own, ok⟩, fun a ha => ha⟩
/-! ### data do not ask who is shared -/
section
variable {K : PySem.W.Frag} {W : Wd}
mutual
theorem R_m {m : List Addr} : ∀ (d : D) {v : V} {F : List Addr}, data d = true → R K W d v F → R K ⟨W.H, W.Fr, m⟩ d v F
  | .non, _, _, _, h => h
  | .bl _, _, _, _, h => h
  | .int _, _, _, _, h => h
  | .str _, _, _, _, h => h
  | .tup ds, _, _, q, h => by
    obtain ⟨a, vs, h1, h2, h3⟩ := h
    exact ⟨a, vs, h1, h2, RL_m ds q h3⟩
  | .lst ds, _, _, q, h => by
    obtain ⟨a, vs, h1, h2, h3, h4⟩ := h
    exact ⟨a, vs, h1, h2, RL_m ds q h3, h4⟩
  | .ml ds, _, _, q, h => by cases q
  | .obj c ns ds, _, _, q, h => by cases q
  | .fo c ns ds, _, _, q, h => by cases q
  | .ref k, _, _, q, h => by cases q
  | .un, _, _, q, h => by cases q
theorem RL_m {m : List Addr} : ∀ (ds : List D) {vs : List V} {F : List Addr}, dataL ds = true → RL K W ds vs F → RL K ⟨W.H, W.Fr, m⟩ ds vs F
  | [], _, _, _, h => h
  | d :: ds, _, _, q, h => by
    obtain ⟨v, vs', F1, F2, h1, h2, h3, h4⟩ := h
    obtain ⟨qa, qb⟩ := Bool.and_eq_true_iff.mp (show (data d && dataL ds) = true from q)
    exact ⟨v, vs', F1, F2, h1, R_m d qa h2, RL_m ds qb h3, h4⟩
end
end
/-! ### the world moves at F; F' is one's own behind -/
structure Mv (W W' : Wd) (F F' : List Addr) : Prop where
  keep : ∀ a o, W.H a = some o → a ∉ F → W'.H a = some o
  fr : ∀ a, W.Fr a → W'.Fr a
  nf : ∀ a, W'.Fr a → W.Fr a ∨ W.H a = none ∨ a ∈ F
  own : ∀ a ∈ F', a ∈ F ∨ W.H a = none
  m : ∃ l, W'.m = W.m ++ l
theorem Ext.mv {W W' : Wd} {F F' : List Addr} (e : Ext W W') (h : ∀ a ∈ F', a ∈ F) : Mv W W' F F' :=
  ⟨fun a o h _ => e.ex a o h, e.fr, fun a h => (e.nf a h).elim .inl fun z => .inr (.inl z), fun a ha => .inl (h a ha), ⟨[], by rw [e.m, List.append_nil]⟩⟩
theorem Mv.trans {A B C : Wd} {F G I : List Addr} (h : Mv A B F G) (g : Mv B C G I) : Mv A C F I := by
  have back : ∀ a, B.H a = none → A.H a = none ∨ a ∈ F := fun a q => by
    cases e : A.H a with
    | none => exact .inl rfl
    | some o =>
      by_cases hf : a ∈ F
      · exact .inr hf
      · rw [h.keep a o e hf] at q
        cases q
  refine ⟨fun a o e hf => ?_, fun a q => g.fr a (h.fr a q), fun a q => ?_, fun a ha => ?_, ?_⟩
  · refine g.keep a o (h.keep a o e hf) fun z => ?_
    rcases h.own a z with z | z
    · exact hf z
    · rw [e] at z
      cases z
  · rcases g.nf a q with q | q | q
    · exact h.nf a q
    · rcases back a q with q | q
      · exact .inr (.inl q)
      · exact .inr (.inr q)
    · rcases h.own a q with q | q
      · exact .inr (.inr q)
      · exact .inr (.inl q)
  · rcases g.own a ha with q | q
    · exact h.own a q
    · rcases back a q with q | q
      · exact .inr q
      · exact .inl q
  · obtain ⟨l, h⟩ := h.m
    obtain ⟨l', g⟩ := g.m
    exact ⟨l ++ l', by rw [g, h, List.append_assoc]⟩
theorem Mv.lt {W W' : Wd} {F F' : List Addr} (h : Mv W W' F F') (own : ∀ a ∈ F, Own W a) : Lt W W' := by
  have out : ∀ a o, W.H a = some o → (∀ xs, o ≠ .lst xs) → (∀ C dx fs, o ≠ .ins C dx fs) → a ∉ F := fun a o e n1 n2 z => by
    obtain ⟨_, q⟩ := own a z
    rcases q with ⟨xs, q⟩ | ⟨C, dx, fs, q⟩
    · rw [e] at q
      exact n1 xs (Option.some.inj q)
    · rw [e] at q
      exact n2 C dx fs (Option.some.inj q)
  refine ⟨fun a xs r => ?_, fun a xs r => ⟨?_, h.fr a r.2⟩, fun a C dx fs r r' => ⟨h.keep a _ r fun z => (own a z).1 r', h.fr a r'⟩, fun k a e => ?_⟩
  · rcases r with r | ⟨o, r⟩
    · exact .inl (h.keep a _ r (out a _ r (fun _ q => nomatch q) fun _ _ _ q => nomatch q))
    · exact .inr ⟨o, h.keep a _ r (out a _ r (fun _ q => nomatch q) fun _ _ _ q => nomatch q)⟩
  · have nf : a ∉ F := fun z => (own a z).1 r.2
    rcases r.1 with r | ⟨o, r⟩
    · exact .inl (h.keep a _ r nf)
    · exact .inr ⟨o, h.keep a _ r nf⟩
  · obtain ⟨l, q⟩ := h.m
    rw [q, List.getElem?_append_left (List.getElem?_eq_some_iff.mp e).1]
    exact e
/-! ### the same heap, more that stands still -/
section
variable {K : PySem.W.Frag} {W W' : Wd}
mutual
theorem R_same (e : Lt W W') (hH : W'.H = W.H) : ∀ (d : D) {v : V} {F : List Addr}, R K W d v F → R K W' d v F
  | .non, _, _, h => h
  | .bl _, _, _, h => h
  | .int _, _, _, h => h
  | .str _, _, _, h => h
  | .tup ds, _, _, h => by
    obtain ⟨a, vs, h1, h2, h3⟩ := h
    exact ⟨a, vs, h1, e.sqT h2, RL_same e hH ds h3⟩
  | .lst ds, _, _, h => by
    obtain ⟨a, vs, h1, h2, h3, h4⟩ := h
    exact ⟨a, vs, h1, h2.lt e, RL_same e hH ds h3, h4⟩
  | .ml ds, _, _, h => by
    obtain ⟨a, vs, F', h1, h2, h3, h4⟩ := h
    exact ⟨a, vs, F', h1, by rw [hH]; exact h2, RL_same e hH ds h3, h4⟩
  | .obj c ns ds, _, _, h => by
    obtain ⟨a, dx, vs, F', h1, h2, h3, h4, h5⟩ := h
    exact ⟨a, dx, vs, F', h1, by rw [hH]; exact h2, h3, RL_same e hH ds h4, h5⟩
  | .fo c ns ds, _, _, h => by
    obtain ⟨a, dx, vs, h1, h2, h3, h4, h5, h6⟩ := h
    obtain ⟨q1, q2⟩ := e.fi _ _ _ _ h2 h3
    exact ⟨a, dx, vs, h1, q1, q2, h4, RL_same e hH ds h5, h6⟩
  | .ref k, _, _, h => by
    obtain ⟨a, h1, h2, h3⟩ := h
    exact ⟨a, h1, e.m _ _ h2, h3⟩
  | .un, _, _, h => h.elim
theorem RL_same (e : Lt W W') (hH : W'.H = W.H) : ∀ (ds : List D) {vs : List V} {F : List Addr}, RL K W ds vs F → RL K W' ds vs F
  | [], _, _, h => h
  | d :: ds, _, _, h => by
    obtain ⟨v, vs', F1, F2, h1, h2, h3, h4⟩ := h
    exact ⟨v, vs', F1, F2, h1, R_same e hH d h2, RL_same e hH ds h3, h4⟩
end
theorem RS_same (e : Lt W W') (hH : W'.H = W.H) : ∀ {ds : List D} {σ : List (Option V)} {F : List Addr}, RS K W ds σ F → RS K W' ds σ F
  | [], _, _, h => h
  | d :: ds, _, _, h => by
    obtain ⟨o, σ', F1, F2, h1, h2, h3, h4⟩ := h
    refine ⟨o, σ', F1, F2, h1, ?_, RS_same e hH h3, h4⟩
    rw [R1_iff] at h2 ⊢
    rcases h2 with h2 | ⟨v, q1, q2⟩
    · exact .inl h2
    · exact .inr ⟨v, q1, R_same e hH d q2⟩
end
end Fw
/-! # quiet expressions: what they evaluate to, nothing else changed -/
namespace Fw
open PySem PySem.Spec PyProof.Rows L2
open Evl (Ex)

abbrev FQ := List D → List D → Option D
abbrev FB := List D → List D → Option Bool
abbrev FA := List D → List D → Option (List D)

/-- e is quiet: where f tells d, it evaluates to d; the world may only grow -/
def PQ (X : Cx) (e : Expr) (f : FQ) : Prop := ∃ te : TE, PE X e te ∧ ∀ (σ : L2.St) (W : Wd) (ρ μ : List D) (F : List Addr), Sta X.K W σ ρ μ F → ∀ d, f ρ μ = some d →
  ∀ Q : VK, (∀ v W' G, Ext W W' → R X.K W' d v G → Q v W'.H) → te σ W.H Q
def PB (X : Cx) (e : Expr) (f : FB) : Prop := ∃ tt : TT, PT X e tt ∧ ∀ (σ : L2.St) (W : Wd) (ρ μ : List D) (F : List Addr), Sta X.K W σ ρ μ F → ∀ b, f ρ μ = some b →
  ∀ Q : Bool → Hp → Prop, (∀ W', Ext W W' → Q b W'.H) → tt σ W.H Q
def PWB (X : Cx) (e : Expr) (f : FB) : Prop := ∃ tt : TT, PW X e tt ∧ ∀ (σ : L2.St) (W : Wd) (ρ μ : List D) (F : List Addr), Sta X.K W σ ρ μ F → ∀ b, f ρ μ = some b →
  ∀ Q : Bool → Hp → Prop, (∀ W', Ext W W' → Q b W'.H) → tt σ W.H Q
def PAQ (X : Cx) (es : List Expr) (f : FA) : Prop := ∃ ta : TA, PA X es ta ∧ ∀ (σ : L2.St) (W : Wd) (ρ μ : List D) (F : List Addr), Sta X.K W σ ρ μ F → ∀ ds, f ρ μ = some ds →
  ∀ Q : List V → Hp → Prop, (∀ vs W' G, Ext W W' → RL X.K W' ds vs G → Q vs W'.H) → ta σ W.H Q
/-- a new list at p, its items data; nobody else knows it -/
structure NewL (K : PySem.W.Frag) (W W' : Wd) (ds : List D) (p : Addr) : Prop where
  ext : Ext W W'
  new : W.H p = none
  nofr : ¬ W'.Fr p
  at_ : ∃ vs, W'.H p = some (.lst vs) ∧ RL K W' ds vs []
def PN (X : Cx) (e : Expr) (f : FA) : Prop := ∃ te : TE, PE X e te ∧ ∀ (σ : L2.St) (W : Wd) (ρ μ : List D) (F : List Addr), Sta X.K W σ ρ μ F → ∀ ds, f ρ μ = some ds →
  ∀ Q : VK, (∀ p W', NewL X.K W W' ds p → Q (.ref p) W'.H) → te σ W.H Q

section
variable {X : Cx} {e a b c : Expr} {es : List Expr} {f g h : FQ} {pos : Pos}
/-! ### names, constants -/
def qVar (i : Nat) : FQ := fun ρ _ => match ρ[i]? with
  | some .un => none
  | o => o
theorem pq_var (i : Nat) {x : Str} (hp : PE X (.Name x pos) (tVar i)) : PQ X (.Name x pos) (qVar i) := by
  refine ⟨_, hp, fun σ W ρ μ F S d hd Q q => ?_⟩
  obtain ⟨F1, F2, h1, h2, h3⟩ := S.ex
  have hr : ρ[i]? = some d ∧ d ≠ .un := by
    unfold qVar at hd
    cases e : ρ[i]? with
    | none => rw [e] at hd; cases hd
    | some d0 =>
      rw [e] at hd
      cases d0 <;> first
        | (cases hd; done)
        | (have z := Option.some.inj hd; subst z; exact ⟨rfl, fun z => nomatch z⟩)
  obtain ⟨v, G, s1, s2⟩ := RS_get h1 hr.1 hr.2
  exact ⟨v, s1, q v W G (Ext.refl S.ok) s2⟩
def qC (d : D) : FQ := fun _ _ => some d
theorem pq_int {i : Int} {j} : PQ X (.Constant (.int i) j pos) (qC (.int i)) :=
  ⟨_, pe_int, fun σ W ρ μ F S d hd Q q => q _ W [] (Ext.refl S.ok) (by cases hd; exact ⟨rfl, rfl⟩)⟩
theorem pq_bl {i : Bool} {j} : PQ X (.Constant (.bool i) j pos) (qC (.bl i)) :=
  ⟨_, pe_bl, fun σ W ρ μ F S d hd Q q => q _ W [] (Ext.refl S.ok) (by cases hd; exact ⟨rfl, rfl⟩)⟩
theorem pq_non {j} : PQ X (.Constant .none j pos) (qC .non) :=
  ⟨_, pe_non, fun σ W ρ μ F S d hd Q q => q _ W [] (Ext.refl S.ok) (by cases hd; exact ⟨rfl, rfl⟩)⟩
theorem pq_str (x : String) {j} : PQ X (.Constant (.str (Str.ofString x)) j pos) (qC (.str (ofS x))) :=
  ⟨_, pe_str, fun σ W ρ μ F S d hd Q q => q _ W [] (Ext.refl S.ok) (by cases hd; exact ⟨congrArg V.str (tr_ofS x), rfl⟩)⟩
/-- a name of the module: d stands there at every heap -/
def GlD (K : PySem.W.Frag) (mg : Str → Option Value) (x : Str) (d : D) : Prop := ∃ v u, mg x = some u ∧ RelV v u ∧ ∀ W : Wd, R K W d v []
theorem pq_glob {x : Str} {d : D} (G : GlD X.K X.mg x d) (hg : Gl X x := by rfl) (hd : (x == ("__debug__" : Str)) = false := by decide) : PQ X (.Name x pos) (qC d) := by
  obtain ⟨v, u, h1, h2, h3⟩ := G
  exact ⟨_, pe_glob hg h1 h2 hd, fun σ W ρ μ F S d' hd' Q q => q v W [] (Ext.refl S.ok) (by cases hd'; exact h3 W)⟩

/-! ### operators -/
def q2 (o : D → D → Option D) (f g : FQ) : FQ := fun ρ μ => (f ρ μ).bind fun x => (g ρ μ).bind fun y => o x y
def q1 (o : D → Option D) (f : FQ) : FQ := fun ρ μ => (f ρ μ).bind o
theorem bind_some {α β : Type} {o : Option α} {k : α → Option β} {z : β} (h : o.bind k = some z) : ∃ x, o = some x ∧ k x = some z := by
  cases o with
  | none => cases h
  | some x => exact ⟨x, rfl, h⟩
/-- an operator on trees -/
def OpD (X : Cx) (op : Value → Value → Sem Value) (o : D → D → Option D) : Prop := ∃ r : R2, OpR X op r ∧ ∀ (W : Wd) (x y : D) (u v : V) (G1 G2 : List Addr), WOk W → R X.K W x u G1 → R X.K W y v G2 → ∀ d, o x y = some d →
  ∀ Q : VK, (∀ v W' G, Ext W W' → R X.K W' d v G → Q v W'.H) → r u v W.H Q
theorem run2 {ta tb : TE} {r : R2} {o : D → D → Option D}
    (h1 : ∀ (σ : L2.St) (W : Wd) (ρ μ : List D) (F : List Addr), Sta X.K W σ ρ μ F → ∀ d, f ρ μ = some d → ∀ Q : VK, (∀ v W' G, Ext W W' → R X.K W' d v G → Q v W'.H) → ta σ W.H Q)
    (h2 : ∀ (σ : L2.St) (W : Wd) (ρ μ : List D) (F : List Addr), Sta X.K W σ ρ μ F → ∀ d, g ρ μ = some d → ∀ Q : VK, (∀ v W' G, Ext W W' → R X.K W' d v G → Q v W'.H) → tb σ W.H Q)
    (h3 : ∀ (W : Wd) (x y : D) (u v : V) (G1 G2 : List Addr), WOk W → R X.K W x u G1 → R X.K W y v G2 → ∀ d, o x y = some d → ∀ Q : VK, (∀ v W' G, Ext W W' → R X.K W' d v G → Q v W'.H) → r u v W.H Q)
    (σ : L2.St) (W : Wd) (ρ μ : List D) (F : List Addr) (S : Sta X.K W σ ρ μ F) (d : D) (hd : q2 o f g ρ μ = some d) (Q : VK) (q : ∀ v W' G, Ext W W' → R X.K W' d v G → Q v W'.H) : tOp r ta tb σ W.H Q := by
  obtain ⟨x, e1, hd⟩ := bind_some hd
  obtain ⟨y, e2, hd⟩ := bind_some hd
  refine h1 σ W ρ μ F S x e1 _ fun u W1 G1 x1 r1 => ?_
  refine h2 σ W1 ρ μ F (S.ext x1) y e2 _ fun v W2 G2 x2 r2 => ?_
  exact h3 W2 x y u v G1 G2 x2.ok (R_ext x2 x r1) r2 d hd _ fun z W3 G3 x3 r3 => q z W3 G3 ((x1.trans x2).trans x3) r3
theorem pq_op {op : Operator} {o : D → D → Option D} (h : OpD X (binaryOp op) o) (ha : PQ X a f) (hb : PQ X b g) : PQ X (.BinOp a op b pos) (q2 o f g) := by
  obtain ⟨r, hr, h3⟩ := h
  obtain ⟨ta, pa, h1⟩ := ha
  obtain ⟨tb, pb, h2⟩ := hb
  exact ⟨_, pe_op hr pa pb, run2 h1 h2 h3⟩
theorem pq_cmp {op : CmpOp} {o : D → D → Option D} (h : OpD X (compareOp op) o) (ha : PQ X a f) (hb : PQ X b g) (hm : behindInMarks op b = false) : PQ X (.Compare a [op] [b] pos) (q2 o f g) := by
  obtain ⟨r, hr, h3⟩ := h
  obtain ⟨ta, pa, h1⟩ := ha
  obtain ⟨tb, pb, h2⟩ := hb
  exact ⟨_, pe_cmpR hr pa pb hm, run2 h1 h2 h3⟩
/-- a truth out of a value -/
def qB (f : FQ) : FB := fun ρ μ => match f ρ μ with
  | some (.bl b) => some b
  | _ => none
theorem qB_some {f : FQ} {ρ μ : List D} {b : Bool} (h : qB f ρ μ = some b) : f ρ μ = some (.bl b) := by
  unfold qB at h
  cases e : f ρ μ with
  | none => rw [e] at h; cases h
  | some d =>
    rw [e] at h
    cases d <;> first
      | (cases h; done)
      | (have z := Option.some.inj h; subst z; rfl)
theorem pb_val (ha : PQ X a f) (he : ∀ whole, isTrue a X.env whole = (do let v ← whole; standAt a.pos; holding [v] (truthy v)) := by intro _; rfl) : PB X a (qB f) := by
  obtain ⟨ta, pa, h1⟩ := ha
  refine ⟨_, pt_val pa he, fun σ W ρ μ F S b hb Q q => ?_⟩
  refine h1 σ W ρ μ F S _ (qB_some hb) _ fun u W1 G1 x1 r1 => ?_
  exact ⟨b, r1.1, q W1 x1⟩
theorem pb_cmp {op : CmpOp} {o : D → D → Option D} (h : OpD X (compareOp op) o) (ha : PQ X a f) (hb : PQ X b g) (hm : behindInMarks op b = false) : PB X (.Compare a [op] [b] pos) (qB (q2 o f g)) := by
  obtain ⟨r, hr, h3⟩ := h
  obtain ⟨ta, pa, h1⟩ := ha
  obtain ⟨tb, pb, h2⟩ := hb
  refine ⟨_, pt_cmpR hr pa pb hm, fun σ W ρ μ F S b hb Q q => ?_⟩
  refine run2 h1 h2 h3 σ W ρ μ F S _ (qB_some hb) _ fun u W1 G1 x1 r1 => ?_
  exact ⟨b, r1.1, q W1 x1⟩
/-! ### two comparisons in a chain -/
def q3 (o o' : D → D → Option D) (f g h : FQ) : FQ := fun ρ μ => (f ρ μ).bind fun x => (g ρ μ).bind fun y => match o x y with
  | some (.bl true) => (h ρ μ).bind fun z => o' y z
  | some (.bl false) => some (.bl false)
  | _ => none
theorem run3 {op op' : CmpOp} {o o' : D → D → Option D} (H1 : OpD X (compareOp op) o) (H2 : OpD X (compareOp op') o') (ha : PQ X a f) (hb : PQ X b g) (hc : PQ X c h) :
    ∃ r r' ta tb tc, OpR X (compareOp op) r ∧ OpR X (compareOp op') r' ∧ PE X a ta ∧ PE X b tb ∧ PE X c tc ∧
      ∀ (σ : L2.St) (W : Wd) (ρ μ : List D) (F : List Addr), Sta X.K W σ ρ μ F → ∀ d, q3 o o' f g h ρ μ = some d → ∀ Q : VK, (∀ v W' G, Ext W W' → R X.K W' d v G → Q v W'.H) → tChain r r' ta tb tc σ W.H Q := by
  obtain ⟨r, hr, h3⟩ := H1
  obtain ⟨r', hr', h4⟩ := H2
  obtain ⟨ta, pa, h1⟩ := ha
  obtain ⟨tb, pb, h2⟩ := hb
  obtain ⟨tc, pc, h5⟩ := hc
  refine ⟨r, r', ta, tb, tc, hr, hr', pa, pb, pc, fun σ W ρ μ F S d hd Q q => ?_⟩
  obtain ⟨x, e1, hd⟩ := bind_some hd
  obtain ⟨y, e2, hd⟩ := bind_some hd
  refine h1 σ W ρ μ F S x e1 _ fun u W1 G1 x1 r1 => ?_
  refine h2 σ W1 ρ μ F (S.ext x1) y e2 _ fun v W2 G2 x2 r2 => ?_
  cases e3 : o x y with
  | none => rw [e3] at hd; cases hd
  | some k =>
    rw [e3] at hd
    refine h3 W2 x y u v G1 G2 x2.ok (R_ext x2 x r1) r2 k e3 _ fun z W3 G3 x3 r3 => ?_
    cases k with
    | bl t =>
      refine ⟨t, r3.1, ?_⟩
      cases t with
      | true =>
        rw [if_pos rfl]
        obtain ⟨w, e4, hd⟩ := bind_some hd
        refine h5 σ W3 ρ μ F (((S.ext x1).ext x2).ext x3) w e4 _ fun t' W4 G4 x4 r4 => ?_
        exact h4 W4 y w v t' G2 G4 x4.ok (R_ext (x3.trans x4) y r2) r4 d hd _ fun z' W5 G5 x5 r5 => q z' W5 G5 ((((x1.trans x2).trans x3).trans x4).trans x5) r5
      | false =>
        rw [if_neg Bool.false_ne_true]
        cases hd
        exact q _ W3 [] ((x1.trans x2).trans x3) ⟨rfl, rfl⟩
    | _ => cases hd
end
end Fw
/-! # more quiet expressions -/
namespace Fw
open PySem PySem.Spec PyProof.Rows L2
open Evl (Ex)
section
variable {X : Cx} {e a b c : Expr} {es : List Expr} {f g h : FQ} {t u : FB} {pos : Pos}
theorem pq_chain {op op' : CmpOp} {o o' : D → D → Option D} (H1 : OpD X (compareOp op) o) (H2 : OpD X (compareOp op') o') (ha : PQ X a f) (hb : PQ X b g) (hc : PQ X c h)
    (hm : lastMarks [op, op'] [b, c] = false := by with_unfolding_all rfl) : PQ X (.Compare a [op, op'] [b, c] pos) (q3 o o' f g h) := by
  obtain ⟨r, r', ta, tb, tc, hr, hr', pa, pb, pc, k⟩ := run3 H1 H2 ha hb hc
  exact ⟨_, pe_chain hr hr' pa pb pc hm, k⟩
theorem pb_chain {op op' : CmpOp} {o o' : D → D → Option D} (H1 : OpD X (compareOp op) o) (H2 : OpD X (compareOp op') o') (ha : PQ X a f) (hb : PQ X b g) (hc : PQ X c h)
    (hm : lastMarks [op, op'] [b, c] = false := by with_unfolding_all rfl) : PB X (.Compare a [op, op'] [b, c] pos) (qB (q3 o o' f g h)) := by
  obtain ⟨r, r', ta, tb, tc, hr, hr', pa, pb, pc, k⟩ := run3 H1 H2 ha hb hc
  refine ⟨_, pt_chain hr hr' pa pb pc hm, fun σ W ρ μ F S b hb Q q => ?_⟩
  exact k σ W ρ μ F S _ (qB_some hb) _ fun u W1 G1 x1 r1 => ⟨b, r1.1, q W1 x1⟩
/-! ### and, or, not -/
def bAnd (t u : FB) : FB := fun ρ μ => (t ρ μ).bind fun x => if x = true then u ρ μ else some false
def bOr (t u : FB) : FB := fun ρ μ => (t ρ μ).bind fun x => if x = true then some true else u ρ μ
def bNot (t : FB) : FB := fun ρ μ => (t ρ μ).map not
theorem PWB.pb (h : PWB X e t) : PB X e t := by
  obtain ⟨tt, p, k⟩ := h
  exact ⟨tt, p.pt, k⟩
theorem pw1_and (h : PB X a t) : PWB X (.BoolOp .And [a] pos) t := by
  obtain ⟨tt, p, k⟩ := h
  exact ⟨tt, pw_and1 p, k⟩
theorem pw1_or (h : PB X a t) : PWB X (.BoolOp .Or [a] pos) t := by
  obtain ⟨tt, p, k⟩ := h
  exact ⟨tt, pw_or1 p, k⟩
theorem pwb_and (ha : PB X a t) (hb : PWB X (.BoolOp .And (b :: es) pos) u) : PWB X (.BoolOp .And (a :: b :: es) pos) (bAnd t u) := by
  obtain ⟨t1, p1, k1⟩ := ha
  obtain ⟨t2, p2, k2⟩ := hb
  refine ⟨_, pw_and p1 p2, fun σ W ρ μ F S b hb Q q => ?_⟩
  obtain ⟨x, e1, hb⟩ := bind_some hb
  refine k1 σ W ρ μ F S x e1 _ fun W1 x1 => ?_
  cases x with
  | true =>
    rw [if_pos rfl] at hb ⊢
    exact k2 σ W1 ρ μ F (S.ext x1) b hb Q fun W2 x2 => q W2 (x1.trans x2)
  | false =>
    rw [if_neg Bool.false_ne_true] at hb ⊢
    cases hb
    exact q W1 x1
theorem pwb_or (ha : PB X a t) (hb : PWB X (.BoolOp .Or (b :: es) pos) u) : PWB X (.BoolOp .Or (a :: b :: es) pos) (bOr t u) := by
  obtain ⟨t1, p1, k1⟩ := ha
  obtain ⟨t2, p2, k2⟩ := hb
  refine ⟨_, pw_or p1 p2, fun σ W ρ μ F S b hb Q q => ?_⟩
  obtain ⟨x, e1, hb⟩ := bind_some hb
  refine k1 σ W ρ μ F S x e1 _ fun W1 x1 => ?_
  cases x with
  | true =>
    rw [if_pos rfl] at hb ⊢
    cases hb
    exact q W1 x1
  | false =>
    rw [if_neg Bool.false_ne_true] at hb ⊢
    exact k2 σ W1 ρ μ F (S.ext x1) b hb Q fun W2 x2 => q W2 (x1.trans x2)
theorem pb_not (ha : PB X a t) : PB X (.UnaryOp .Not a pos) (bNot t) := by
  obtain ⟨t1, p1, k1⟩ := ha
  refine ⟨_, pt_not p1, fun σ W ρ μ F S b hb Q q => ?_⟩
  unfold bNot at hb
  cases e : t ρ μ with
  | none => rw [e] at hb; cases hb
  | some x =>
    rw [e] at hb
    have z : (!x) = b := Option.some.inj hb
    subst z
    exact k1 σ W ρ μ F S x e _ fun W1 x1 => q W1 x1
/-- as values: the operands before the last are truths -/
def qAnd (f g : FQ) : FQ := fun ρ μ => match f ρ μ with
  | some (.bl true) => g ρ μ
  | some (.bl false) => some (.bl false)
  | _ => none
def qOr (f g : FQ) : FQ := fun ρ μ => match f ρ μ with
  | some (.bl false) => g ρ μ
  | some (.bl true) => some (.bl true)
  | _ => none
def qNot (f : FQ) : FQ := fun ρ μ => match f ρ μ with
  | some (.bl b) => some (.bl (!b))
  | _ => none
theorem pq_one {op} (h : PQ X a f) : PQ X (.BoolOp op [a] pos) f := by
  obtain ⟨t, p, k⟩ := h
  exact ⟨t, pe_one p, k⟩
theorem pq_and (ha : PQ X a f) (hb : PQ X (.BoolOp .And (b :: es) pos) g) : PQ X (.BoolOp .And (a :: b :: es) pos) (qAnd f g) := by
  obtain ⟨t1, p1, k1⟩ := ha
  obtain ⟨t2, p2, k2⟩ := hb
  refine ⟨_, pe_and p1 p2, fun σ W ρ μ F S d hd Q q => ?_⟩
  unfold qAnd at hd
  cases e : f ρ μ with
  | none => rw [e] at hd; cases hd
  | some x =>
    rw [e] at hd
    refine k1 σ W ρ μ F S x e _ fun v W1 G1 x1 r1 => ?_
    cases x with
    | bl c =>
      refine ⟨c, r1.1, ?_⟩
      cases c with
      | true =>
        rw [if_pos rfl]
        exact k2 σ W1 ρ μ F (S.ext x1) d hd Q fun v W2 G x2 r2 => q v W2 G (x1.trans x2) r2
      | false =>
        rw [if_neg Bool.false_ne_true]
        cases hd
        exact q _ W1 [] x1 ⟨rfl, rfl⟩
    | _ => cases hd
theorem pq_or (ha : PQ X a f) (hb : PQ X (.BoolOp .Or (b :: es) pos) g) : PQ X (.BoolOp .Or (a :: b :: es) pos) (qOr f g) := by
  obtain ⟨t1, p1, k1⟩ := ha
  obtain ⟨t2, p2, k2⟩ := hb
  refine ⟨_, pe_or p1 p2, fun σ W ρ μ F S d hd Q q => ?_⟩
  unfold qOr at hd
  cases e : f ρ μ with
  | none => rw [e] at hd; cases hd
  | some x =>
    rw [e] at hd
    refine k1 σ W ρ μ F S x e _ fun v W1 G1 x1 r1 => ?_
    cases x with
    | bl c =>
      refine ⟨c, r1.1, ?_⟩
      cases c with
      | true =>
        rw [if_pos rfl]
        cases hd
        exact q _ W1 [] x1 ⟨rfl, rfl⟩
      | false =>
        rw [if_neg Bool.false_ne_true]
        exact k2 σ W1 ρ μ F (S.ext x1) d hd Q fun v W2 G x2 r2 => q v W2 G (x1.trans x2) r2
    | _ => cases hd
theorem pq_not (ha : PQ X a f) : PQ X (.UnaryOp .Not a pos) (qNot f) := by
  obtain ⟨t1, p1, k1⟩ := ha
  refine ⟨_, pe_not p1, fun σ W ρ μ F S d hd Q q => ?_⟩
  unfold qNot at hd
  cases e : f ρ μ with
  | none => rw [e] at hd; cases hd
  | some x =>
    rw [e] at hd
    refine k1 σ W ρ μ F S x e _ fun v W1 G1 x1 r1 => ?_
    cases x with
    | bl c =>
      cases hd
      exact ⟨c, r1.1, q _ W1 [] x1 ⟨rfl, rfl⟩⟩
    | _ => cases hd
def qIf (t : FB) (f g : FQ) : FQ := fun ρ μ => (t ρ μ).bind fun x => if x = true then f ρ μ else g ρ μ
theorem pq_if (hc : PB X c t) (ha : PQ X a f) (hb : PQ X b g) : PQ X (.IfExp c a b pos) (qIf t f g) := by
  obtain ⟨t0, p0, k0⟩ := hc
  obtain ⟨t1, p1, k1⟩ := ha
  obtain ⟨t2, p2, k2⟩ := hb
  refine ⟨_, pe_ifExp p0 p1 p2, fun σ W ρ μ F S d hd Q q => ?_⟩
  obtain ⟨x, e1, hd⟩ := bind_some hd
  refine k0 σ W ρ μ F S x e1 _ fun W1 x1 => ?_
  cases x with
  | true =>
    rw [if_pos rfl] at hd ⊢
    exact k1 σ W1 ρ μ F (S.ext x1) d hd Q fun v W2 G x2 r2 => q v W2 G (x1.trans x2) r2
  | false =>
    rw [if_neg Bool.false_ne_true] at hd ⊢
    exact k2 σ W1 ρ μ F (S.ext x1) d hd Q fun v W2 G x2 r2 => q v W2 G (x1.trans x2) r2
/-! ### arguments, tuples, lists -/
def aNil : FA := fun _ _ => some []
def aCons (f : FQ) (k : FA) : FA := fun ρ μ => (f ρ μ).bind fun d => (k ρ μ).map fun ds => d :: ds
theorem paq_nil : PAQ X [] aNil := ⟨_, pa_nil, fun σ W ρ μ F S ds hd Q q => by
  cases hd
  exact q [] W [] (Ext.refl S.ok) ⟨rfl, rfl⟩⟩
theorem paq_cons {k : FA} (ha : PQ X e f) (hr : PAQ X es k) (hs : starEach (e :: es) X.env = (false, eval e X.env) :: starEach es X.env := by rfl) : PAQ X (e :: es) (aCons f k) := by
  obtain ⟨t1, p1, k1⟩ := ha
  obtain ⟨t2, p2, k2⟩ := hr
  refine ⟨_, pa_cons p1 p2 hs, fun σ W ρ μ F S ds hd Q q => ?_⟩
  obtain ⟨d, e1, hd⟩ := bind_some hd
  cases e2 : k ρ μ with
  | none => rw [e2] at hd; cases hd
  | some dr =>
    rw [e2] at hd
    cases hd
    refine k1 σ W ρ μ F S d e1 _ fun v W1 G1 x1 r1 => ?_
    refine k2 σ W1 ρ μ F (S.ext x1) dr e2 _ fun vs W2 G2 x2 r2 => ?_
    exact q _ W2 _ (x1.trans x2) ⟨v, vs, G1, G2, rfl, R_ext x2 d r1, r2, rfl⟩
/-- the lengths that are let by -/
def LIM : Nat := 1000000
theorem lim_ok {n : Nat} (h : n ≤ LIM) : n ≤ sizeLine := Nat.le_trans h (by decide)
theorem lim_lt {n : Nat} (h : n ≤ LIM) : n < sizeLine := Nat.lt_of_le_of_lt h (by decide)
def qTup (k : FA) : FQ := fun ρ μ => (k ρ μ).bind fun ds => if ds.length ≤ 100 then some (.tup ds) else none
theorem pq_tup {k : FA} {x1} (h : PAQ X es k) : PQ X (.Tuple es x1 pos) (qTup k) := by
  obtain ⟨t1, p1, k1⟩ := h
  refine ⟨_, pe_tup p1, fun σ W ρ μ F S d hd Q q => ?_⟩
  obtain ⟨ds, e1, hd⟩ := bind_some hd
  by_cases hl : ds.length ≤ 100
  · rw [if_pos hl] at hd
    cases hd
    refine k1 σ W ρ μ F S ds e1 _ fun vs W1 G1 x1 r1 => ⟨by rw [RL_len r1]; exact lim_ok (Nat.le_trans hl (by decide)), fun p hp => ?_⟩
    exact q _ (W1.put p (.tup vs)) G1 (x1.trans (Ext.put x1.ok hp)) (R_newT x1.ok hp r1)
  · rw [if_neg hl] at hd
    cases hd
/-- all of them data -/
def aData (k : FA) : FA := fun ρ μ => (k ρ μ).bind fun ds => if dataL ds = true ∧ ds.length ≤ 100 then some ds else none
theorem pn_lst {k : FA} (h : PAQ X es k) : PN X (.List es pos) (aData k) := by
  obtain ⟨t1, p1, k1⟩ := h
  refine ⟨_, pe_lst p1, fun σ W ρ μ F S d hd Q q => ?_⟩
  obtain ⟨ds, e1, hd⟩ := bind_some hd
  by_cases hl : dataL ds = true ∧ ds.length ≤ 100
  · rw [if_pos hl] at hd
    cases hd
    refine k1 σ W ρ μ F S d e1 _ fun vs W1 G1 x1 r1 => ⟨by rw [RL_len r1]; exact lim_ok (Nat.le_trans hl.2 (by decide)), fun p hp => ?_⟩
    have z := RL_data d hl.1 r1
    subst z
    exact q p (W1.put p (.lst vs)) ⟨x1.trans (Ext.put x1.ok hp), Evl.fresh_back x1.ex hp, fun z => x1.ok p z hp, vs, upd_same, RL_ext (Ext.put x1.ok hp) d r1⟩
  · rw [if_neg hl] at hd
    cases hd
/-- a new list as a value -/
def qN (k : FA) : FQ := fun ρ μ => (k ρ μ).map D.lst
theorem NewL.frz {K : PySem.W.Frag} {W W' : Wd} {ds : List D} {p : Addr} (h : NewL K W W' ds p) : Ext W ⟨W'.H, fun a => W'.Fr a ∨ a = p, W'.m⟩ ∧ R K ⟨W'.H, fun a => W'.Fr a ∨ a = p, W'.m⟩ (.lst ds) (.ref p) [] := by
  obtain ⟨x, new, nofr, vs, h1, h2⟩ := h
  refine ⟨⟨x.ex, fun a q => .inl (x.fr a q), fun a q => ?_, x.m, fun a q => ?_⟩, ?_⟩
  · rcases q with q | q
    · exact x.nf a q
    · exact .inr (by rw [q]; exact new)
  · rcases q with q | q
    · exact x.ok a q
    · show W'.H a ≠ none
      rw [q, h1]
      exact fun z => nomatch z
  · have lt : Lt W' ⟨W'.H, fun a => W'.Fr a ∨ a = p, W'.m⟩ := ⟨fun _ _ z => z, fun _ _ z => ⟨z.1, Or.inl z.2⟩, fun _ _ _ _ z z' => ⟨z, Or.inl z'⟩, fun _ _ z => z⟩
    exact ⟨p, vs, rfl, Or.inl ⟨Or.inl h1, Or.inr rfl⟩, RL_lt lt ds h2, rfl⟩
theorem PN.pq {k : FA} (h : PN X e k) : PQ X e (qN k) := by
  obtain ⟨t1, p1, k1⟩ := h
  refine ⟨_, p1, fun σ W ρ μ F S d hd Q q => ?_⟩
  unfold qN at hd
  cases e1 : k ρ μ with
  | none => rw [e1] at hd; cases hd
  | some ds =>
    rw [e1] at hd
    cases hd
    refine k1 σ W ρ μ F S ds e1 _ fun p W1 n => ?_
    obtain ⟨x, r⟩ := n.frz
    exact q _ ⟨W1.H, fun a => W1.Fr a ∨ a = p, W1.m⟩ [] x r
/-! ### items, slices -/
def IxD (X : Cx) (o : D → D → Option D) : Prop := ∃ r : R2, IxR X r ∧ ∀ (W : Wd) (x y : D) (u v : V) (G1 G2 : List Addr), WOk W → R X.K W x u G1 → R X.K W y v G2 → ∀ d, o x y = some d →
  ∀ Q : VK, (∀ v W' G, Ext W W' → R X.K W' d v G → Q v W'.H) → r u v W.H Q
theorem pq_ixr {o : D → D → Option D} (h : IxD X o) (ha : PQ X a f) (hb : PQ X b g) (hs : PlainIx b) : PQ X (.Subscript a b pos) (q2 o f g) := by
  obtain ⟨r, hr, h3⟩ := h
  obtain ⟨ta, pa, h1⟩ := ha
  obtain ⟨tb, pb, h2⟩ := hb
  exact ⟨_, pe_ix hr pa pb hs, run2 h1 h2 h3⟩
def ixAt {α : Type} (xs : List α) (i : Int) : Option α := if 0 ≤ i then xs[i.toNat]? else if -(xs.length : Int) ≤ i then xs[(i + xs.length).toNat]? else none
theorem ixAt_ok {α : Type} {xs : List α} {i : Int} {x : α} (h : ixAt xs i = some x) : atI xs i = some x := by
  unfold ixAt at h
  unfold atI ixN
  by_cases h0 : 0 ≤ i
  · rw [if_pos h0] at h ⊢
    have hl := (List.getElem?_eq_some_iff.mp h).1
    rw [if_pos (by omega)]
    exact h
  · rw [if_neg h0] at h ⊢
    by_cases h1 : -(xs.length : Int) ≤ i
    · rw [if_pos h1] at h ⊢
      exact h
    · rw [if_neg h1] at h
      cases h
theorem ixAt_map {α β : Type} (f : α → β) (xs : List α) (i : Int) : ixAt (xs.map f) i = (ixAt xs i).map f := by
  unfold ixAt
  rw [List.length_map]
  split
  · rw [List.getElem?_map]
  · split
    · rw [List.getElem?_map]
    · rfl
def dIx : D → D → Option D
  | .tup ds, .int i => ixAt ds i
  | .lst ds, .int i => ixAt ds i
  | .ml ds, .int i => ixAt ds i
  | .str s, .int i => if s.length ≤ LIM then (ixAt s i).map fun c => .str [c] else none
  | _, _ => none
theorem RL_ixAt {K : PySem.W.Frag} {W : Wd} {ds : List D} {vs : List V} {F : List Addr} {i : Int} {d : D} (h : RL K W ds vs F) (e : ixAt ds i = some d) : ∃ v G, atI vs i = some v ∧ R K W d v G := by
  have hl := RL_len h
  unfold ixAt at e
  have key : ∀ j : Nat, ds[j]? = some d → ∃ v G, vs[j]? = some v ∧ R K W d v G := fun j q => by
    obtain ⟨v, G, h1, h2, _⟩ := RL_get h q
    exact ⟨v, G, h1, h2⟩
  split at e
  · obtain ⟨v, G, h1, h2⟩ := key _ e
    refine ⟨v, G, ixAt_ok ?_, h2⟩
    unfold ixAt
    rw [if_pos (by assumption)]
    exact h1
  · split at e
    · obtain ⟨v, G, h1, h2⟩ := key _ e
      refine ⟨v, G, ixAt_ok ?_, h2⟩
      unfold ixAt
      rw [if_neg (by assumption), hl, if_pos (by assumption)]
      exact h1
    · cases e
theorem ixd_all : IxD X dIx := by
  refine ⟨_, ix_seq, fun W x y u v G1 G2 ok r1 r2 d hd Q q => ?_⟩
  cases y with
  | int i =>
    obtain ⟨rfl, _⟩ := r2
    cases x with
    | tup ds =>
      obtain ⟨a, vs, rfl, h2, h3⟩ := r1
      obtain ⟨w, G, e1, e2⟩ := RL_ixAt h3 hd
      exact .inr (.inl ⟨a, vs, i, w, rfl, rfl, h2, e1, q w W G (Ext.refl ok) e2⟩)
    | lst ds =>
      obtain ⟨a, vs, rfl, h2, h3, _⟩ := r1
      obtain ⟨w, G, e1, e2⟩ := RL_ixAt h3 hd
      exact .inl ⟨a, vs, i, w, rfl, rfl, h2.sq, e1, q w W G (Ext.refl ok) e2⟩
    | ml ds =>
      obtain ⟨a, vs, F', rfl, h2, h3, _⟩ := r1
      obtain ⟨w, G, e1, e2⟩ := RL_ixAt h3 hd
      exact .inl ⟨a, vs, i, w, rfl, rfl, Evl.sq_of h2, e1, q w W G (Ext.refl ok) e2⟩
    | str s =>
      obtain ⟨rfl, _⟩ := r1
      have hd2 : (if s.length ≤ LIM then (ixAt s i).map (fun c => D.str [c]) else none) = some d := hd
      by_cases hl : s.length ≤ LIM
      · rw [if_pos hl] at hd2
        cases e : ixAt s i with
        | none => rw [e] at hd2; cases hd2
        | some c =>
          rw [e] at hd2
          cases hd2
          exact .inr (.inr ⟨tr s, i, c, rfl, rfl, (by show s.toArray.size ≤ _; rw [List.size_toArray]; exact lim_ok hl), (by show atI s.toArray.toList i = some c; exact ixAt_ok e), q _ W [] (Ext.refl ok) ⟨rfl, rfl⟩⟩)
      · rw [if_neg hl] at hd2
        cases hd2
    | _ => cases hd
  | _ => cases x <;> cases hd
theorem pq_ix (ha : PQ X a f) (hb : PQ X b g) (hs : PlainIx b := by exact fun _ _ => rfl) : PQ X (.Subscript a b pos) (q2 dIx f g) := pq_ixr ixd_all ha hb hs
end
end Fw
/-! # operators on trees -/
namespace Fw
open PySem PySem.Spec PyProof.Rows L2
open Evl (Ex)
section
variable {X : Cx} {K : PySem.W.Frag}
/-! ### lists and their addresses -/
def asL : D → Option (List D)
  | .lst ds => some ds
  | .ml ds => if dataL ds = true then some ds else none
  | _ => none
theorem R_asL {W : Wd} {d : D} {ds : List D} {v : V} {G : List Addr} (h : asL d = some ds) (r : R K W d v G) : ∃ a vs, v = .ref a ∧ SqL K W.H a vs ∧ RL K W ds vs [] := by
  cases d with
  | lst es =>
    cases h
    obtain ⟨a, vs, h1, h2, h3, _⟩ := r
    exact ⟨a, vs, h1, h2.sq, h3⟩
  | ml es =>
    have h2 : (if dataL es = true then some es else none) = some ds := h
    by_cases hl : dataL es = true
    · rw [if_pos hl] at h2
      cases h2
      obtain ⟨a, vs, F', h1, h2, h3, _⟩ := r
      have z := RL_data ds hl h3
      subst z
      exact ⟨a, vs, h1, Evl.sq_of h2, h3⟩
    · rw [if_neg hl] at h2
      cases h2
  | _ => cases h
/-- list + list, each of them as it can be read -/
def rCatR (K : PySem.W.Frag) : R2 := fun x y H Q => ∃ l b xs zs, x = .ref l ∧ y = .ref b ∧ SqL K H l xs ∧ SqL K H b zs ∧ xs.length + zs.length ≤ sizeLine ∧ ∀ p, H p = none → Q (.ref p) (upd H p (.lst (xs ++ zs)))
theorem op_catR : OpR X (binaryOp .Add) (rCatR X.K) := by
  intro pins s σ H x y v u Q I rx ry h
  obtain ⟨l, b, xs, zs, rfl, rfl, hH, hB, hz, q⟩ := h
  cases rx
  cases ry
  obtain ⟨its, r, ⟨⟨c1, d1, t1, s1⟩, n, e, hc, hd, ht⟩, z⟩ := I.list hH
  obtain ⟨its2, r2, ⟨⟨c2, d2, t2, s2⟩, n2, e2, hc2, hd2, ht2⟩, z2⟩ := I.list hB
  simp only at hc hd ht hc2 hd2 ht2
  subst hc hd ht hc2 hd2 ht2
  have l1 := r.length
  have l2 := r2.length
  have ea : its.toArray ++ its2.toArray = (its ++ its2).toArray := by simp
  refine concat_meets ⟨_, e, rfl⟩ ⟨_, e2, rfl⟩ noFill_list_add seq_list_add PySem.F.slot_list_add PySem.F.entry_list_add (PySem.F.args_list_add_2 _ _) (list_addW l b its.toArray its2.toArray n n2 none none s1 s2 (by rw [List.size_toArray, List.size_toArray]; omega)) ⟨e, e2, ?_⟩
  rw [ea]
  exact ⟨.ref _, _, I.lnew (t' := s.toks) (r.append r2) (by rw [List.length_append]; omega), rfl, q _ I.fresh⟩
/-! ### + -/
def dAdd : D → D → Option D
  | .int i, .int j => some (.int (i + j))
  | .str a, .str b => if a.length + b.length ≤ LIM then some (.str (a ++ b)) else none
  | .tup a, .tup b => if a.length + b.length ≤ LIM ∧ dataL a = true ∧ dataL b = true then some (.tup (a ++ b)) else none
  | x, y => (asL x).bind fun a => (asL y).bind fun b => if a.length + b.length ≤ LIM then some (.lst (a ++ b)) else none
theorem tr_append (a b : List Nat) : tr a ++ tr b = tr (a ++ b) := by
  show Str.append (tr a) (tr b) = tr (a ++ b)
  unfold Str.append
  simp
theorem tr_length (a : List Nat) : (tr a).length = a.length := by
  show a.toArray.size = _
  rw [List.size_toArray]
theorem tr_inj {a b : List Nat} (h : tr a = tr b) : a = b := by
  have z : a.toArray = b.toArray := congrArg Str.cps h
  simpa using z
theorem opd_add : OpD X (binaryOp .Add) dAdd := by
  refine ⟨_, (op_add.or (op_add_str.or (op_catA.or op_catR))), fun W x y u v G1 G2 ok r1 r2 d hd Q q => ?_⟩
  have lists : ∀ {a b : List D}, asL x = some a → asL y = some b → (if a.length + b.length ≤ LIM then some (D.lst (a ++ b)) else none) = some d → rCatR X.K u v W.H Q := fun {a b} e1 e2 hd => by
    obtain ⟨p, vs, rfl, h2, h3⟩ := R_asL e1 r1
    obtain ⟨p', vs', rfl, h2', h3'⟩ := R_asL e2 r2
    by_cases hl : a.length + b.length ≤ LIM
    · rw [if_pos hl] at hd
      cases hd
      refine ⟨p, p', vs, vs', rfl, rfl, h2, h2', by rw [RL_len h3, RL_len h3']; exact lim_ok hl, fun z hz => ?_⟩
      exact q _ (W.frz z (vs ++ vs')) [] (Ext.frz ok hz) (R_newL ok hz (RL_app h3 h3'))
    · rw [if_neg hl] at hd
      cases hd
  have viaL : ((asL x).bind fun a => (asL y).bind fun b => if a.length + b.length ≤ LIM then some (D.lst (a ++ b)) else none) = some d → rCatR X.K u v W.H Q := fun h => by
    obtain ⟨a, e1, h⟩ := bind_some h
    obtain ⟨b, e2, h⟩ := bind_some h
    exact lists e1 e2 h
  cases x with
  | int i =>
    cases y with
    | int j =>
      cases hd
      obtain ⟨rfl, _⟩ := r1
      obtain ⟨rfl, _⟩ := r2
      exact .inl ⟨i, j, rfl, rfl, q _ W [] (Ext.refl ok) ⟨rfl, rfl⟩⟩
    | _ => cases hd
  | str a =>
    cases y with
    | str b =>
      obtain ⟨rfl, _⟩ := r1
      obtain ⟨rfl, _⟩ := r2
      have hd2 : (if a.length + b.length ≤ LIM then some (D.str (a ++ b)) else none) = some d := hd
      by_cases hl : a.length + b.length ≤ LIM
      · rw [if_pos hl] at hd2
        cases hd2
        exact .inr (.inl ⟨tr a, tr b, rfl, rfl, by rw [tr_length, tr_length]; exact lim_ok hl, q _ W [] (Ext.refl ok) ⟨by rw [tr_append], rfl⟩⟩)
      · rw [if_neg hl] at hd2
        cases hd2
    | _ => cases hd
  | tup a =>
    cases y with
    | tup b =>
      have hd2 : (if a.length + b.length ≤ LIM ∧ dataL a = true ∧ dataL b = true then some (D.tup (a ++ b)) else none) = some d := hd
      by_cases hl : a.length + b.length ≤ LIM ∧ dataL a = true ∧ dataL b = true
      · rw [if_pos hl] at hd2
        cases hd2
        obtain ⟨p, vs, rfl, h2, h3⟩ := r1
        obtain ⟨p', vs', rfl, h2', h3'⟩ := r2
        have z1 := RL_data a hl.2.1 h3
        have z2 := RL_data b hl.2.2 h3'
        subst z1
        subst z2
        have ln := RL_len h3
        have ln' := RL_len h3'
        refine .inr (.inr (.inl ⟨p, p', vs, vs', rfl, rfl, h2, h2', by rw [ln, ln']; exact lim_ok hl.1, fun e => ?_, fun e1 e2 => ?_, fun e1 e2 z hz => ?_⟩))
        · have ea : a = [] := by
            rw [e] at ln
            exact List.length_eq_zero_iff.mp ln.symm
          subst ea
          exact q _ W [] (Ext.refl ok) ⟨p', vs', rfl, h2', h3'⟩
        · have eb : b = [] := by
            rw [e2] at ln'
            exact List.length_eq_zero_iff.mp ln'.symm
          subst eb
          rw [List.append_nil] at q
          exact q _ W [] (Ext.refl ok) ⟨p, vs, rfl, h2, h3⟩
        · exact q _ (W.put z (.tup (vs ++ vs'))) [] (Ext.put ok hz) (R_newT ok hz (RL_app h3 h3'))
      · rw [if_neg hl] at hd2
        cases hd2
    | _ => cases hd
  | lst a =>
    have hd2 : ((asL (.lst a)).bind fun a => (asL y).bind fun b => if a.length + b.length ≤ LIM then some (D.lst (a ++ b)) else none) = some d := by cases y <;> exact hd
    exact .inr (.inr (.inr (viaL hd2)))
  | ml a =>
    have hd2 : ((asL (.ml a)).bind fun a => (asL y).bind fun b => if a.length + b.length ≤ LIM then some (D.lst (a ++ b)) else none) = some d := by cases y <;> exact hd
    exact .inr (.inr (.inr (viaL hd2)))
  | _ => cases y <;> cases hd
/-! ### ints -/
def dInt (C : Int → Int → Bool) (g : Int → Int → D) : D → D → Option D
  | .int i, .int j => if C i j = true then some (g i j) else none
  | _, _ => none
theorem opd_int {op : Value → Value → Sem Value} {P : Int → Int → Prop} {f : Int → Int → V} {C : Int → Int → Bool} {g : Int → Int → D} (h : OpR X op (rI P f)) (hc : ∀ i j, C i j = true → P i j) (hg : ∀ (W : Wd) i j, R X.K W (g i j) (f i j) []) : OpD X op (dInt C g) := by
  refine ⟨_, h, fun W x y u v G1 G2 ok r1 r2 d hd Q q => ?_⟩
  cases x with
  | int i =>
    cases y with
    | int j =>
      obtain ⟨rfl, _⟩ := r1
      obtain ⟨rfl, _⟩ := r2
      have hd2 : (if C i j = true then some (g i j) else none) = some d := hd
      by_cases hl : C i j = true
      · rw [if_pos hl] at hd2
        cases hd2
        exact ⟨i, j, rfl, rfl, hc i j hl, q _ W [] (Ext.refl ok) (hg W i j)⟩
      · rw [if_neg hl] at hd2
        cases hd2
    | _ => cases hd
  | _ => cases y <;> cases hd
theorem opd_int0 {op : Value → Value → Sem Value} {f : Int → Int → V} {g : Int → Int → D} (h : OpR X op (rI0 f)) (hg : ∀ (W : Wd) i j, R X.K W (g i j) (f i j) []) : OpD X op (dInt (fun _ _ => true) g) := by
  refine ⟨_, h, fun W x y u v G1 G2 ok r1 r2 d hd Q q => ?_⟩
  cases x with
  | int i =>
    cases y with
    | int j =>
      obtain ⟨rfl, _⟩ := r1
      obtain ⟨rfl, _⟩ := r2
      cases hd
      exact ⟨i, j, rfl, rfl, q _ W [] (Ext.refl ok) (hg W i j)⟩
    | _ => cases hd
  | _ => cases y <;> cases hd
abbrev dSub := dInt (fun _ _ => true) fun i j => .int (i - j)
def cMul (i j : Int) : Bool := decide ((-18446744073709551616 < i ∧ i < 18446744073709551616) ∨ (-18446744073709551616 < j ∧ j < 18446744073709551616))
abbrev dMul := dInt cMul fun i j => .int (i * j)
abbrev dMod := dInt (fun _ j => decide (0 < j)) fun i j => .int (i % j)
abbrev dFdiv := dInt (fun _ j => decide (0 < j ∧ j < 1073741824)) fun i j => .int (i / j)
theorem opd_sub : OpD X (binaryOp .Sub) dSub := opd_int0 op_sub fun _ _ _ => ⟨rfl, rfl⟩
theorem opd_mul : OpD X (binaryOp .Mult) dMul := opd_int op_mul (fun i j h => by
  have z : (-18446744073709551616 < i ∧ i < 18446744073709551616) ∨ (-18446744073709551616 < j ∧ j < 18446744073709551616) := of_decide_eq_true h
  unfold CMul
  omega) fun _ _ _ => ⟨rfl, rfl⟩
theorem opd_mod : OpD X (binaryOp .Mod) dMod := opd_int op_mod (fun i j h => of_decide_eq_true h) fun _ _ _ => ⟨rfl, rfl⟩
theorem opd_fdiv : OpD X (binaryOp .FloorDiv) dFdiv := opd_int op_fdiv (fun i j h => by
  have z : 0 < j ∧ j < 1073741824 := of_decide_eq_true h
  exact z) fun _ _ _ => ⟨rfl, rfl⟩
abbrev dPow := dInt (fun i j => decide (0 ≤ j ∧ j ≤ 1000 ∧ i.natAbs < 18446744073709551616)) fun i j => .int (i ^ j.toNat)
theorem opd_pow : OpD X (binaryOp .Pow) dPow := opd_int op_pow (fun i j h => by
  obtain ⟨h1, h2, h3⟩ := of_decide_eq_true h
  exact ⟨h1, by omega, h3⟩) fun _ _ _ => ⟨rfl, rfl⟩
/-! ### comparisons by order -/
theorem opd_or {op : Value → Value → Sem Value} {o o' : D → D → Option D} (h : OpD X op o) (h' : OpD X op o') : OpD X op (fun x y => match o x y with | some d => some d | none => o' x y) := by
  obtain ⟨r, hr, k⟩ := h
  obtain ⟨r', hr', k'⟩ := h'
  refine ⟨_, hr.or hr', fun W x y u v G1 G2 ok r1 r2 d hd Q q => ?_⟩
  dsimp only at hd
  cases e : o x y with
  | some d0 =>
    rw [e] at hd
    cases hd
    exact .inl (k W x y u v G1 G2 ok r1 r2 _ e Q q)
  | none =>
    rw [e] at hd
    exact .inr (k' W x y u v G1 G2 ok r1 r2 _ hd Q q)
theorem opd_is {op : Value → Value → Sem Value} {o o' : D → D → Option D} (h : OpD X op o) (e : ∀ x y d, o' x y = some d → o x y = some d) : OpD X op o' := by
  obtain ⟨r, hr, k⟩ := h
  exact ⟨r, hr, fun W x y u v G1 G2 ok r1 r2 d hd Q q => k W x y u v G1 G2 ok r1 r2 d (e x y d hd) Q q⟩
/-- both texts -/
def dStr2 (g : List Nat → List Nat → D) : D → D → Option D
  | .str a, .str b => some (g a b)
  | _, _ => none
theorem opd_str2 {op : Value → Value → Sem Value} {f : Str → Str → V} {g : List Nat → List Nat → D} (h : OpR X op (fun x y H Q => ∃ i j, x = .str i ∧ y = .str j ∧ Q (f i j) H)) (hg : ∀ (W : Wd) a b, R X.K W (g a b) (f (tr a) (tr b)) []) : OpD X op (dStr2 g) := by
  refine ⟨_, h, fun W x y u v G1 G2 ok r1 r2 d hd Q q => ?_⟩
  cases x with
  | str i =>
    cases y with
    | str j =>
      obtain ⟨rfl, _⟩ := r1
      obtain ⟨rfl, _⟩ := r2
      cases hd
      exact ⟨_, _, rfl, rfl, q _ W [] (Ext.refl ok) (hg W i j)⟩
    | _ => cases hd
  | _ => cases y <;> cases hd
def dLt : D → D → Option D
  | .int i, .int j => some (.bl (decide (i < j)))
  | .str a, .str b => some (.bl (decide (a < b)))
  | _, _ => none
def dLe : D → D → Option D
  | .int i, .int j => some (.bl (decide (i ≤ j)))
  | .str a, .str b => some (.bl (!decide (b < a)))
  | _, _ => none
def dGt : D → D → Option D
  | .int i, .int j => some (.bl (decide (j < i)))
  | .str a, .str b => some (.bl (decide (b < a)))
  | _, _ => none
def dGe : D → D → Option D
  | .int i, .int j => some (.bl (decide (j ≤ i)))
  | .str a, .str b => some (.bl (!decide (a < b)))
  | _, _ => none
theorem opd_lt : OpD X (compareOp .Lt) dLt := opd_is (opd_or (opd_int0 (g := fun i j => .bl (decide (i < j))) op_lt fun _ _ _ => ⟨rfl, rfl⟩) (opd_str2 (g := fun a b => .bl (decide (a < b))) op_lt_str fun _ _ _ => ⟨rfl, rfl⟩))
  fun x y d h => by cases x <;> cases y <;> first | exact h | cases h
theorem opd_le : OpD X (compareOp .LtE) dLe := opd_is (opd_or (opd_int0 (g := fun i j => .bl (decide (i ≤ j))) op_le fun _ _ _ => ⟨rfl, rfl⟩) (opd_str2 (g := fun a b => .bl (!decide (b < a))) op_le_str fun _ _ _ => ⟨rfl, rfl⟩))
  fun x y d h => by cases x <;> cases y <;> first | exact h | cases h
theorem opd_gt : OpD X (compareOp .Gt) dGt := opd_is (opd_or (opd_int0 (g := fun i j => .bl (decide (j < i))) op_gt fun _ _ _ => ⟨rfl, rfl⟩) (opd_str2 (g := fun a b => .bl (decide (b < a))) op_gt_str fun _ _ _ => ⟨rfl, rfl⟩))
  fun x y d h => by cases x <;> cases y <;> first | exact h | cases h
theorem opd_ge : OpD X (compareOp .GtE) dGe := opd_is (opd_or (opd_int0 (g := fun i j => .bl (decide (j ≤ i))) op_ge fun _ _ _ => ⟨rfl, rfl⟩) (opd_str2 (g := fun a b => .bl (!decide (a < b))) op_ge_str fun _ _ _ => ⟨rfl, rfl⟩))
  fun x y d h => by cases x <;> cases y <;> first | exact h | cases h
/-! ### equality -/
def atom : D → Option V
  | .non => some .non
  | .bl b => some (.bl b)
  | .int i => some (.int i)
  | .str s => some (.str (tr s))
  | _ => none
theorem R_atom {W : Wd} {d : D} {u v : V} {G : List Addr} (h : atom d = some u) (r : R K W d v G) : v = u := by
  cases d <;> first
    | (cases h; exact r.1)
    | cases h
mutual
def toP : D → Option PyData
  | .non => some .none
  | .bl b => some (.bool b)
  | .int i => some (.int i)
  | .str s => some (.str (tr s))
  | .tup ds => (toPL ds).map .tuple
  | .lst ds => (toPL ds).map .list
  | .ml ds => (toPL ds).map .list
  | _ => none
def toPL : List D → Option (List PyData)
  | [] => some []
  | d :: ds => (toP d).bind fun p => (toPL ds).map fun ps => p :: ps
end
theorem map_some {α β : Type} {o : Option α} {k : α → β} {z : β} (h : o.map k = some z) : ∃ x, o = some x ∧ k x = z := by
  cases o with
  | none => cases h
  | some x => exact ⟨x, rfl, Option.some.inj h⟩
mutual
theorem R_dp {W : Wd} : ∀ (d : D) {p : PyData} {v : V} {G : List Addr}, toP d = some p → R K W d v G → Dp K W.H v p
  | .non, _, _, _, h, r => by cases h; rw [r.1]; exact .non
  | .bl b, _, _, _, h, r => by cases h; rw [r.1]; exact .bl b
  | .int i, _, _, _, h, r => by cases h; rw [r.1]; exact .int i
  | .str s, _, _, _, h, r => by cases h; rw [r.1]; exact .str _
  | .tup ds, _, _, _, h, r => by
    obtain ⟨ps, e, z⟩ := map_some h
    obtain ⟨a, vs, h1, h2, h3⟩ := r
    rw [← z, h1]
    exact .tup h2 (RL_dp ds e h3)
  | .lst ds, _, _, _, h, r => by
    obtain ⟨ps, e, z⟩ := map_some h
    obtain ⟨a, vs, h1, h2, h3, _⟩ := r
    rw [← z, h1]
    exact .lst h2.sq (RL_dp ds e h3)
  | .ml ds, _, _, _, h, r => by
    obtain ⟨ps, e, z⟩ := map_some h
    obtain ⟨a, vs, F', h1, h2, h3, _⟩ := r
    rw [← z, h1]
    exact .lst (Evl.sq_of h2) (RL_dp ds e h3)
  | .obj _ _ _, _, _, _, h, _ => by cases h
  | .ref _, _, _, _, h, _ => by cases h
  | .un, _, _, _, h, _ => by cases h
theorem RL_dp {W : Wd} : ∀ (ds : List D) {ps : List PyData} {vs : List V} {G : List Addr}, toPL ds = some ps → RL K W ds vs G → DpAll K W.H vs ps
  | [], _, _, _, h, r => by
    cases h
    rw [r.1]
    exact .nil
  | d :: ds, _, _, _, h, r => by
    obtain ⟨p, e1, h⟩ := bind_some h
    obtain ⟨ps, e2, z⟩ := map_some h
    obtain ⟨v, vs', F1, F2, h1, h2, h3, _⟩ := r
    rw [← z, h1]
    exact .cons (R_dp d e1 h2) (RL_dp ds e2 h3)
end
def eqDB (x y : D) : Option Bool := match atom x, atom y with
  | some u, some v => if scal u v = true then some (decide (u = v)) else none
  | _, _ => (toP x).bind fun p => (toP y).bind fun q => if SeqAt.shaped p = true ∧ SeqAt.shaped q = true then some (PyData.eqv p q) else none
def dEq (x y : D) : Option D := (eqDB x y).map D.bl
def dNe (x y : D) : Option D := (eqDB x y).map fun b => D.bl (!b)
theorem opd_eq {k : Nat} (hr : Room k X.A) : OpD X (compareOp .Eq) dEq := by
  refine ⟨_, op_eq.or (op_eqD hr.units), fun W x y u v G1 G2 ok r1 r2 d hd Q q => ?_⟩
  obtain ⟨b, hb, z⟩ := map_some hd
  subst z
  have alt : ((toP x).bind fun p => (toP y).bind fun q => if SeqAt.shaped p = true ∧ SeqAt.shaped q = true then some (PyData.eqv p q) else none) = some b → rEqD X.K u v W.H Q := fun h => by
    obtain ⟨p, e1, h⟩ := bind_some h
    obtain ⟨p', e2, h⟩ := bind_some h
    by_cases hs : SeqAt.shaped p = true ∧ SeqAt.shaped p' = true
    · rw [if_pos hs] at h
      cases h
      exact ⟨p, p', R_dp x e1 r1, R_dp y e2 r2, hs.1, hs.2, q _ W [] (Ext.refl ok) ⟨rfl, rfl⟩⟩
    · rw [if_neg hs] at h
      cases h
  unfold eqDB at hb
  cases ea : atom x with
  | none => rw [ea] at hb; exact .inr (alt hb)
  | some a =>
    cases ec : atom y with
    | none => rw [ea, ec] at hb; exact .inr (alt hb)
    | some c =>
      rw [ea, ec] at hb
      have hb2 : (if scal a c = true then some (decide (a = c)) else none) = some b := hb
      by_cases hs : scal a c = true
      · rw [if_pos hs] at hb2
        cases hb2
        rw [R_atom ea r1, R_atom ec r2]
        exact .inl ⟨hs, q _ W [] (Ext.refl ok) ⟨rfl, rfl⟩⟩
      · rw [if_neg hs] at hb2
        cases hb2
theorem opd_ne {k : Nat} (hr : Room k X.A) : OpD X (compareOp .NotEq) dNe := by
  refine ⟨_, op_ne.or (op_neD hr.units), fun W x y u v G1 G2 ok r1 r2 d hd Q q => ?_⟩
  obtain ⟨b, hb, z⟩ := map_some hd
  subst z
  have alt : ((toP x).bind fun p => (toP y).bind fun q => if SeqAt.shaped p = true ∧ SeqAt.shaped q = true then some (PyData.eqv p q) else none) = some b → rNeD X.K u v W.H Q := fun h => by
    obtain ⟨p, e1, h⟩ := bind_some h
    obtain ⟨p', e2, h⟩ := bind_some h
    by_cases hs : SeqAt.shaped p = true ∧ SeqAt.shaped p' = true
    · rw [if_pos hs] at h
      cases h
      exact ⟨p, p', R_dp x e1 r1, R_dp y e2 r2, hs.1, hs.2, q _ W [] (Ext.refl ok) ⟨rfl, rfl⟩⟩
    · rw [if_neg hs] at h
      cases h
  unfold eqDB at hb
  cases ea : atom x with
  | none => rw [ea] at hb; exact .inr (alt hb)
  | some a =>
    cases ec : atom y with
    | none => rw [ea, ec] at hb; exact .inr (alt hb)
    | some c =>
      rw [ea, ec] at hb
      have hb2 : (if scal a c = true then some (decide (a = c)) else none) = some b := hb
      by_cases hs : scal a c = true
      · rw [if_pos hs] at hb2
        cases hb2
        rw [R_atom ea r1, R_atom ec r2]
        exact .inl ⟨hs, q _ W [] (Ext.refl ok) ⟨rfl, rfl⟩⟩
      · rw [if_neg hs] at hb2
        cases hb2
/-! ### is None, is a truth -/
def isNonD : D → Bool
  | .non => true
  | _ => false
theorem R_isNon {W : Wd} {d : D} {v : V} {G : List Addr} (r : R K W d v G) : decide (v = .non) = isNonD d := by
  cases d with
  | non => rw [r.1]; exact decide_eq_true rfl
  | bl _ => rw [r.1]; exact decide_eq_false fun z => nomatch z
  | int _ => rw [r.1]; exact decide_eq_false fun z => nomatch z
  | str _ => rw [r.1]; exact decide_eq_false fun z => nomatch z
  | tup _ => obtain ⟨a, vs, rfl, _⟩ := r; exact decide_eq_false fun z => nomatch z
  | lst _ => obtain ⟨a, vs, rfl, _⟩ := r; exact decide_eq_false fun z => nomatch z
  | ml _ => obtain ⟨a, vs, F', rfl, _⟩ := r; exact decide_eq_false fun z => nomatch z
  | obj _ _ _ => obtain ⟨a, dx, vs, F', rfl, _⟩ := r; exact decide_eq_false fun z => nomatch z
  | fo _ _ _ => obtain ⟨a, dx, vs, rfl, _⟩ := r; exact decide_eq_false fun z => nomatch z
  | ref _ => obtain ⟨a, rfl, _⟩ := r; exact decide_eq_false fun z => nomatch z
  | un => exact r.elim
def isDB : D → D → Option Bool
  | x, .non => some (isNonD x)
  | .bl a, .bl b => some (decide (a = b))
  | _, _ => none
def dIs (x y : D) : Option D := (isDB x y).map D.bl
def dIsNot (x y : D) : Option D := (isDB x y).map fun b => D.bl (!b)
end
end Fw
/-! # is, in, slices, built-ins, methods of texts -/
namespace Fw
open PySem PySem.Spec PyProof.Rows L2
open Evl (Ex)
section
variable {X : Cx} {K : PySem.W.Frag}
theorem opd_is_ : OpD X (compareOp .Is) dIs := by
  refine ⟨_, (op_isN (X := X)).or op_isBl, fun W x y u v G1 G2 ok r1 r2 d hd Q q => ?_⟩
  obtain ⟨b, hb, z⟩ := map_some hd
  subst z
  cases y with
  | non =>
    have hb2 : some (isNonD x) = some b := by cases x <;> exact hb
    cases hb2
    refine .inl ⟨r2.1, q _ W [] (Ext.refl ok) ⟨by rw [R_isNon r1], rfl⟩⟩
  | bl c =>
    cases x with
    | bl a =>
      cases hb
      exact .inr ⟨a, c, r1.1, r2.1, q _ W [] (Ext.refl ok) ⟨rfl, rfl⟩⟩
    | _ => cases hb
  | _ => cases x <;> cases hb
theorem opd_isnot : OpD X (compareOp .IsNot) dIsNot := by
  refine ⟨_, (op_notN (X := X)).or op_notBl, fun W x y u v G1 G2 ok r1 r2 d hd Q q => ?_⟩
  obtain ⟨b, hb, z⟩ := map_some hd
  subst z
  cases y with
  | non =>
    have hb2 : some (isNonD x) = some b := by cases x <;> exact hb
    cases hb2
    refine .inl ⟨r2.1, q _ W [] (Ext.refl ok) ⟨by rw [R_isNon r1], rfl⟩⟩
  | bl c =>
    cases x with
    | bl a =>
      cases hb
      exact .inr ⟨a, c, r1.1, r2.1, q _ W [] (Ext.refl ok) ⟨rfl, rfl⟩⟩
    | _ => cases hb
  | _ => cases x <;> cases hb
/-! ### in -/
def atoms : List D → Option (List V)
  | [] => some []
  | d :: ds => (atom d).bind fun u => (atoms ds).map fun us => u :: us
theorem R_atoms {W : Wd} : ∀ {ds : List D} {us vs : List V} {G : List Addr}, atoms ds = some us → RL K W ds vs G → vs = us
  | [], _, _, _, h, r => by
    cases h
    exact r.1
  | d :: ds, _, _, _, h, r => by
    obtain ⟨u, e1, h⟩ := bind_some h
    obtain ⟨us, e2, z⟩ := map_some h
    obtain ⟨v, vs', F1, F2, h1, h2, h3, _⟩ := r
    rw [← z, h1, R_atom e1 h2, R_atoms e2 h3]
theorem flat_atom {d : D} {u : V} (h : atom d = some u) : flatV u = true := by
  cases d <;> first
    | (cases h; rfl)
    | cases h
theorem flat_atoms : ∀ {ds : List D} {us : List V}, atoms ds = some us → us.all flatV = true
  | [], _, h => by
    cases h
    rfl
  | d :: ds, _, h => by
    obtain ⟨u, e1, h⟩ := bind_some h
    obtain ⟨us, e2, z⟩ := map_some h
    rw [← z, List.all_cons, flat_atom e1, flat_atoms e2]
    rfl
/-- the items of a list or a tuple -/
def seqD : D → Option (List D)
  | .lst ds => some ds
  | .ml ds => some ds
  | .tup ds => some ds
  | _ => none
theorem R_seq {W : Wd} {d : D} {ds : List D} {v : V} {G : List Addr} (h : seqD d = some ds) (r : R K W d v G) : ∃ a vs G', v = .ref a ∧ (SqL K W.H a vs ∨ SqT K W.H a vs) ∧ RL K W ds vs G' := by
  cases d with
  | lst es =>
    cases h
    obtain ⟨a, vs, h1, h2, h3, _⟩ := r
    exact ⟨a, vs, _, h1, .inl h2.sq, h3⟩
  | ml es =>
    cases h
    obtain ⟨a, vs, F', h1, h2, h3, _⟩ := r
    exact ⟨a, vs, _, h1, .inl (Evl.sq_of h2), h3⟩
  | tup es =>
    cases h
    obtain ⟨a, vs, h1, h2, h3⟩ := r
    exact ⟨a, vs, _, h1, .inr h2, h3⟩
  | _ => cases h
def inSeq (x y : D) : Option Bool := (seqD y).bind fun ds => (atom x).bind fun u => (atoms ds).map fun us => inV u us
def inDB (x y : D) : Option Bool := match x, y with
  | .str [c], .str z => some (decide (c ∈ z))
  | _, _ => inSeq x y
def dIn (x y : D) : Option D := (inDB x y).map D.bl
def dNotIn (x y : D) : Option D := (inDB x y).map fun b => D.bl (!b)
theorem inSeq_ok {W : Wd} {x y : D} {u v : V} {G1 G2 : List Addr} {b : Bool} (h : inSeq x y = some b) (r1 : R K W x u G1) (r2 : R K W y v G2) :
    ∃ p xs, v = .ref p ∧ (SqL K W.H p xs ∨ SqT K W.H p xs) ∧ flatV u = true ∧ xs.all flatV = true ∧ inV u xs = b := by
  obtain ⟨ds, e1, h⟩ := bind_some h
  obtain ⟨a, e2, h⟩ := bind_some h
  obtain ⟨us, e3, z⟩ := map_some h
  obtain ⟨p, vs, G', h1, h2, h3⟩ := R_seq e1 r2
  have ev := R_atoms e3 h3
  have eu := R_atom e2 r1
  subst ev
  subst eu
  exact ⟨p, vs, h1, h2, flat_atom e2, flat_atoms e3, z⟩
theorem inDB_cases {x y : D} {b : Bool} (h : inDB x y = some b) : (∃ c z, x = .str [c] ∧ y = .str z ∧ decide (c ∈ z) = b) ∨ inSeq x y = some b := by
  unfold inDB at h
  split at h
  · exact .inl ⟨_, _, rfl, rfl, Option.some.inj h⟩
  · exact .inr h
theorem opd_in : OpD X (compareOp .In) dIn := by
  refine ⟨_, (op_in_sign (X := X)).or op_in_seq, fun W x y u v G1 G2 ok r1 r2 d hd Q q => ?_⟩
  obtain ⟨b, hb, z⟩ := map_some hd
  subst z
  rcases inDB_cases hb with ⟨c, z, rfl, rfl, e⟩ | h
  · exact .inl ⟨c, tr z, r1.1, r2.1, q _ W [] (Ext.refl ok) ⟨by rw [← e] <;> rfl, rfl⟩⟩
  · obtain ⟨p, xs, h1, h2, h3, h4, h5⟩ := inSeq_ok h r1 r2
    exact .inr ⟨p, xs, h1, h2, h3, h4, q _ W [] (Ext.refl ok) ⟨by rw [← h5] <;> rfl, rfl⟩⟩
theorem opd_notin : OpD X (compareOp .NotIn) dNotIn := by
  refine ⟨_, (op_notIn_sign (X := X)).or op_notIn_seq, fun W x y u v G1 G2 ok r1 r2 d hd Q q => ?_⟩
  obtain ⟨b, hb, z⟩ := map_some hd
  subst z
  rcases inDB_cases hb with ⟨c, z, rfl, rfl, e⟩ | h
  · exact .inl ⟨c, tr z, r1.1, r2.1, q _ W [] (Ext.refl ok) ⟨by rw [← e] <;> rfl, rfl⟩⟩
  · obtain ⟨p, xs, h1, h2, h3, h4, h5⟩ := inSeq_ok h r1 r2
    exact .inr ⟨p, xs, h1, h2, h3, h4, q _ W [] (Ext.refl ok) ⟨by rw [← h5] <;> rfl, rfl⟩⟩
/-! ### slices -/
abbrev FO := List D → List D → Option (Option Int)
def POQ (X : Cx) (e : Option Expr) (f : FO) : Prop := ∃ to : TO, PO X e to ∧ ∀ (σ : L2.St) (W : Wd) (ρ μ : List D) (F : List Addr), Sta X.K W σ ρ μ F → ∀ o, f ρ μ = some o →
  ∀ Q : Option Int → Hp → Prop, (∀ W', Ext W W' → Q o W'.H) → to σ W.H Q
def oNone : FO := fun _ _ => some none
def oSome (f : FQ) : FO := fun ρ μ => match f ρ μ with
  | some (.int i) => some (some i)
  | _ => none
theorem poq_none : POQ X none oNone := ⟨_, po_none, fun σ W ρ μ F S o ho Q q => by
  cases ho
  exact q W (Ext.refl S.ok)⟩
theorem poq_some {e : Expr} {f : FQ} (h : PQ X e f) : POQ X (some e) (oSome f) := by
  obtain ⟨t1, p1, k1⟩ := h
  refine ⟨_, po_some p1, fun σ W ρ μ F S o ho Q q => ?_⟩
  unfold oSome at ho
  cases e1 : f ρ μ with
  | none => rw [e1] at ho; cases ho
  | some d =>
    rw [e1] at ho
    refine k1 σ W ρ μ F S d e1 _ fun v W1 G1 x1 r1 => ?_
    cases d with
    | int i =>
      cases ho
      exact ⟨i, r1.1, q W1 x1⟩
    | _ => cases ho
def cut {α : Type} (xs : List α) (lo hi : Option Int) : List α := (xs.drop (HT.sIx xs.length 0 lo)).take (HT.sIx xs.length xs.length hi - HT.sIx xs.length 0 lo)
def dSl (x : D) (lo hi : Option Int) : Option D := match x with
  | .str s => if s.length ≤ LIM then some (.str (cut s lo hi)) else none
  | .tup ds => if dataL ds = true then some (.tup (cut ds lo hi)) else none
  | x => (asL x).map fun ds => .lst (cut ds lo hi)
def qSl (f : FQ) (lo hi : FO) : FQ := fun ρ μ => (f ρ μ).bind fun x => (lo ρ μ).bind fun l => (hi ρ μ).bind fun h => dSl x l h
theorem RL_cut {W : Wd} {ds : List D} {vs : List V} {lo hi : Option Int} (h : RL K W ds vs []) : RL K W (cut ds lo hi) (cutV vs lo hi) [] := by
  have hl := RL_len h
  unfold cut cutV
  rw [hl]
  exact RL_take (RL_drop h)
theorem cut_all {α : Type} {xs : List α} {lo hi : Option Int} (h : HT.sIx xs.length 0 lo = 0 ∧ HT.sIx xs.length xs.length hi = xs.length) : cut xs lo hi = xs := by
  unfold cut
  rw [h.1, h.2, List.drop_zero, Nat.sub_zero, List.take_length]
theorem pq_sl {e : Expr} {lo hi : Option Expr} {f : FQ} {l h : FO} {pos p2 : Pos} (he : PQ X e f) (hl : POQ X lo l) (hh : POQ X hi h) : PQ X (.Subscript e (.Slice lo hi none p2) pos) (qSl f l h) := by
  obtain ⟨t1, p1, k1⟩ := he
  obtain ⟨t2, p2', k2⟩ := hl
  obtain ⟨t3, p3, k3⟩ := hh
  refine ⟨_, pe_slice (sl_list.or (sl_tupA.or sl_str)) p1 p2' p3, fun σ W ρ μ F S d hd Q q => ?_⟩
  obtain ⟨x, e1, hd⟩ := bind_some hd
  obtain ⟨li, e2, hd⟩ := bind_some hd
  obtain ⟨hi', e3, hd⟩ := bind_some hd
  refine k1 σ W ρ μ F S x e1 _ fun v W1 G1 x1 r1 => ?_
  refine k2 σ W1 ρ μ F (S.ext x1) li e2 _ fun W2 x2 => ?_
  refine k3 σ W2 ρ μ F ((S.ext x1).ext x2) hi' e3 _ fun W3 x3 => ?_
  have r3 := R_ext (x2.trans x3) x r1
  have x13 := (x1.trans x2).trans x3
  have viaL : ((asL x).map fun ds => D.lst (cut ds li hi')) = some d → rSlL X.K v li hi' W3.H Q := fun hd => by
    obtain ⟨ds, e4, z⟩ := map_some hd
    subst z
    obtain ⟨a, vs, rfl, h2, h3⟩ := R_asL e4 r3
    exact ⟨a, vs, rfl, h2, fun p hp => q _ (W3.frz p (cutV vs li hi')) [] (x13.trans (Ext.frz x3.ok hp)) (R_newL x3.ok hp (RL_cut h3))⟩
  cases x with
  | str s =>
    have hd2 : (if s.length ≤ LIM then some (D.str (cut s li hi')) else none) = some d := hd
    by_cases hl : s.length ≤ LIM
    · rw [if_pos hl] at hd2
      cases hd2
      refine .inr (.inr ⟨tr s, r3.1, by rw [tr_length]; exact lim_ok hl, q _ W3 [] x13 ⟨?_, rfl⟩⟩)
      show V.str (cutS (tr s) li hi') = V.str (tr (cut s li hi'))
      unfold cutS cut
      rw [tr_length]
    · rw [if_neg hl] at hd2
      cases hd2
  | tup ds =>
    have hd2 : (if dataL ds = true then some (D.tup (cut ds li hi')) else none) = some d := hd
    by_cases hl : dataL ds = true
    · rw [if_pos hl] at hd2
      cases hd2
      obtain ⟨a, vs, rfl, h2, h3⟩ := r3
      have z := RL_data ds hl h3
      subst z
      have ln := RL_len h3
      refine .inr (.inl ⟨a, vs, rfl, h2, fun hw => ?_, fun hw p hp => ?_⟩)
      · rw [ln] at hw
        rw [cut_all hw] at q
        exact q _ W3 [] x13 ⟨a, vs, rfl, h2, h3⟩
      · exact q _ (W3.put p (.tup (cutV vs li hi'))) [] (x13.trans (Ext.put x3.ok hp)) (R_newT x3.ok hp (RL_cut h3))
    · rw [if_neg hl] at hd2
      cases hd2
  | lst ds => exact .inl (viaL hd)
  | ml ds => exact .inl (viaL hd)
  | _ => cases hd
/-! ### built-ins -/
def CallD (X : Cx) (f : Value) (o : List D → Option D) : Prop := ∃ r : List V → Hp → VK → Prop, CallR X f r ∧ ∀ (W : Wd) (ds : List D) (vs : List V) (G : List Addr), WOk W → RL X.K W ds vs G → ∀ d, o ds = some d →
  ∀ Q : VK, (∀ v W' G, Ext W W' → R X.K W' d v G → Q v W'.H) → r vs W.H Q
def qCall (o : List D → Option D) (k : FA) : FQ := fun ρ μ => (k ρ μ).bind o
theorem runC {t : TA} {k : FA} {o : List D → Option D} {r : List V → Hp → VK → Prop}
    (k1 : ∀ (σ : L2.St) (W : Wd) (ρ μ : List D) (F : List Addr), Sta X.K W σ ρ μ F → ∀ ds, k ρ μ = some ds → ∀ Q : List V → Hp → Prop, (∀ vs W' G, Ext W W' → RL X.K W' ds vs G → Q vs W'.H) → t σ W.H Q)
    (k2 : ∀ (W : Wd) (ds : List D) (vs : List V) (G : List Addr), WOk W → RL X.K W ds vs G → ∀ d, o ds = some d → ∀ Q : VK, (∀ v W' G, Ext W W' → R X.K W' d v G → Q v W'.H) → r vs W.H Q)
    (σ : L2.St) (W : Wd) (ρ μ : List D) (F : List Addr) (S : Sta X.K W σ ρ μ F) (d : D) (hd : qCall o k ρ μ = some d) (Q : VK) (q : ∀ v W' G, Ext W W' → R X.K W' d v G → Q v W'.H) : tCB r t σ W.H Q := by
  obtain ⟨ds, e1, hd⟩ := bind_some hd
  refine k1 σ W ρ μ F S ds e1 _ fun vs W1 G1 x1 r1 => ?_
  exact k2 W1 ds vs G1 x1.ok r1 d hd _ fun v W2 G2 x2 r2 => q v W2 G2 (x1.trans x2) r2
theorem pq_callB {id : String} {x : Str} {p pos : Pos} {e : Expr} {es : List Expr} {k : FA} {o : List D → Option D} (h : CallD X (.builtin id) o) (hm : X.mg x = none) (hv : bootBuiltins x = some (.builtin id)) (ha : PAQ X (e :: es) k) (hg : Gl X x := by rfl)
    (hn : x ≠ "__name__" := by decide) (hdb : (x == ("__debug__" : Str)) = false := by decide) (he : starEach (e :: es) X.env = (false, eval e X.env) :: starEach es X.env := by rfl) (hpl : (backTo pos (starEach es X.env)).any (·.1) = false := by rfl) : PQ X (.Call (.Name x p) (e :: es) [] pos) (qCall o k) := by
  obtain ⟨r, hr, k2⟩ := h
  obtain ⟨t, pt, k1⟩ := ha
  exact ⟨_, pe_callB hr hg hm hv pt hn hdb he hpl, runC k1 k2⟩
theorem pq_callTy {T : String} {x : Str} {p pos : Pos} {e : Expr} {es : List Expr} {k : FA} {o : List D → Option D} (h : CallD X (.type T) o) (hm : X.mg x = none) (hv : bootBuiltins x = some (.type T)) (ha : PAQ X (e :: es) k) (hg : Gl X x := by rfl)
    (hn : x ≠ "__name__" := by decide) (hdb : (x == ("__debug__" : Str)) = false := by decide) (he : starEach (e :: es) X.env = (false, eval e X.env) :: starEach es X.env := by rfl) (hpl : (backTo pos (starEach es X.env)).any (·.1) = false := by rfl) : PQ X (.Call (.Name x p) (e :: es) [] pos) (qCall o k) := by
  obtain ⟨r, hr, k2⟩ := h
  obtain ⟨t, pt, k1⟩ := ha
  exact ⟨_, pe_callTy hr hg hm hv pt hn hdb he hpl, runC k1 k2⟩
/-- one argument -/
def o1 (g : D → Option D) : List D → Option D
  | [d] => g d
  | _ => none
def o2 (g : D → D → Option D) : List D → Option D
  | [d, e] => g d e
  | _ => none
theorem RL_one {W : Wd} {d : D} {vs : List V} {G : List Addr} (h : RL K W [d] vs G) : ∃ v, vs = [v] ∧ R K W d v G := by
  obtain ⟨v, vs', F1, F2, h1, h2, h3, h4⟩ := h
  obtain ⟨e1, e2⟩ := h3
  rw [h1, e1]
  rw [e2, List.append_nil] at h4
  exact ⟨v, rfl, by rw [h4]; exact h2⟩
theorem RL_two {W : Wd} {d e : D} {vs : List V} {G : List Addr} (h : RL K W [d, e] vs G) : ∃ u v G1 G2, vs = [u, v] ∧ R K W d u G1 ∧ R K W e v G2 := by
  obtain ⟨u, vs', F1, F2, h1, h2, h3, h4⟩ := h
  obtain ⟨v, e1, h5⟩ := RL_one h3
  exact ⟨u, v, F1, F2, by rw [h1, e1], h2, h5⟩
def dLen : D → Option D
  | .str s => if s.length ≤ LIM then some (.int s.length) else none
  | .tup ds => some (.int ds.length)
  | .lst ds => some (.int ds.length)
  | .ml ds => some (.int ds.length)
  | _ => none
theorem cd_len : CallD X (.builtin "len") (o1 dLen) := by
  refine ⟨_, call_len, fun W ds vs G ok r d hd Q q => ?_⟩
  match ds, hd with
  | [x], hd =>
    obtain ⟨v, rfl, r1⟩ := RL_one r
    have hd : dLen x = some d := hd
    cases x with
    | str s =>
      have hd2 : (if s.length ≤ LIM then some (D.int s.length) else none) = some d := hd
      by_cases hl : s.length ≤ LIM
      · rw [if_pos hl] at hd2
        cases hd2
        obtain ⟨rfl, _⟩ := r1
        exact ⟨_, s.length, rfl, ⟨by rw [tr_length]; exact lim_ok hl, (tr_length s).symm⟩, q _ W [] (Ext.refl ok) ⟨rfl, rfl⟩⟩
      · rw [if_neg hl] at hd2
        cases hd2
    | tup es =>
      cases hd
      obtain ⟨a, ws, rfl, h2, h3⟩ := r1
      exact ⟨_, es.length, rfl, .inr ⟨ws, h2, (RL_len h3).symm⟩, q _ W [] (Ext.refl ok) ⟨rfl, rfl⟩⟩
    | lst es =>
      cases hd
      obtain ⟨a, ws, rfl, h2, h3, _⟩ := r1
      exact ⟨_, es.length, rfl, .inl ⟨ws, h2.sq, (RL_len h3).symm⟩, q _ W [] (Ext.refl ok) ⟨rfl, rfl⟩⟩
    | ml es =>
      cases hd
      obtain ⟨a, ws, F', rfl, h2, h3, _⟩ := r1
      exact ⟨_, es.length, rfl, .inl ⟨ws, Evl.sq_of h2, (RL_len h3).symm⟩, q _ W [] (Ext.refl ok) ⟨rfl, rfl⟩⟩
    | _ => cases hd
def boolsD : List D → Option (List Bool)
  | [] => some []
  | .bl b :: ds => (boolsD ds).map fun bs => b :: bs
  | _ => none
theorem R_bools {W : Wd} : ∀ {ds : List D} {bs : List Bool} {vs : List V} {G : List Addr}, boolsD ds = some bs → RL K W ds vs G → vs = bs.map V.bl
  | [], _, _, _, h, r => by
    cases h
    exact r.1
  | d :: ds, bs, _, _, h, r => by
    obtain ⟨v, vs', F1, F2, h1, h2, h3, _⟩ := r
    cases d with
    | bl b =>
      obtain ⟨us, e2, z⟩ := map_some (show (boolsD ds).map (fun bs => b :: bs) = some bs from h)
      rw [← z, h1, h2.1, R_bools e2 h3]
      rfl
    | _ => cases h
def intsD : List D → Option (List Int)
  | [] => some []
  | .int b :: ds => (intsD ds).map fun bs => b :: bs
  | _ => none
theorem R_ints {W : Wd} : ∀ {ds : List D} {bs : List Int} {vs : List V} {G : List Addr}, intsD ds = some bs → RL K W ds vs G → vs = bs.map V.int
  | [], _, _, _, h, r => by
    cases h
    exact r.1
  | d :: ds, bs, _, _, h, r => by
    obtain ⟨v, vs', F1, F2, h1, h2, h3, _⟩ := r
    cases d with
    | int b =>
      obtain ⟨us, e2, z⟩ := map_some (show (intsD ds).map (fun bs => b :: bs) = some bs from h)
      rw [← z, h1, h2.1, R_ints e2 h3]
      rfl
    | _ => cases h
def strsD : List D → Option (List (List Nat))
  | [] => some []
  | .str b :: ds => (strsD ds).map fun bs => b :: bs
  | _ => none
theorem R_strs {W : Wd} : ∀ {ds : List D} {bs : List (List Nat)} {vs : List V} {G : List Addr}, strsD ds = some bs → RL K W ds vs G → vs = (bs.map tr).map V.str
  | [], _, _, _, h, r => by
    cases h
    exact r.1
  | d :: ds, bs, _, _, h, r => by
    obtain ⟨v, vs', F1, F2, h1, h2, h3, _⟩ := r
    cases d with
    | str b =>
      obtain ⟨us, e2, z⟩ := map_some (show (strsD ds).map (fun bs => b :: bs) = some bs from h)
      rw [← z, h1, h2.1, R_strs e2 h3]
      rfl
    | _ => cases h
theorem cd_all (hc : X.calm = true) : CallD X (.builtin "all") (o1 fun x => (asL x).bind fun ds => (boolsD ds).map fun bs => .bl (bs.all id)) := by
  refine ⟨_, cr_all hc, fun W ds vs G ok r d hd Q q => ?_⟩
  match ds, hd with
  | [x], hd =>
    obtain ⟨v, rfl, r1⟩ := RL_one r
    obtain ⟨es, e1, hd⟩ := bind_some (show (asL x).bind (fun ds => (boolsD ds).map fun bs => D.bl (bs.all id)) = some d from hd)
    obtain ⟨bs, e2, z⟩ := map_some hd
    obtain ⟨a, ws, rfl, h2, h3⟩ := R_asL e1 r1
    rw [R_bools e2 h3] at h2
    subst z
    exact ⟨a, bs, rfl, h2, q _ W [] (Ext.refl ok) ⟨rfl, rfl⟩⟩
theorem cd_any (hc : X.calm = true) : CallD X (.builtin "any") (o1 fun x => (asL x).bind fun ds => (boolsD ds).map fun bs => .bl (bs.any id)) := by
  refine ⟨_, cr_any hc, fun W ds vs G ok r d hd Q q => ?_⟩
  match ds, hd with
  | [x], hd =>
    obtain ⟨v, rfl, r1⟩ := RL_one r
    obtain ⟨es, e1, hd⟩ := bind_some (show (asL x).bind (fun ds => (boolsD ds).map fun bs => D.bl (bs.any id)) = some d from hd)
    obtain ⟨bs, e2, z⟩ := map_some hd
    obtain ⟨a, ws, rfl, h2, h3⟩ := R_asL e1 r1
    rw [R_bools e2 h3] at h2
    subst z
    exact ⟨a, bs, rfl, h2, q _ W [] (Ext.refl ok) ⟨rfl, rfl⟩⟩
theorem cd_sum (hc : X.calm = true) : CallD X (.builtin "sum") (o1 fun x => (asL x).bind fun ds => (intsD ds).map fun bs => .int bs.sum) := by
  refine ⟨_, cr_sum hc, fun W ds vs G ok r d hd Q q => ?_⟩
  match ds, hd with
  | [x], hd =>
    obtain ⟨v, rfl, r1⟩ := RL_one r
    obtain ⟨es, e1, hd⟩ := bind_some (show (asL x).bind (fun ds => (intsD ds).map fun bs => D.int bs.sum) = some d from hd)
    obtain ⟨bs, e2, z⟩ := map_some hd
    obtain ⟨a, ws, rfl, h2, h3⟩ := R_asL e1 r1
    rw [R_ints e2 h3] at h2
    subst z
    exact ⟨a, bs, rfl, h2, q _ W [] (Ext.refl ok) ⟨rfl, rfl⟩⟩
/-- tuple(a list | a tuple) -/
def dTuple : D → Option D
  | .tup ds => some (.tup ds)
  | x => (asL x).map .tup
theorem cd_tuple : CallD X (.type "tuple") (o1 dTuple) := by
  refine ⟨_, call_tuple_of, fun W ds vs G ok r d hd Q q => ?_⟩
  match ds, hd with
  | [x], hd =>
    obtain ⟨v, rfl, r1⟩ := RL_one r
    have viaL : (asL x).map D.tup = some d → ∃ p ys, [v] = [.ref p] ∧ ((SqL X.K W.H p ys ∧ ∀ l, W.H l = none → Q (.ref l) (upd W.H l (.tup ys))) ∨ (SqT X.K W.H p ys ∧ Q (.ref p) W.H)) := fun hd => by
      obtain ⟨es, e1, z⟩ := map_some hd
      subst z
      obtain ⟨a, ws, rfl, h2, h3⟩ := R_asL e1 r1
      exact ⟨a, ws, rfl, .inl ⟨h2, fun l hl => q _ (W.put l (.tup ws)) [] (Ext.put ok hl) (R_newT ok hl h3)⟩⟩
    cases x with
    | tup es =>
      cases hd
      obtain ⟨a, ws, rfl, h2, h3⟩ := r1
      exact ⟨a, ws, rfl, .inr ⟨h2, q _ W G (Ext.refl ok) ⟨a, ws, rfl, h2, h3⟩⟩⟩
    | _ => exact viaL hd
theorem cd_str : CallD X (.type "str") (o1 fun x => match x with | .int i => if i.natAbs.log2 < 1920 then some (.str (ofS (toString i))) else none | _ => none) := by
  refine ⟨_, call_str_int, fun W ds vs G ok r d hd Q q => ?_⟩
  match ds, hd with
  | [x], hd =>
    obtain ⟨v, rfl, r1⟩ := RL_one r
    cases x with
    | int i =>
      have hd2 : (if i.natAbs.log2 < 1920 then some (D.str (ofS (toString i))) else none) = some d := hd
      by_cases hl : i.natAbs.log2 < 1920
      · rw [if_pos hl] at hd2
        cases hd2
        obtain ⟨rfl, _⟩ := r1
        exact ⟨i, rfl, hl, q _ W [] (Ext.refl ok) ⟨congrArg V.str (tr_ofS _), rfl⟩⟩
      · rw [if_neg hl] at hd2
        cases hd2
    | _ => cases hd
def dDivmod : D → D → Option D
  | .int i, .int j => if 0 < j ∧ j < 1073741824 then some (.tup [.int (i / j), .int (i % j)]) else none
  | _, _ => none
theorem cd_divmod : CallD X (.builtin "divmod") (o2 dDivmod) := by
  refine ⟨_, call_divmod, fun W ds vs G ok r d hd Q q => ?_⟩
  match ds, hd with
  | [x, y], hd =>
    obtain ⟨u, v, G1, G2, rfl, r1, r2⟩ := RL_two r
    cases x with
    | int i =>
      cases y with
      | int j =>
        have hd2 : (if 0 < j ∧ j < 1073741824 then some (D.tup [.int (i / j), .int (i % j)]) else none) = some d := hd
        by_cases hl : 0 < j ∧ j < 1073741824
        · rw [if_pos hl] at hd2
          cases hd2
          obtain ⟨rfl, _⟩ := r1
          obtain ⟨rfl, _⟩ := r2
          exact ⟨i, j, rfl, hl, fun p hp => q _ (W.put p (.tup [.int (i / j), .int (i % j)])) [] (Ext.put ok hp) (R_newT ok hp ⟨_, _, [], [], rfl, ⟨rfl, rfl⟩, ⟨_, _, [], [], rfl, ⟨rfl, rfl⟩, ⟨rfl, rfl⟩, rfl⟩, rfl⟩)⟩
        · rw [if_neg hl] at hd2
          cases hd2
      | _ => cases hd
    | _ => cases y <;> cases hd
theorem cd_min (hc : X.calm = true) : CallD X (.builtin "min") (o2 fun x y => match x, y with | .int i, .int j => some (.int (if j < i then j else i)) | _, _ => none) := by
  refine ⟨_, call_min2 hc, fun W ds vs G ok r d hd Q q => ?_⟩
  match ds, hd with
  | [x, y], hd =>
    obtain ⟨u, v, G1, G2, rfl, r1, r2⟩ := RL_two r
    cases x with
    | int i =>
      cases y with
      | int j =>
        cases hd
        obtain ⟨rfl, _⟩ := r1
        obtain ⟨rfl, _⟩ := r2
        exact ⟨i, j, rfl, q _ W [] (Ext.refl ok) ⟨rfl, rfl⟩⟩
      | _ => cases hd
    | _ => cases y <;> cases hd
theorem cd_max (hc : X.calm = true) : CallD X (.builtin "max") (o2 fun x y => match x, y with | .int i, .int j => some (.int (if j > i then j else i)) | _, _ => none) := by
  refine ⟨_, call_max2 hc, fun W ds vs G ok r d hd Q q => ?_⟩
  match ds, hd with
  | [x, y], hd =>
    obtain ⟨u, v, G1, G2, rfl, r1, r2⟩ := RL_two r
    cases x with
    | int i =>
      cases y with
      | int j =>
        cases hd
        obtain ⟨rfl, _⟩ := r1
        obtain ⟨rfl, _⟩ := r2
        exact ⟨i, j, rfl, q _ W [] (Ext.refl ok) ⟨rfl, rfl⟩⟩
      | _ => cases hd
    | _ => cases y <;> cases hd
/-! ### isinstance of a built-in class -/
def tyN : D → Option String
  | .non => some "NoneType"
  | .bl _ => some "bool"
  | .int _ => some "int"
  | .str _ => some "str"
  | .lst _ => some "list"
  | .ml _ => some "list"
  | .tup _ => some "tuple"
  | _ => none
theorem R_ty {W : Wd} {d : D} {n : String} {v : V} {G : List Addr} (h : tyN d = some n) (r : R K W d v G) : TyX K W.H v (.type n) := by
  cases d with
  | non => cases h; rw [r.1]; exact .base .non
  | bl b => cases h; rw [r.1]; exact .base (.bl b)
  | int i => cases h; rw [r.1]; exact .base (.int i)
  | str s => cases h; rw [r.1]; exact .base (.str _)
  | lst ds =>
    cases h
    obtain ⟨a, vs, rfl, h2, _⟩ := r
    rcases h2.sq (K := K) with (h2 | ⟨o, h2⟩) | ⟨o, its, n, h2, h3, _⟩
    · exact .base (.lst h2)
    · exact .base (.frz h2)
    · exact .kList h2 h3
  | ml ds =>
    cases h
    obtain ⟨a, vs, F', rfl, h2, _⟩ := r
    exact .base (.lst h2)
  | tup ds =>
    cases h
    obtain ⟨a, vs, rfl, h2, _⟩ := r
    rcases h2 with (h2 | ⟨o, h2⟩) | ⟨o, its, n, h2, h3, _⟩
    · exact .base (.tup h2)
    · exact .fTuple h2
    · exact .kTuple h2 h3
  | _ => cases h
/-- a built-in class by its name in a call -/
def qIsi (T : String) (f : FQ) : FQ := fun ρ μ => (f ρ μ).bind fun d => (tyN d).bind fun n => (kitB n T).map D.bl
theorem pq_isi {T : String} {x : Str} {px p pos : Pos} {e : Expr} {f : FQ} (he : PQ X e f) (hmi : X.mg "isinstance" = none) (hmx : X.mg x = none) (hv : bootBuiltins x = some (.type T)) (hgi : Gl X "isinstance" := by rfl) (hg : Gl X x := by rfl)
    (hvi : bootBuiltins "isinstance" = some (.builtin "isinstance") := by decide +kernel) (hn : x ≠ "__name__" := by decide) (hd : (x == ("__debug__" : Str)) = false := by decide)
    (hs1 : starEach [e, .Name x px] X.env = (false, eval e X.env) :: starEach [.Name x px] X.env := by rfl) (hs2 : starEach [.Name x px] X.env = (false, eval (.Name x px) X.env) :: starEach [] X.env := by rfl) (hpl : (backTo pos (starEach [.Name x px] X.env)).any (·.1) = false := by rfl) :
    PQ X (.Call (.Name "isinstance" p) [e, .Name x px] [] pos) (qIsi T f) := by
  obtain ⟨t, pt, k1⟩ := he
  refine ⟨_, pe_callB call_isi hgi hmi hvi (pa_cons pt (pa_cons (pe_bltn (v := .ty T) hg hmx hv rfl hn hd) pa_nil hs2) hs1) (by decide) (by decide) hs1 hpl, fun σ W ρ μ F S d hd Q q => ?_⟩
  obtain ⟨x', e1, hd⟩ := bind_some hd
  obtain ⟨n, e2, hd⟩ := bind_some hd
  obtain ⟨b, e3, z⟩ := map_some hd
  subst z
  refine k1 σ W ρ μ F S x' e1 _ fun v W1 G1 x1 r1 => ?_
  exact ⟨v, .ty T, .type n, .type T, b, rfl, .ty T, R_ty e2 r1, kit_ty e3, q _ W1 [] x1 ⟨rfl, rfl⟩⟩
end
end Fw
/-! # what is walked, targets, comprehensions, calls of quiet defs, methods of texts -/
namespace Fw
open PySem PySem.Spec PyProof.Rows L2
open Evl (Ex)
/-- J yields ds, one by one, in every world that is Rel to W0 -/
structure ItD (K : PySem.W.Frag) (J : It) (W0 : Wd) (ds : List D) (Rel : Wd → Wd → Prop) : Prop where
  go : ∀ i W, Rel W0 W → i < ds.length → J.go i W.H
  st : ∀ i W, Rel W0 W → ds.length ≤ i → J.stop i W.H
  yl : ∀ i W x H', Rel W0 W → WOk W → i < ds.length → J.yld i W.H x H' → ∃ W' d, W'.H = H' ∧ ds[i]? = some d ∧ Ext W W' ∧ R K W' d x []
/-- walked while nothing changes; while what stands still stays -/
def PIQ (X : Cx) (tg e : Expr) (f : FA) : Prop := ∃ wi : TI, PI X tg e wi ∧ ∀ (σ : L2.St) (W : Wd) (ρ μ : List D) (F : List Addr), Sta X.K W σ ρ μ F → ∀ ds, f ρ μ = some ds →
  ∀ Q : It → Hp → Prop, (∀ J W', Ext W W' → ItD X.K J W' ds Ext → Q J W'.H) → wi σ W.H Q
def PIF (X : Cx) (tg e : Expr) (f : FA) : Prop := ∃ wi : TI, PI X tg e wi ∧ ∀ (σ : L2.St) (W : Wd) (ρ μ : List D) (F : List Addr), Sta X.K W σ ρ μ F → ∀ ds, f ρ μ = some ds →
  ∀ Q : It → Hp → Prop, (∀ J W', Ext W W' → ItD X.K J W' ds Lt → Q J W'.H) → wi σ W.H Q
theorem PIF.piq {X : Cx} {tg e : Expr} {f : FA} (h : PIF X tg e f) : PIQ X tg e f := by
  obtain ⟨wi, p, k⟩ := h
  exact ⟨wi, p, fun σ W ρ μ F S ds hd Q q => k σ W ρ μ F S ds hd Q fun J W' x it => q J W' x ⟨fun i W2 r => it.go i W2 r.lt, fun i W2 r => it.st i W2 r.lt, fun i W2 y H' r => it.yl i W2 y H' r.lt⟩⟩
/-! ### lists, tuples, texts -/
def iAny (K : PySem.W.Frag) (tl : TE) : TI := fun σ H Q => tl σ H fun x H1 => (∃ a xs, x = .ref a ∧ SqL K H1 a xs ∧ Q (Itl K a) H1) ∨ (∃ a xs, x = .ref a ∧ SqT K H1 a xs ∧ Q (Itt K a) H1) ∨ (∃ z, x = .str z ∧ Q (Its z) H1)
theorem pi_any {X : Cx} {tg l : Expr} {tl : TE} (hl : PE X l tl) : PI X tg l (iAny X.K tl) := by
  refine ⟨fun pins s σ H Rk I h => thn (hl.run pins s σ H _ I h) ?_⟩
  rintro v s1 ⟨x, H1, I1, r1, ⟨a, xs, rfl, hq, q⟩ | ⟨a, xs, rfl, hq, q⟩ | ⟨z, rfl, q⟩⟩
  · cases r1
    obtain ⟨its, rv, pl, hz⟩ := I1.list hq
    exact wpAny_pyIter_list pl.isList (pi_one (tk := s1.toks) I1 _ (turn_list a _) ⟨_, Heap.get?_push_size _ rfl, rfl, rfl⟩ q)
  · cases r1
    obtain ⟨its, rv, pl, hz⟩ := I1.tuple hq
    exact wpAny_pyIter_tuple (show s1.heap.IsTuple a its.toArray from pl) (pi_one (tk := s1.toks) I1 _ (turn_tuple a _) ⟨_, Heap.get?_push_size _ rfl, rfl, rfl⟩ q)
  · obtain ⟨t, rfl⟩ := r1
    cases ha : z.cps.all (· < 128)
    · exact wpAny_pyIter_wide ha (pi_one (tk := s1.toks) I1 _ (turn_str _ z t "str_iterator" (.inr rfl)) ⟨_, Heap.get?_push_size _ rfl, rfl, rfl⟩ q)
    · exact wpAny_pyIter_ascii ha (pi_one (tk := s1.toks) I1 _ (turn_str _ z t "str_ascii_iterator" (.inl rfl)) ⟨_, Heap.get?_push_size _ rfl, rfl, rfl⟩ q)
section
variable {K : PySem.W.Frag} {W0 : Wd}
theorem it_list {Rel : Wd → Wd → Prop} {a : Addr} {vs : List V} {ds : List D} (hs : ∀ W, Rel W0 W → SqL K W.H a vs) (hr : ∀ W, Rel W0 W → RL K W ds vs []) : ItD K (Itl K a) W0 ds Rel where
  go := fun i W r hi => by
    have hl := RL_len (hr W r)
    exact ⟨vs, vs[i]'(by omega), hs W r, by simp [hl, hi]⟩
  st := fun i W r hi => ⟨vs, hs W r, by rw [RL_len (hr W r)]; exact hi⟩
  yl := fun i W x H' r ok hi y => by
    obtain ⟨e, y⟩ := y
    have y1 := y vs (hs W r)
    obtain ⟨v, G, q1, q2, q3⟩ := RL_get (hr W r) (List.getElem?_eq_getElem hi)
    rw [y1] at q1
    cases q1
    have z : G = [] := List.eq_nil_iff_forall_not_mem.mpr fun b hb => by
      have := q3 b hb
      cases this
    subst z
    exact ⟨W, _, e.symm, List.getElem?_eq_getElem hi, Ext.refl ok, q2⟩
theorem it_tup {Rel : Wd → Wd → Prop} {a : Addr} {vs : List V} {ds : List D} (hs : ∀ W, Rel W0 W → SqT K W.H a vs) (hr : ∀ W, Rel W0 W → RL K W ds vs []) : ItD K (Itt K a) W0 ds Rel where
  go := fun i W r hi => by
    have hl := RL_len (hr W r)
    exact ⟨vs, vs[i]'(by omega), hs W r, by simp [hl, hi]⟩
  st := fun i W r hi => ⟨vs, hs W r, by rw [RL_len (hr W r)]; exact hi⟩
  yl := fun i W x H' r ok hi y => by
    obtain ⟨e, y⟩ := y
    have y1 := y vs (hs W r)
    obtain ⟨v, G, q1, q2, q3⟩ := RL_get (hr W r) (List.getElem?_eq_getElem hi)
    rw [y1] at q1
    cases q1
    have z : G = [] := List.eq_nil_iff_forall_not_mem.mpr fun b hb => by
      have := q3 b hb
      cases this
    subst z
    exact ⟨W, _, e.symm, List.getElem?_eq_getElem hi, Ext.refl ok, q2⟩
theorem it_str {Rel : Wd → Wd → Prop} {z : List Nat} : ItD K (Its (tr z)) W0 (z.map fun c => .str [c]) Rel where
  go := fun i W r hi => by
    rw [List.length_map] at hi
    show i < z.toArray.size
    rw [List.size_toArray]
    exact hi
  st := fun i W r hi => by
    rw [List.length_map] at hi
    show z.toArray.size ≤ i
    rw [List.size_toArray]
    exact hi
  yl := fun i W x H' r ok hi y => by
    rw [List.length_map] at hi
    obtain ⟨e, c, h1, rfl⟩ := y
    have h2 : z.toArray[i]? = some c := h1
    rw [List.getElem?_toArray] at h2
    exact ⟨W, .str [c], e.symm, by rw [List.getElem?_map, h2]; rfl, Ext.refl ok, rfl, rfl⟩
end
/-- the items of what stands still | of any such thing -/
def itemsF : D → Option (List D)
  | .lst ds => some ds
  | .tup ds => if dataL ds = true then some ds else none
  | .str s => some (s.map fun c => .str [c])
  | _ => none
def itemsQ : D → Option (List D)
  | .ml ds => if dataL ds = true then some ds else none
  | d => itemsF d
def aF (f : FQ) : FA := fun ρ μ => (f ρ μ).bind itemsF
def aQ (f : FQ) : FA := fun ρ μ => (f ρ μ).bind itemsQ
section
variable {X : Cx} {tg e : Expr} {f : FQ}
theorem items_run {Rel : Wd → Wd → Prop} (hR : ∀ {W W' : Wd}, Rel W W' → Lt W W') {W : Wd} {d : D} {ds : List D} {v : V} {G : List Addr} (hd : itemsF d = some ds) (r : R X.K W d v G) (Q : It → Hp → Prop) (q : ∀ J, ItD X.K J W ds Rel → Q J W.H) :
    (∃ a xs, v = .ref a ∧ SqL X.K W.H a xs ∧ Q (Itl X.K a) W.H) ∨ (∃ a xs, v = .ref a ∧ SqT X.K W.H a xs ∧ Q (Itt X.K a) W.H) ∨ (∃ z, v = .str z ∧ Q (Its z) W.H) := by
  cases d with
  | lst es =>
    cases hd
    obtain ⟨a, vs, rfl, h2, h3, _⟩ := r
    exact .inl ⟨a, vs, rfl, h2.sq, q _ (it_list (fun W2 r2 => (h2.lt (hR r2)).sq) fun W2 r2 => RL_lt (hR r2) _ h3)⟩
  | tup es =>
    have hd2 : (if dataL es = true then some es else none) = some ds := hd
    by_cases hl : dataL es = true
    · rw [if_pos hl] at hd2
      cases hd2
      obtain ⟨a, vs, rfl, h2, h3⟩ := r
      have z := RL_data ds hl h3
      subst z
      exact .inr (.inl ⟨a, vs, rfl, h2, q _ (it_tup (fun W2 r2 => (hR r2).sqT h2) fun W2 r2 => RL_lt (hR r2) _ h3)⟩)
    · rw [if_neg hl] at hd2
      cases hd2
  | str s =>
    cases hd
    obtain ⟨rfl, _⟩ := r
    exact .inr (.inr ⟨_, rfl, q _ it_str⟩)
  | _ => cases hd
theorem pif_any (h : PQ X e f) : PIF X tg e (aF f) := by
  obtain ⟨t1, p1, k1⟩ := h
  refine ⟨_, pi_any p1, fun σ W ρ μ F S ds hd Q q => ?_⟩
  obtain ⟨d, e1, hd⟩ := bind_some hd
  refine k1 σ W ρ μ F S d e1 _ fun v W1 G1 x1 r1 => ?_
  exact items_run (Rel := Lt) (fun r => r) hd r1 Q fun J it => q J W1 x1 it
theorem piq_any (h : PQ X e f) : PIQ X tg e (aQ f) := by
  obtain ⟨t1, p1, k1⟩ := h
  refine ⟨_, pi_any p1, fun σ W ρ μ F S ds hd Q q => ?_⟩
  obtain ⟨d, e1, hd⟩ := bind_some hd
  refine k1 σ W ρ μ F S d e1 _ fun v W1 G1 x1 r1 => ?_
  cases d with
  | ml es =>
    have hd2 : (if dataL es = true then some es else none) = some ds := hd
    by_cases hl : dataL es = true
    · rw [if_pos hl] at hd2
      cases hd2
      obtain ⟨a, vs, F', rfl, h2, h3, _⟩ := r1
      have z := RL_data ds hl h3
      subst z
      exact .inl ⟨a, vs, rfl, Evl.sq_of h2, q _ W1 x1 (it_list (fun W2 r2 => Evl.sq_of (r2.ex _ _ h2)) fun W2 r2 => RL_ext r2 _ h3)⟩
    · rw [if_neg hl] at hd2
      cases hd2
  | _ => exact items_run (Rel := Ext) (fun r => r.lt) (by exact hd) r1 Q fun J it => q J W1 x1 it
/-! ### ranges -/
def rangeD (lo hi : Int) : List D := (List.range (hi - lo).toNat).map fun (i : Nat) => .int (lo + (i : Int))
def small62 (i : Int) : Bool := decide (-4611686018427387904 ≤ i ∧ i < 4611686018427387904)
def aR1 (f : FQ) : FA := fun ρ μ => match f ρ μ with
  | some (.int j) => if small62 j = true then some (rangeD 0 j) else none
  | _ => none
def aR2 (f g : FQ) : FA := fun ρ μ => match f ρ μ, g ρ μ with
  | some (.int i), some (.int j) => if small62 i = true ∧ small62 j = true then some (rangeD i j) else none
  | _, _ => none
theorem it_range {K : PySem.W.Frag} {W0 : Wd} {Rel : Wd → Wd → Prop} {lo hi : Int} : ItD K (Itr lo (hi - lo).toNat) W0 (rangeD lo hi) Rel where
  go := fun i W r h => by
    unfold rangeD at h
    rw [List.length_map, List.length_range] at h
    exact h
  st := fun i W r h => by
    unfold rangeD at h
    rw [List.length_map, List.length_range] at h
    exact h
  yl := fun i W x H' r ok h y => by
    obtain ⟨e, rfl⟩ := y
    unfold rangeD at h ⊢
    rw [List.length_map, List.length_range] at h
    exact ⟨W, .int (lo + (i : Int)), e.symm, by rw [List.getElem?_map, List.getElem?_range h]; rfl, Ext.refl ok, rfl, rfl⟩
theorem sm62 {i : Int} (h : small62 i = true) : -(2 ^ 62) ≤ i ∧ i < 2 ^ 62 := by
  have z : -4611686018427387904 ≤ i ∧ i < 4611686018427387904 := of_decide_eq_true h
  omega
theorem pif_range1 {a : Expr} {p pos : Pos} (ha : PQ X a f) (hm : X.mg "range" = none) (hg : Gl X "range" := by rfl) (hs : starEach [a] X.env = [(false, eval a X.env)] := by rfl) : PIF X tg (.Call (.Name "range" p) [a] [] pos) (aR1 f) := by
  obtain ⟨t1, p1, k1⟩ := ha
  refine ⟨_, pi_range1 hg hm (pa_cons p1 pa_nil hs) hs, fun σ W ρ μ F S ds hd Q q => ?_⟩
  unfold aR1 at hd
  cases e1 : f ρ μ with
  | none => rw [e1] at hd; cases hd
  | some d =>
    rw [e1] at hd
    refine k1 σ W ρ μ F S d e1 _ fun v W1 G1 x1 r1 => ?_
    cases d with
    | int j =>
      have hd2 : (if small62 j = true then some (rangeD 0 j) else none) = some ds := hd
      by_cases hl : small62 j = true
      · rw [if_pos hl] at hd2
        cases hd2
        have z := sm62 hl
        have z2 : j.toNat = (j - 0).toNat := by rw [Int.sub_zero]
        refine ⟨j, congrArg (fun z => [z]) r1.1, z.1, z.2, ?_⟩
        rw [z2]
        exact q _ W1 x1 it_range
      · rw [if_neg hl] at hd2
        cases hd2
    | _ => cases hd
theorem pif_range2 {a b : Expr} {g : FQ} {p pos : Pos} (ha : PQ X a f) (hb : PQ X b g) (hm : X.mg "range" = none) (hg : Gl X "range" := by rfl) (hs : starEach [a, b] X.env = [(false, eval a X.env), (false, eval b X.env)] := by rfl)
    (hs2 : starEach [b] X.env = [(false, eval b X.env)] := by rfl) : PIF X tg (.Call (.Name "range" p) [a, b] [] pos) (aR2 f g) := by
  obtain ⟨t1, p1, k1⟩ := ha
  obtain ⟨t2, p2, k2⟩ := hb
  refine ⟨_, pi_range2 hg hm (pa_cons p1 (pa_cons p2 pa_nil hs2) (hs.trans (congrArg _ hs2.symm))) hs hs2, fun σ W ρ μ F S ds hd Q q => ?_⟩
  unfold aR2 at hd
  cases e1 : f ρ μ with
  | none => rw [e1] at hd; cases hd
  | some d =>
    cases e2 : g ρ μ with
    | none => rw [e1, e2] at hd; cases d <;> cases hd
    | some d' =>
      rw [e1, e2] at hd
      refine k1 σ W ρ μ F S d e1 _ fun v W1 G1 x1 r1 => ?_
      refine k2 σ W1 ρ μ F (S.ext x1) d' e2 _ fun v' W2 G2 x2 r2 => ?_
      cases d with
      | int i =>
        cases d' with
        | int j =>
          have hd2 : (if small62 i = true ∧ small62 j = true then some (rangeD i j) else none) = some ds := hd
          by_cases hl : small62 i = true ∧ small62 j = true
          · rw [if_pos hl] at hd2
            cases hd2
            have z1 := sm62 hl.1
            have z2 := sm62 hl.2
            obtain ⟨rfl, _⟩ := r1
            obtain ⟨rfl, _⟩ := r2
            exact ⟨i, j, rfl, ⟨z1.1, z1.2, z2.1, z2.2⟩, q _ W2 (x1.trans x2) it_range⟩
          · rw [if_neg hl] at hd2
            cases hd2
        | _ => cases hd
      | _ => cases d' <;> cases hd
/-! ### targets -/
def PGD (X : Cx) (tg : Expr) (vs : List Nat) (t : D → List D → Option (List D)) : Prop := ∃ g : TG, PG X tg g ∧ ∀ (σ : L2.St) (W : Wd) (ρ μ : List D) (F : List Addr) (d : D) (v : V), Sta X.K W σ ρ μ F → R X.K W d v [] → ∀ ρ', t d ρ = some ρ' →
  ∀ Q : L2.St → Hp → Prop, (∀ σ' F', Sta X.K W σ' ρ' μ F' → (∀ a ∈ F', a ∈ F) → wipe σ' vs = wipe σ vs → Q σ' W.H) → g v σ W.H Q
def tgN (i : Nat) : D → List D → Option (List D) := fun d ρ => if data d = true then some (ρ.set i d) else none
theorem data_ne {d : D} (h : data d = true) : d ≠ .un := fun z => by rw [z] at h; cases h
theorem R1_of {K : PySem.W.Frag} {W : Wd} {d : D} {v : V} {G : List Addr} (r : R K W d v G) : R1 K W d (some v) G := R1_iff.mpr (.inr ⟨v, rfl, r⟩)
theorem wipe_set : ∀ {vs : List Nat} {i : Nat} {o : Option V} {σ : L2.St}, i ∈ vs → wipe (σ.set i o) vs = wipe σ vs
  | [], i, o, σ, h => by cases h
  | v :: vs, i, o, σ, h => by
    show (wipe (σ.set i o) vs).set v none = (wipe σ vs).set v none
    by_cases e : i ∈ vs
    · rw [wipe_set e]
    · have ev : i = v := by
        rcases List.mem_cons.mp h with h | h
        · exact h
        · exact absurd h e
      subst ev
      have comm : ∀ (us : List Nat) (τ : L2.St), i ∉ us → wipe (τ.set i o) us = (wipe τ us).set i o := by
        intro us
        induction us with
        | nil => intro τ _; rfl
        | cons u us ih =>
          intro τ hu
          show (wipe (τ.set i o) us).set u none = ((wipe τ us).set u none).set i o
          rw [ih τ fun z => hu (List.mem_cons_of_mem _ z)]
          exact List.set_comm _ _ fun z => hu (by rw [z]; exact List.mem_cons_self ..)
      rw [comm vs σ e, List.set_set]
theorem wipe_idem : ∀ (vs : List Nat) (σ : L2.St), wipe (wipe σ vs) vs = wipe σ vs := by
  intro vs σ
  have key : ∀ (us : List Nat) (τ : L2.St), (∀ u ∈ us, u ∈ vs) → wipe (wipe τ us) vs = wipe τ vs := by
    intro us
    induction us with
    | nil => intro τ _; rfl
    | cons u us ih =>
      intro τ h
      show wipe ((wipe τ us).set u none) vs = wipe τ vs
      rw [wipe_set (h u (List.mem_cons_self ..)), ih τ fun z hz => h z (List.mem_cons_of_mem _ hz)]
  exact key vs σ fun u hu => hu
theorem pgd_name {vs : List Nat} {i : Nat} {x : Str} {pos : Pos} (h : PG X (.Name x pos) (gName i)) (hi : i ∈ vs := by decide) : PGD X (.Name x pos) vs (tgN i) := by
  refine ⟨_, h, fun σ W ρ μ F d v S r ρ' hr Q q => ?_⟩
  unfold tgN at hr
  by_cases hl : data d = true
  · rw [if_pos hl] at hr
    cases hr
    obtain ⟨F', S', sub⟩ := S.set (i := i) (R1_of r)
    exact q _ F' S' sub (wipe_set hi)
  · rw [if_neg hl] at hr
    cases hr
/-- several names out of a tuple -/
def tgs : List Nat → List D → List D → Option (List D)
  | [], [], ρ => some ρ
  | i :: is, d :: ds, ρ => (tgN i d ρ).bind fun ρ' => tgs is ds ρ'
  | _, _, _ => none
def tgT (is : List Nat) : D → List D → Option (List D) := fun d ρ => match d with
  | .tup ds => tgs is ds ρ
  | _ => none
def gNames : List Nat → TGs
  | [] => gNil
  | i :: is => gCons (gName i) (gNames is)
theorem tgs_run {K : PySem.W.Frag} {vs : List Nat} : ∀ (is : List Nat) {ds : List D} {us : List V} {σ : L2.St} {W : Wd} {ρ μ ρ' : List D} {F : List Addr}, (∀ i ∈ is, i ∈ vs) → Sta K W σ ρ μ F → RL K W ds us [] → tgs is ds ρ = some ρ' →
    ∀ Q : L2.St → Hp → Prop, (∀ σ' F', Sta K W σ' ρ' μ F' → (∀ a ∈ F', a ∈ F) → wipe σ' vs = wipe σ vs → Q σ' W.H) → gNames is us σ W.H Q
  | [], [], us, σ, W, ρ, μ, ρ', F, _, S, r, h, Q, q => by
    cases h
    exact ⟨r.1, q σ F S (fun a h => h) rfl⟩
  | [], _ :: _, _, _, _, _, _, _, _, _, _, _, h, _, _ => by cases h
  | i :: is, [], us, σ, W, ρ, μ, ρ', F, _, S, r, h, Q, q => by cases h
  | i :: is, d :: ds, us, σ, W, ρ, μ, ρ', F, hv, S, r, h, Q, q => by
    obtain ⟨ρ1, e1, h⟩ := bind_some (show (tgN i d ρ).bind (fun ρ' => tgs is ds ρ') = some ρ' from h)
    obtain ⟨v, us', F1, F2, h1, h2, h3, h4⟩ := r
    obtain ⟨rfl, rfl⟩ := List.append_eq_nil_iff.mp h4.symm
    unfold tgN at e1
    by_cases hl : data d = true
    · rw [if_pos hl] at e1
      cases e1
      obtain ⟨F', S', sub⟩ := S.set (i := i) (R1_of h2)
      refine ⟨v, us', h1, ?_⟩
      exact tgs_run is (fun j hj => hv j (List.mem_cons_of_mem _ hj)) S' h3 h Q fun σ' F'' S'' sub' w => q σ' F'' S'' (fun a ha => sub a (sub' a ha)) (w.trans (wipe_set (hv i (List.mem_cons_self ..))))
    · rw [if_neg hl] at e1
      cases e1
theorem pgd_tup {vs is : List Nat} {es : List Expr} {k : Nat} {pos : Pos} (hc : X.calm = true) (h : PGs X es (gNames is)) (hv : ∀ i ∈ is, i ∈ vs) (hn : (assignEach es X.env).length = is.length := by rfl) (hst : (assignEach es X.env).findIdx? (·.1) = none := by rfl) : PGD X (.Tuple es k pos) vs (tgT is) := by
  refine ⟨_, pg_tup hc h hn hst, fun σ W ρ μ F d v S r ρ' hr Q q => ?_⟩
  cases d with
  | tup ds =>
    have hr2 : tgs is ds ρ = some ρ' := hr
    obtain ⟨a, us, rfl, h2, h3⟩ := r
    refine ⟨a, us, rfl, h2, ?_, tgs_run is hv S h3 hr2 Q q⟩
    rw [RL_len h3]
    have len : ∀ (is : List Nat) (ds ρ : List D), tgs is ds ρ = some ρ' → ds.length = is.length := by
      intro is
      induction is with
      | nil =>
        intro ds ρ h
        cases ds with
        | nil => rfl
        | cons _ _ => cases h
      | cons i is ih =>
        intro ds ρ h
        cases ds with
        | nil => cases h
        | cons d ds =>
          obtain ⟨ρ1, _, h⟩ := bind_some (show (tgN i d ρ).bind (fun ρ' => tgs is ds ρ') = some ρ' from h)
          rw [List.length_cons, List.length_cons, ih ds ρ1 h]
    exact len is ds ρ hr2
  | _ => cases hr
end
end Fw
/-! # comprehensions, calls of quiet defs, methods of texts -/
namespace Fw
open PySem PySem.Spec PyProof.Rows L2
open Evl (Ex)
/-! ### the readings by their mirrors alone -/
def tEv (K : PySem.W.Frag) (f : FQ) : TE := fun σ H Q => ∃ (W : Wd) (ρ μ : List D) (F : List Addr) (d : D), W.H = H ∧ Sta K W σ ρ μ F ∧ f ρ μ = some d ∧ ∀ v W' G, Ext W W' → R K W' d v G → Q v W'.H
def tBv (K : PySem.W.Frag) (f : FB) : TT := fun σ H Q => ∃ (W : Wd) (ρ μ : List D) (F : List Addr) (b : Bool), W.H = H ∧ Sta K W σ ρ μ F ∧ f ρ μ = some b ∧ ∀ W', Ext W W' → Q b W'.H
def gTv (K : PySem.W.Frag) (vs : List Nat) (t : D → List D → Option (List D)) : TG := fun v σ H Q => ∃ (W : Wd) (ρ μ : List D) (F : List Addr) (d : D) (ρ' : List D), W.H = H ∧ Sta K W σ ρ μ F ∧ R K W d v [] ∧ t d ρ = some ρ' ∧
  ∀ σ' F', Sta K W σ' ρ' μ F' → (∀ a ∈ F', a ∈ F) → wipe σ' vs = wipe σ vs → Q σ' W.H
section
variable {X : Cx} {e tg : Expr} {f : FQ} {t : FB}
theorem PQ.can (h : PQ X e f) : PE X e (tEv X.K f) := by
  obtain ⟨te, p, k⟩ := h
  refine ⟨fun pins s σ H Q I ⟨W, ρ, μ, F, d, hH, S, hd, q⟩ => ?_⟩
  subst hH
  exact p.run pins s σ _ Q I (k σ W ρ μ F S d hd Q q)
theorem PB.can (h : PB X e t) : PT X e (tBv X.K t) := by
  obtain ⟨te, p, k⟩ := h
  refine ⟨fun pins s σ H Q I ⟨W, ρ, μ, F, d, hH, S, hd, q⟩ => ?_⟩
  subst hH
  exact p.run pins s σ _ Q I (k σ W ρ μ F S d hd Q q)
theorem PGD.can {vs : List Nat} {g : D → List D → Option (List D)} (h : PGD X tg vs g) : PG X tg (gTv X.K vs g) := by
  obtain ⟨tt, p, k⟩ := h
  refine ⟨fun pins s σ H v u Q I r ⟨W, ρ, μ, F, d, ρ', hH, S, rv, hd, q⟩ => ?_⟩
  subst hH
  exact p.run pins s σ _ v u Q I r (k σ W ρ μ F d v S rv ρ' hd Q q)
/-- a comprehension's tests: none or one -/
def bYes : FB := fun _ _ => some true
def PTsB (X : Cx) (es : List Expr) (t : FB) : Prop := PTs X es (tBv X.K t)
theorem ptsb_nil : PTsB X [] bYes := by
  refine ⟨fun pins s σ H Q I ⟨W, ρ, μ, F, d, hH, S, hd, q⟩ => ?_⟩
  subst hH
  cases hd
  exact pts_nil.run pins s σ _ Q I (q W (Ext.refl S.ok))
theorem ptsb_one {c : Expr} (h : PB X c t) : PTsB X [c] t := pts_one h.can
end
def wipeD (ρ : List D) : List Nat → List D
  | [] => ρ
  | v :: vs => (wipeD ρ vs).set v .un
theorem Sta.wipe {K : PySem.W.Frag} {W : Wd} {μ : List D} : ∀ (vs : List Nat) {σ : L2.St} {ρ : List D} {F : List Addr}, Sta K W σ ρ μ F → ∃ F', Sta K W (L2.wipe σ vs) (wipeD ρ vs) μ F'
  | [], _, _, F, S => ⟨F, S⟩
  | v :: vs, _, _, F, S => by
    obtain ⟨F1, S1⟩ := Sta.wipe vs S
    obtain ⟨F2, S2, _⟩ := S1.set (i := v) (d := .un) (o := none) rfl
    exact ⟨F2, S2⟩
def lcL (g : D → List D → Option (List D)) (t : FB) (f : FQ) (ρ μ : List D) : List D → Option (List D)
  | [] => some []
  | d :: ds => (g d ρ).bind fun ρ' => (t ρ' μ).bind fun b => if b = true then (f ρ' μ).bind fun y => if data y = true then (lcL g t f ρ μ ds).map fun r => y :: r else none else lcL g t f ρ μ ds
def qLc (it : FA) (g : D → List D → Option (List D)) (vs : List Nat) (t : FB) (f : FQ) : FA := fun ρ μ => (it ρ μ).bind fun ds => if ds.length ≤ LIM then lcL g t f (wipeD ρ vs) μ ds else none
theorem Lt.upd_lst {W : Wd} {p : Addr} {xs ys : List V} (h : W.H p = some (.lst xs)) (hf : ¬ W.Fr p) : Lt W ⟨upd W.H p (.lst ys), W.Fr, W.m⟩ := by
  have ne : ∀ a o, Rd W.H a o → (∀ zs, o ≠ .lst zs) → a ≠ p := fun a o r n z => by
    subst z
    rcases r with r | ⟨ob, r⟩
    · rw [h] at r
      exact n _ (Option.some.inj r).symm
    · rw [h] at r
      cases r
  refine ⟨fun a zs r => ?_, fun a zs r => ?_, fun a C dx fs r r' => ⟨?_, r'⟩, fun _ _ z => z⟩
  · have z := ne a _ r fun _ q => nomatch q
    unfold Rd at r ⊢
    show upd W.H p _ a = _ ∨ ∃ o, upd W.H p _ a = _
    rw [upd_ne z]
    exact r
  · have z : a ≠ p := fun z => hf (z ▸ r.2)
    refine ⟨?_, r.2⟩
    have r1 := r.1
    unfold Rd at r1 ⊢
    show upd W.H p _ a = _ ∨ ∃ o, upd W.H p _ a = _
    rw [upd_ne z]
    exact r1
  · show upd W.H p _ a = _
    rw [upd_ne fun z => by subst z; rw [h] at r; cases r]
    exact r
section
variable {X : Cx} {elt tg iter : Expr} {ifs : List Expr} {scope : Scope} {own : List (Str × Nat)} {pos : Pos} {it : FA} {g : D → List D → Option (List D)} {t : FB} {f : FQ}
/-- the reading of a comprehension, whatever comes behind -/
theorem lc_run {K : PySem.W.Frag} {wi : TI} {vs : List Nat} {it : FA}
    (k0 : ∀ (σ : L2.St) (W : Wd) (ρ μ : List D) (F : List Addr), Sta K W σ ρ μ F → ∀ ds, it ρ μ = some ds → ∀ Q : It → Hp → Prop, (∀ J W', Ext W W' → ItD K J W' ds Ext → Q J W'.H) → wi σ W.H Q)
    (σ : L2.St) (W : Wd) (ρ μ : List D) (F : List Addr) (S : Sta K W σ ρ μ F) (out : List D) (hd : qLc it g vs t f ρ μ = some out) (Q : VK) (q : ∀ p W', NewL K W W' out p → Q (.ref p) W'.H) :
    tLc wi (gTv K vs g) (tBv K t) (tEv K f) vs σ W.H Q := by
  obtain ⟨ds, e1, hd⟩ := bind_some hd
  by_cases hlim : ds.length ≤ LIM
  case neg => rw [if_neg hlim] at hd; cases hd
  rw [if_pos hlim] at hd
  refine k0 σ W ρ μ F S ds e1 _ fun J W1 x1 itd => ?_
  intro Dl hDl
  obtain ⟨Fw, Sw⟩ := Sta.wipe vs (S.ext x1)
  refine ⟨fun i m H => m = ds.length - i ∧ i ≤ ds.length ∧ ∃ (W2 : Wd) (acc : List V) (done rest : List D), W2.H = H ∧ Ext W1 W2 ∧ ¬ W2.Fr Dl ∧ W2.H Dl = some (.lst acc) ∧ RL K W2 done acc [] ∧ lcL g t f (wipeD ρ vs) μ (ds.drop i) = some rest ∧ out = done ++ rest ∧ done.length ≤ i, ⟨_, rfl, Nat.zero_le _, ?_⟩, ?_⟩
  · exact ⟨W1.put Dl (.lst []), [], [], out, rfl, Ext.put x1.ok hDl, fun z => x1.ok Dl z hDl, upd_same, ⟨rfl, rfl⟩, hd, rfl, Nat.le_refl _⟩
  · rintro i m H ⟨rfl, hi, W2, acc, done, rest, rfl, x2, hf, hacc, hrl, hrest, hout, hdl⟩
    by_cases hlt : i < ds.length
    · refine .inr ⟨itd.go i W2 x2 hlt, ?_⟩
      have ed : ds.drop i = ds[i] :: ds.drop (i + 1) := List.drop_eq_getElem_cons hlt
      rw [ed] at hrest
      obtain ⟨ρ', e2, hrest⟩ := bind_some (show (g ds[i] (wipeD ρ vs)).bind _ = some rest from hrest)
      obtain ⟨b, e3, hrest⟩ := bind_some hrest
      refine ⟨fun H' => i + 1 ≤ ds.length ∧ ∃ (W2 : Wd) (acc : List V) (done rest : List D), W2.H = H' ∧ Ext W1 W2 ∧ ¬ W2.Fr Dl ∧ W2.H Dl = some (.lst acc) ∧ RL K W2 done acc [] ∧ lcL g t f (wipeD ρ vs) μ (ds.drop (i + 1)) = some rest ∧ out = done ++ rest ∧ done.length ≤ i + 1,
        fun H' n => ⟨ds.length - (i + 1), by omega, rfl, n⟩, fun x H' hy => ?_⟩
      obtain ⟨W3, d, hW3, hd3, x3, r3⟩ := itd.yl i W2 x H' x2 x2.ok hlt hy
      subst hW3
      rw [List.getElem?_eq_getElem hlt] at hd3
      cases hd3
      have nf3 : ∀ {W5 : Wd}, Ext W2 W5 → ¬ W5.Fr Dl := fun x z => by
        rcases x.nf Dl z with z | z
        · exact hf z
        · rw [hacc] at z
          cases z
      refine ⟨W3, wipeD ρ vs, μ, Fw, ds[i], ρ', rfl, (Sw.ext x2).ext x3, r3, e2, fun σ' F' S' _ hw => ⟨hw.trans (wipe_idem vs σ), ?_⟩⟩
      refine ⟨W3, ρ', μ, F', b, rfl, S', e3, fun W4 x4 => ?_⟩
      cases b with
      | true =>
        rw [if_pos rfl] at hrest ⊢
        obtain ⟨y, e4, hrest⟩ := bind_some hrest
        by_cases hdy : data y = true
        case neg => rw [if_neg hdy] at hrest; cases hrest
        rw [if_pos hdy] at hrest
        obtain ⟨rest', e5, z⟩ := map_some hrest
        refine ⟨W4, ρ', μ, F', y, rfl, S'.ext x4, e4, fun v W5 G x5 r5 => ?_⟩
        have zG := R_data y hdy r5
        subst zG
        have x25 := (x3.trans x4).trans x5
        have hacc5 := x25.ex _ _ hacc
        have la : acc.length = done.length := RL_len hrl
        refine ⟨acc, hacc5, lim_lt (by omega), by omega, ⟨upd W5.H Dl (.lst (acc ++ [v])), W5.Fr, W5.m⟩, acc ++ [v], done ++ [y], rest', rfl, ?_, (show ¬ W5.Fr Dl from nf3 x25), upd_same, ?_, e5, ?_, ?_⟩
        · have x15 := x2.trans x25
          refine ⟨fun a o h => ?_, x15.fr, x15.nf, x15.m, fun a h => ?_⟩
          · show upd W5.H Dl _ a = _
            rw [upd_ne (ne_of_none h hDl)]
            exact x15.ex a o h
          · show upd W5.H Dl _ a ≠ none
            by_cases ea : a = Dl
            · rw [ea, upd_same]
              exact fun z => nomatch z
            · rw [upd_ne ea]
              exact x15.ok a h
        · have lt5 : Lt W5 ⟨upd W5.H Dl (.lst (acc ++ [v])), W5.Fr, W5.m⟩ := Lt.upd_lst hacc5 (nf3 x25)
          exact RL_app (G := []) (RL_lt lt5 done (RL_ext x25 done hrl)) ⟨v, [], [], [], rfl, R_lt lt5 y r5, ⟨rfl, rfl⟩, rfl⟩
        · rw [hout, ← z, List.append_assoc]
          rfl
        · rw [List.length_append]
          show done.length + 1 ≤ i + 1
          omega
      | false =>
        rw [if_neg Bool.false_ne_true] at hrest ⊢
        have x24 := x3.trans x4
        exact ⟨by omega, W4, acc, done, rest, rfl, x2.trans x24, nf3 x24, x24.ex _ _ hacc, RL_ext x24 done hrl, hrest, hout, by omega⟩
    · refine .inl ⟨itd.st i W2 x2 (by omega), ?_⟩
      have e : ds.drop i = [] := List.drop_eq_nil_of_le (by omega)
      rw [e] at hrest
      cases hrest
      rw [List.append_nil] at hout
      subst hout
      exact q Dl W2 ⟨x1.trans x2, Evl.fresh_back x1.ex hDl, hf, acc, hacc, hrl⟩
theorem pn_lc (hc : X.calm = true) (hN : X.N.Nodup) (hi : PIQ X tg iter it) (ok : BlkOk X.N X.env.scope scope own)
    (hg : ∀ (s : Shared) (H : Hp) (C : Addr) (cl : List (Str × Addr)) (fp : List Addr), PGD (X.blk s H scope (compEnvC scope cl C X.env) fp) tg (own.map (·.2)) g)
    (ht : ∀ (s : Shared) (H : Hp) (C : Addr) (cl : List (Str × Addr)) (fp : List Addr), PTsB (X.blk s H scope (compEnvC scope cl C X.env) fp) ifs t)
    (he : ∀ (s : Shared) (H : Hp) (C : Addr) (cl : List (Str × Addr)) (fp : List Addr), PQ (X.blk s H scope (compEnvC scope cl C X.env) fp) elt f)
    (hs : ∀ x, foldedSetIterable iter X.env x = pure x := by intro _; rfl) : PN X (.ListComp elt [⟨tg, iter, ifs, 0⟩] scope pos) (qLc it g (own.map (·.2)) t f) := by
  obtain ⟨wi, p0, k0⟩ := hi
  refine ⟨_, pe_lc (g := gTv X.K (own.map (·.2)) g) (tt := tBv X.K t) (te := tEv X.K f) hc hN p0 ok (fun s H C cl fp => (hg s H C cl fp).can) (fun s H C cl fp => ht s H C cl fp) (fun s H C cl fp => (he s H C cl fp).can) hs, fun σ W ρ μ F S out hd Q q => ?_⟩
  exact lc_run k0 σ W ρ μ F S out hd Q q
end
/-! ### quiet defs -/
def spQ (K : PySem.W.Frag) (n : Nat) (run : List D → Option D) : Sp := fun vs H Q _ => ∃ (W : Wd) (ds : List D) (d : D), W.H = H ∧ W.m = [] ∧ WOk W ∧ RL K W ds vs [] ∧ dataL ds = true ∧ ds.length = n ∧ run ds = some d ∧ data d = true ∧ ∀ v W', Ext W W' → R K W' d v [] → Q v W'.H
/-- the module's def x is quiet and computes run; dd: the defaults that fill up -/
def OkQ (P : Program) (w : World) (K : PySem.W.Frag) (mg : Str → Option Value) (base : Heap) (x : Str) (k n : Nat) (dd : List D) (run : List D → Option D) : Prop :=
  ∃ (f : Addr) (fd : FuncData) (ps : List Str) (dvs : List V) (us : List Value), FnOk P w K mg base (L2.CX P w) k f fd ps (spQ K n run) ∧ Binds K fd ps us ∧ Vals dvs us ∧ (∀ W : Wd, RL K W dd dvs []) ∧ dataL dd = true ∧ mg x = some (.ref f) ∧ PySem.W.keepIn K (.ref f) = true
def qRun (n : Nat) (dd : List D) (run : List D → Option D) (k : FA) : FQ := fun ρ μ => (k ρ μ).bind fun ds => if dataL ds = true ∧ (ds ++ dd).length = n then (run (ds ++ dd)).bind fun d => if data d = true then some d else none else none
theorem dataL_app {ds es : List D} (h : dataL ds = true) (g : dataL es = true) : dataL (ds ++ es) = true := by
  rw [dataL_all] at h g ⊢
  rw [List.all_append, h, g]
  rfl
/-- into a quiet def and back: it sees nothing of what is shared -/
theorem call_back {K : PySem.W.Frag} {n : Nat} {run : List D → Option D} {W : Wd} {ds dd : List D} {vs : List V} {d : D} {Q : VK} {E : XK} (h1 : dataL ds = true) (h2 : dataL dd = true) (ok : WOk W) (r : RL K W (ds ++ dd) vs []) (hn : (ds ++ dd).length = n) (hr : run (ds ++ dd) = some d) (hd : data d = true)
    (q : ∀ v W', Ext W W' → R K W' d v [] → Q v W'.H) : spQ K n run vs W.H Q E :=
  ⟨⟨W.H, W.Fr, []⟩, ds ++ dd, d, rfl, rfl, ok, RL_m _ (dataL_app h1 h2) r, dataL_app h1 h2, hn, hr, hd, fun v W' x rv => q v ⟨W'.H, W'.Fr, W.m⟩ ⟨x.ex, x.fr, x.nf, rfl, x.ok⟩ (R_m d hd rv)⟩
section
variable {X : Cx} {e : Expr} {es : List Expr} {x : Str} {p pos : Pos} {k n : Nat} {dd : List D} {run : List D → Option D} {kf : FA}
theorem pq_call (O : OkQ X.prog X.w X.K X.mg X.base x k n dd run) (hr : Room k X.A) (ha : PAQ X (e :: es) kf) (hg : Gl X x := by rfl) (hdb : (x == ("__debug__" : Str)) = false := by decide)
    (he : starEach (e :: es) X.env = (false, eval e X.env) :: starEach es X.env := by rfl) (hpl : (backTo pos (starEach es X.env)).any (·.1) = false := by rfl) : PQ X (.Call (.Name x p) (e :: es) [] pos) (qRun n dd run kf) := by
  obtain ⟨f, fd, ps, dvs, us, hF, hb, hv, hdd, hdt, hm, hk⟩ := O
  obtain ⟨t, pt, k1⟩ := ha
  refine ⟨_, pe_call hF hr hg hm hk hb hv passL pt hdb he hpl, fun σ W ρ μ F S d hd Q q => ?_⟩
  obtain ⟨ds, e1, hd⟩ := bind_some hd
  by_cases hl : dataL ds = true ∧ (ds ++ dd).length = n
  case neg => rw [if_neg hl] at hd; cases hd
  rw [if_pos hl] at hd
  obtain ⟨d', e2, hd⟩ := bind_some hd
  by_cases hdd2 : data d' = true
  case neg => rw [if_neg hdd2] at hd; cases hd
  rw [if_pos hdd2] at hd
  cases hd
  refine k1 σ W ρ μ F S ds e1 _ fun vs W1 G1 x1 r1 => ?_
  have z := RL_data ds hl.1 r1
  subst z
  exact call_back hl.1 hdt x1.ok (RL_app r1 (hdd W1)) hl.2 e2 hdd2 fun v W2 x2 r2 => q v W2 [] (x1.trans x2) r2
theorem pq_call0 (O : OkQ X.prog X.w X.K X.mg X.base x k n dd run) (hr : Room k X.A) (hg : Gl X x := by rfl) (hdb : (x == ("__debug__" : Str)) = false := by decide) : PQ X (.Call (.Name x p) [] [] pos) (qRun n dd run aNil) := by
  obtain ⟨f, fd, ps, dvs, us, hF, hb, hv, hdd, hdt, hm, hk⟩ := O
  refine ⟨_, pe_call0 hF hr hg hm hk hb hv passL hdb, fun σ W ρ μ F S d hd Q q => ?_⟩
  obtain ⟨ds, e1, hd⟩ := bind_some hd
  cases e1
  by_cases hl : dataL ([] : List D) = true ∧ (([] : List D) ++ dd).length = n
  case neg => rw [if_neg hl] at hd; cases hd
  rw [if_pos hl] at hd
  obtain ⟨d', e2, hd⟩ := bind_some hd
  by_cases hdd2 : data d' = true
  case neg => rw [if_neg hdd2] at hd; cases hd
  rw [if_pos hdd2] at hd
  cases hd
  show spQ X.K n run ([] ++ dvs) W.H Q E0
  exact call_back (E := E0) (ds := []) rfl hdt S.ok (hdd W) hl.2 e2 hdd2 fun v W2 x2 r2 => q v W2 [] x2 r2
end
/-! ### methods of texts -/
/-- s.m(e): by the signs -/
def MtD (X : Cx) (id : String) (o : List Nat → List D → Option D) : Prop := ∃ r : V → List V → Hp → VK → Prop, MtR X id r ∧ ∀ (W : Wd) (s : List Nat) (ds : List D) (vs : List V) (G : List Addr), WOk W → RL X.K W ds vs G → ∀ d, o s ds = some d →
  ∀ Q : VK, (∀ v W' G, Ext W W' → R X.K W' d v G → Q v W'.H) → r (.str (tr s)) vs W.H Q
def qM0 (o : List Nat → List D → Option D) (f : FQ) : FQ := fun ρ μ => match f ρ μ with
  | some (.str s) => o s []
  | _ => none
def qM1 (o : List Nat → List D → Option D) (f g : FQ) : FQ := fun ρ μ => match f ρ μ with
  | some (.str s) => (g ρ μ).bind fun d => o s [d]
  | _ => none
section
variable {X : Cx} {a e : Expr} {f g : FQ} {name : Str} {apos pos : Pos} {id : String} {o : List Nat → List D → Option D}
theorem pq_m0 (h : MtD X id o) (slot : Slot "str" name id) (ty : typeOf (.builtin id) = pure (.type "method_descriptor")) (ha : PQ X a f) (hbase : attributeBase a name X.env (eval a X.env) = eval a X.env := by rfl) (hline : (apos.endLine == pos.line) = true := by rfl) : PQ X (.Call (.Attribute a name apos) [] [] pos) (qM0 o f) := by
  obtain ⟨r, hr, k2⟩ := h
  obtain ⟨t1, p1, k1⟩ := ha
  refine ⟨_, pe_m0 slot ty hr p1 hbase hline, fun σ W ρ μ F S d hd Q q => ?_⟩
  unfold qM0 at hd
  cases e1 : f ρ μ with
  | none => rw [e1] at hd; cases hd
  | some x =>
    rw [e1] at hd
    refine k1 σ W ρ μ F S x e1 _ fun v W1 G1 x1 r1 => ?_
    cases x with
    | str s =>
      obtain ⟨rfl, _⟩ := r1
      exact ⟨⟨_, rfl⟩, k2 W1 s [] [] [] x1.ok ⟨rfl, rfl⟩ d hd Q fun v W2 G x2 r2 => q v W2 G (x1.trans x2) r2⟩
    | _ => cases hd
theorem pq_m1 (h : MtD X id o) (slot : Slot "str" name id) (ty : typeOf (.builtin id) = pure (.type "method_descriptor")) (ha : PQ X a f) (he : PQ X e g) (hs : starEach [e] X.env = [(false, eval e X.env)] := by rfl) (hbase : attributeBase a name X.env (eval a X.env) = eval a X.env := by rfl) (hline : (apos.endLine == pos.line) = true := by rfl) :
    PQ X (.Call (.Attribute a name apos) [e] [] pos) (qM1 o f g) := by
  obtain ⟨r, hr, k2⟩ := h
  obtain ⟨t1, p1, k1⟩ := ha
  obtain ⟨t3, p3, k3⟩ := he
  refine ⟨_, pe_m1 slot ty hr p1 p3 hs hbase hline, fun σ W ρ μ F S d hd Q q => ?_⟩
  unfold qM1 at hd
  cases e1 : f ρ μ with
  | none => rw [e1] at hd; cases hd
  | some x =>
    rw [e1] at hd
    refine k1 σ W ρ μ F S x e1 _ fun v W1 G1 x1 r1 => ?_
    cases x with
    | str s =>
      obtain ⟨rfl, _⟩ := r1
      obtain ⟨y, e2, hd⟩ := bind_some (show (g ρ μ).bind (fun d => o s [d]) = some d from hd)
      refine ⟨⟨_, rfl⟩, k3 σ W1 ρ μ F (S.ext x1) y e2 _ fun u W2 G2 x2 r2 => ?_⟩
      exact k2 W2 s [y] [u] (G2 ++ []) x2.ok ⟨u, [], G2, [], rfl, r2, ⟨rfl, rfl⟩, rfl⟩ d hd Q fun v W3 G x3 r3 => q v W3 G ((x1.trans x2).trans x3) r3
    | _ => cases hd
/-- both texts -/
def oStr (h : List Nat → List Nat → D) : List Nat → List D → Option D
  | s, [.str t] => some (h s t)
  | _, _ => none
theorem mtd_str {h : Str → Str → V} {g : List Nat → List Nat → D} (r : MtR X id (fun x xs H Q => ∃ a b, x = .str a ∧ xs = [.str b] ∧ Q (h a b) H)) (hg : ∀ (W : Wd) s t, R X.K W (g s t) (h (tr s) (tr t)) []) : MtD X id (oStr g) := by
  refine ⟨_, r, fun W s ds vs G ok rl d hd Q q => ?_⟩
  match ds, hd with
  | [.str t], hd =>
    cases hd
    obtain ⟨v, rfl, r1⟩ := RL_one rl
    obtain ⟨rfl, _⟩ := r1
    exact ⟨tr s, tr t, rfl, rfl, q _ W [] (Ext.refl ok) (hg W s t)⟩
theorem mtd_find : MtD X "str.find" (oStr fun s t => .int (Txt.find (tr s) (tr t))) := mtd_str mt_find fun _ _ _ => ⟨rfl, rfl⟩
theorem mtd_starts : MtD X "str.startswith" (oStr fun s t => .bl (Txt.startswith (tr s) (tr t))) := mtd_str mt_startswith fun _ _ _ => ⟨rfl, rfl⟩
theorem mtd_ends : MtD X "str.endswith" (oStr fun s t => .bl (Txt.endswith (tr s) (tr t))) := mtd_str mt_endswith fun _ _ _ => ⟨rfl, rfl⟩
/-- sep.join(texts) -/
def joinLen (s : List Nat) (ts : List (List Nat)) : Nat := (ts.map (·.length)).sum + ts.length * s.length
def oJoin (s : List Nat) : List D → Option D
  | [x] => (seqD x).bind fun ds => (strsD ds).bind fun ts => if joinLen s ts ≤ LIM then some (.str (TL.joinL s ts)) else none
  | _ => none
theorem tl_tr (s : List Nat) : TL.tl (tr s) = s := rfl
theorem map_tl_tr (ts : List (List Nat)) : (ts.map tr).map TL.tl = ts := by
  rw [List.map_map]
  exact List.map_id _
theorem mtd_join : MtD X "str.join" oJoin := by
  refine ⟨_, mt_join, fun W s ds vs G ok rl d hd Q q => ?_⟩
  match ds, hd with
  | [x], hd =>
    obtain ⟨v, rfl, r1⟩ := RL_one rl
    obtain ⟨es, e1, hd⟩ := bind_some (show (seqD x).bind (fun ds => (strsD ds).bind fun ts => if joinLen s ts ≤ LIM then some (D.str (TL.joinL s ts)) else none) = some d from hd)
    obtain ⟨ts, e2, hd⟩ := bind_some hd
    by_cases hl : joinLen s ts ≤ LIM
    case neg => rw [if_neg hl] at hd; cases hd
    rw [if_pos hl] at hd
    cases hd
    obtain ⟨a, us, G', rfl, h2, h3⟩ := R_seq e1 r1
    rw [R_strs e2 h3] at h2
    refine ⟨tr s, a, ts.map tr, rfl, rfl, h2, ?_, q _ W [] (Ext.refl ok) ⟨?_, rfl⟩⟩
    · have e : ((ts.map tr).map (·.length)).sum + (ts.map tr).length * (tr s).length = joinLen s ts := by
        unfold joinLen
        rw [tr_length, List.length_map, List.map_map]
        congr 2
      rw [e]
      exact Nat.le_trans hl (by decide)
    · rw [TL.join_eq]
      refine congrArg V.str (TL.ext_tl ?_)
      rw [TL.tl_join, map_tl_tr, tl_tr, tl_tr]
end
end Fw
/-! # statements, quiet defs -/
namespace Fw
open PySem PySem.Spec PyProof.Rows L2
open Evl (Ex)
/-- how a statement ends: goes on, returns, breaks, continues, raises (the class, the fields) -/
inductive SO where
  | nx (ρ μ : List D) | rt (d : D) (ρ μ : List D) | bk (ρ μ : List D) | ct (ρ μ : List D) | ex (c : Str) (fs : List (Str × D)) (ρ μ : List D)
abbrev FS := List D → List D → Option SO
def Kept (ob : List Nat) (σ σ' : L2.St) : Prop := ∀ i ∈ ob, σ'[i]? = σ[i]?
theorem Kept.refl {ob : List Nat} {σ : L2.St} : Kept ob σ σ := fun _ _ => rfl
theorem Kept.trans {ob : List Nat} {σ σ' σ'' : L2.St} (h : Kept ob σ σ') (g : Kept ob σ' σ'') : Kept ob σ σ'' := fun i hi => (g i hi).trans (h i hi)
theorem Kept.set {ob : List Nat} {σ : L2.St} {i : Nat} {o : Option V} (h : i ∉ ob) : Kept ob σ (σ.set i o) := fun j hj => List.getElem?_set_ne (fun z => h (by rw [z]; exact hj))
/-- an exception's own fields, at its dict -/
def ExAt (K : PySem.W.Frag) (W : Wd) (fs : List (Str × D)) (dx : Option Addr) : Prop := (fs = [] ∧ dx = none) ∨ (∃ x d a v, fs = [(x, d)] ∧ dx = some a ∧ W.H a = some (.xd [(x, v)]) ∧ R K W d v [])
def Goes (K : PySem.W.Frag) (ob : List Nat) (Wx : WX) (E : Ends) (σ : L2.St) (W : Wd) (F : List Addr) : SO → Prop
  | .nx ρ' μ' => ∀ σ' W' F', Sta K W' σ' ρ' μ' F' → Mv W W' F F' → Kept ob σ σ' → E.nx σ' W'.H
  | .bk ρ' μ' => ∀ σ' W' F', Sta K W' σ' ρ' μ' F' → Mv W W' F F' → Kept ob σ σ' → E.bk σ' W'.H
  | .ct ρ' μ' => ∀ σ' W' F', Sta K W' σ' ρ' μ' F' → Mv W W' F F' → Kept ob σ σ' → E.ct σ' W'.H
  | .rt d ρ' μ' => ∀ v σ' W' G F', R K W' d v G → Sta K W' σ' ρ' μ' F' → (G ++ F').Nodup → (∀ a ∈ G, Own W' a) → Mv W W' F (G ++ F') → Kept ob σ σ' → E.rt v W'.H
  | .ex c fs ρ' μ' => ∀ dx σ' W' F', ExAt K W' fs dx → Sta K W' σ' ρ' μ' F' → Mv W W' F F' → Kept ob σ σ' → Wx (.ref (He.ga K c)) dx σ' W'.H
def PS1 (X : Cx) (ob : List Nat) (Wx : WX) (st : Stmt) (f : FS) : Prop := ∃ ts : TS, PS X st ts ∧ ∀ (E : Ends) (σ : L2.St) (W : Wd) (ρ μ : List D) (F : List Addr), Sta X.K W σ ρ μ F → ∀ o, f ρ μ = some o → Goes X.K ob Wx E σ W F o → ts E σ W.H
def PSS (X : Cx) (ob : List Nat) (Wx : WX) (ss : List Stmt) (f : FS) : Prop := ∃ ts : TS, PSs X ss ts ∧ ∀ (E : Ends) (σ : L2.St) (W : Wd) (ρ μ : List D) (F : List Addr), Sta X.K W σ ρ μ F → ∀ o, f ρ μ = some o → Goes X.K ob Wx E σ W F o → ts E σ W.H
/-- from a later point, what was wanted at the earlier one -/
theorem Goes.after {K : PySem.W.Frag} {ob : List Nat} {Wx : WX} {E : Ends} {σ σ1 : L2.St} {W W1 : Wd} {F F1 : List Addr} {o : SO} (h : Goes K ob Wx E σ W F o) (m : Mv W W1 F F1) (kp : Kept ob σ σ1) : Goes K ob Wx E σ1 W1 F1 o := by
  cases o with
  | nx ρ' μ' => exact fun σ' W' F' S mv kp' => h σ' W' F' S (m.trans mv) (kp.trans kp')
  | bk ρ' μ' => exact fun σ' W' F' S mv kp' => h σ' W' F' S (m.trans mv) (kp.trans kp')
  | ct ρ' μ' => exact fun σ' W' F' S mv kp' => h σ' W' F' S (m.trans mv) (kp.trans kp')
  | rt d ρ' μ' => exact fun v σ' W' G F' r S nd own mv kp' => h v σ' W' G F' r S nd own (m.trans mv) (kp.trans kp')
  | ex c fs ρ' μ' => exact fun dx σ' W' F' r S mv kp' => h dx σ' W' F' r S (m.trans mv) (kp.trans kp')
theorem Ext.mvr {W W' : Wd} {F : List Addr} (e : Ext W W') : Mv W W' F F := e.mv fun _ h => h
section
variable {X : Cx} {ob : List Nat} {Wx : WX} {st : Stmt} {rest ss ss' : List Stmt} {f g : FS} {e a : Expr} {q q' : FQ} {t : FB} {pos : Pos}
/-! ### one behind the other -/
def fNext : FS := fun ρ μ => some (.nx ρ μ)
def fSeq (f g : FS) : FS := fun ρ μ => (f ρ μ).bind fun o => match o with
  | .nx ρ' μ' => g ρ' μ'
  | o => some o
theorem pss_nil' : PSS X ob Wx [] fNext := ⟨_, pss_nil, fun E σ W ρ μ F S o ho h => by
  cases ho
  exact h σ W F S (Ext.refl S.ok).mvr Kept.refl⟩
theorem seq_run {t u : TS} (k1 : ∀ (E : Ends) (σ : L2.St) (W : Wd) (ρ μ : List D) (F : List Addr), Sta X.K W σ ρ μ F → ∀ o, f ρ μ = some o → Goes X.K ob Wx E σ W F o → t E σ W.H)
    (k2 : ∀ (E : Ends) (σ : L2.St) (W : Wd) (ρ μ : List D) (F : List Addr), Sta X.K W σ ρ μ F → ∀ o, g ρ μ = some o → Goes X.K ob Wx E σ W F o → u E σ W.H)
    (E : Ends) (σ : L2.St) (W : Wd) (ρ μ : List D) (F : List Addr) (S : Sta X.K W σ ρ μ F) (o : SO) (ho : fSeq f g ρ μ = some o) (h : Goes X.K ob Wx E σ W F o) : tSeq t u E σ W.H := by
  obtain ⟨o1, e1, ho⟩ := bind_some ho
  refine k1 { E with nx := u E } σ W ρ μ F S o1 e1 ?_
  cases o1 with
  | nx ρ1 μ1 => exact fun σ1 W1 F1 S1 m1 kp => k2 E σ1 W1 ρ1 μ1 F1 S1 o ho (h.after m1 kp)
  | _ =>
    cases ho
    exact h
theorem pss_cons' (h1 : PS1 X ob Wx st f) (h2 : PSS X ob Wx rest g) : PSS X ob Wx (st :: rest) (fSeq f g) := by
  obtain ⟨t1, p1, k1⟩ := h1
  obtain ⟨t2, p2, k2⟩ := h2
  exact ⟨_, pss_cons p1 p2, seq_run k1 k2⟩
theorem pss_one' (h1 : PS1 X ob Wx st f) : PSS X ob Wx [st] f := by
  obtain ⟨t1, p1, k1⟩ := h1
  exact ⟨_, pss_one p1, k1⟩
theorem ps1_pass : PS1 X ob Wx (.Pass pos) fNext := ⟨_, ps_pass, fun E σ W ρ μ F S o ho h => by
  cases ho
  exact h σ W F S (Ext.refl S.ok).mvr Kept.refl⟩
/-! ### a name is set -/
def fSet (i : Nat) (q : FQ) : FS := fun ρ μ => (q ρ μ).bind fun d => if data d = true then some (.nx (ρ.set i d) μ) else none
theorem set_run {te : TE} {i : Nat} (k1 : ∀ (σ : L2.St) (W : Wd) (ρ μ : List D) (F : List Addr), Sta X.K W σ ρ μ F → ∀ d, q ρ μ = some d → ∀ Q : VK, (∀ v W' G, Ext W W' → R X.K W' d v G → Q v W'.H) → te σ W.H Q) (hi : i ∉ ob)
    (E : Ends) (σ : L2.St) (W : Wd) (ρ μ : List D) (F : List Addr) (S : Sta X.K W σ ρ μ F) (o : SO) (ho : fSet i q ρ μ = some o) (h : Goes X.K ob Wx E σ W F o) : tAsg te (gName i) E σ W.H := by
  obtain ⟨d, e1, ho⟩ := bind_some ho
  by_cases hd : data d = true
  case neg => rw [if_neg hd] at ho; cases ho
  rw [if_pos hd] at ho
  cases ho
  refine k1 σ W ρ μ F S d e1 _ fun v W1 G x1 r1 => ?_
  have z := R_data d hd r1
  subst z
  obtain ⟨F', S', sub⟩ := (S.ext x1).set (i := i) (R1_of r1)
  exact h _ W1 F' S' (x1.mv sub) (Kept.set hi)
theorem ps1_set {i : Nat} {x : Str} {pos' : Pos} (hN : X.N.Nodup) (hi : X.N[i]? = some x) (hx : Loc X.env.scope x) (he : PQ X e q) (hs : swapsWith e (some (.Name x pos')) pos.line X.env = pure false := by rfl) (hf : X.fn x = true ∨ X.env.scope.names.lookup x = some .local := by first | exact .inl rfl | exact .inr rfl) (ho : i ∉ ob := by decide) :
    PS1 X ob Wx (.Assign [.Name x pos'] e pos) (fSet i q) := by
  obtain ⟨te, p, k⟩ := he
  exact ⟨_, ps_set hN hi hx p hs hf, set_run k ho⟩
/-- a name gets a new list, its own -/
def fSetN (i : Nat) (k : FA) : FS := fun ρ μ => (k ρ μ).map fun ds => .nx (ρ.set i (.ml ds)) μ
theorem Sta.setN {K : PySem.W.Frag} {W W' : Wd} {σ : L2.St} {ρ μ ds : List D} {F : List Addr} {i : Nat} {p : Addr} (S : Sta K W σ ρ μ F) (n : NewL K W W' ds p) : ∃ F', Sta K W' (σ.set i (some (.ref p))) (ρ.set i (.ml ds)) μ F' ∧ Mv W W' F F' := by
  obtain ⟨x, new, nofr, vs, h1, h2⟩ := n
  have S1 := S.ext x
  obtain ⟨⟨F1, F2, q1, q2, q3⟩, nd, own, ok⟩ := S1
  have r : R K W' (.ml ds) (.ref p) [p] := ⟨p, vs, [], rfl, h1, h2, rfl⟩
  have pF : p ∉ F := fun z => by
    obtain ⟨_, w⟩ := S.own p z
    rcases w with ⟨xs, w⟩ | ⟨C, dx, fs, w⟩ <;> rw [new] at w <;> cases w
  by_cases hi : i < ρ.length
  · obtain ⟨A, B, C, e1, e2⟩ := RS_set (R1_of r) q1 hi
    have sub : (A ++ C ++ F2).Sublist F := by
      rw [q3, e1]
      exact List.Sublist.append (List.Sublist.append (List.Sublist.refl A) (List.sublist_append_right B C)) (List.Sublist.refl F2)
    have pm : (A ++ ([p] ++ C) ++ F2).Perm (p :: (A ++ C ++ F2)) := by
      rw [List.append_assoc, List.append_assoc, List.append_assoc]
      exact List.perm_middle
    refine ⟨A ++ ([p] ++ C) ++ F2, ⟨⟨_, F2, e2, q2, rfl⟩, pm.nodup_iff.mpr (List.nodup_cons.mpr ⟨fun z => pF (sub.subset z), nd.sublist sub⟩), fun a ha => ?_, ok⟩, ⟨fun a o h _ => x.ex a o h, x.fr, fun a h => (x.nf a h).elim .inl fun z => .inr (.inl z), fun a ha => ?_, ⟨[], by rw [x.m, List.append_nil]⟩⟩⟩
    · rcases List.mem_cons.mp (pm.mem_iff.mp ha) with z | z
      · subst z
        exact ⟨nofr, .inl ⟨vs, h1⟩⟩
      · exact own a (sub.subset z)
    · rcases List.mem_cons.mp (pm.mem_iff.mp ha) with z | z
      · subst z
        exact .inr new
      · exact .inl (sub.subset z)
  · have hl := RS_len q1
    rw [List.set_eq_of_length_le (by omega), List.set_eq_of_length_le (by omega)]
    exact ⟨F, ⟨⟨F1, F2, q1, q2, q3⟩, nd, own, ok⟩, x.mvr⟩
theorem setN_run {te : TE} {i : Nat} {k : FA} (k1 : ∀ (σ : L2.St) (W : Wd) (ρ μ : List D) (F : List Addr), Sta X.K W σ ρ μ F → ∀ ds, k ρ μ = some ds → ∀ Q : VK, (∀ p W', NewL X.K W W' ds p → Q (.ref p) W'.H) → te σ W.H Q) (hi : i ∉ ob)
    (E : Ends) (σ : L2.St) (W : Wd) (ρ μ : List D) (F : List Addr) (S : Sta X.K W σ ρ μ F) (o : SO) (ho : fSetN i k ρ μ = some o) (h : Goes X.K ob Wx E σ W F o) : tAsg te (gName i) E σ W.H := by
  obtain ⟨ds, e1, z⟩ := map_some ho
  subst z
  refine k1 σ W ρ μ F S ds e1 _ fun p W1 n => ?_
  obtain ⟨F', S', m⟩ := S.setN (i := i) n
  exact h _ W1 F' S' m (Kept.set hi)
theorem ps1_setN {i : Nat} {x : Str} {pos' : Pos} {k : FA} (hN : X.N.Nodup) (hi : X.N[i]? = some x) (hx : Loc X.env.scope x) (he : PN X e k) (hs : swapsWith e (some (.Name x pos')) pos.line X.env = pure false := by rfl) (hf : X.fn x = true ∨ X.env.scope.names.lookup x = some .local := by first | exact .inl rfl | exact .inr rfl) (ho : i ∉ ob := by decide) :
    PS1 X ob Wx (.Assign [.Name x pos'] e pos) (fSetN i k) := by
  obtain ⟨te, p, k1⟩ := he
  exact ⟨_, ps_set hN hi hx p hs hf, setN_run k1 ho⟩
/-- y = [.. for ..] on one line: the list is the name's own, or stands still at once -/
theorem ps1_setLc {i : Nat} {y : Str} {py : Pos} {elt tg iter : Expr} {ifs : List Expr} {scope : Scope} {own : List (Str × Nat)} {spos : Pos} {it : FA} {g : D → List D → Option (List D)} {t : FB} {q : FQ} (hc : X.calm = true) (hN : X.N.Nodup) (hy : X.N[i]? = some y) (hyl : X.env.scope.names.lookup y = some .local)
    (hsw : swapsWith (.ListComp elt [⟨tg, iter, ifs, 0⟩] scope pos) (some (.Name y py)) spos.line X.env = pure true) (hi : PIQ X tg iter it) (ok : BlkOk X.N X.env.scope scope own)
    (hg : ∀ (s : Shared) (H : Hp) (C : Addr) (cl : List (Str × Addr)) (fp : List Addr), PGD (X.blk s H scope (compEnvC scope cl C X.env) fp) tg (own.map (·.2)) g)
    (ht : ∀ (s : Shared) (H : Hp) (C : Addr) (cl : List (Str × Addr)) (fp : List Addr), PTsB (X.blk s H scope (compEnvC scope cl C X.env) fp) ifs t)
    (he : ∀ (s : Shared) (H : Hp) (C : Addr) (cl : List (Str × Addr)) (fp : List Addr), PQ (X.blk s H scope (compEnvC scope cl C X.env) fp) elt q)
    (hs : ∀ x, foldedSetIterable iter X.env x = pure x := by intro _; rfl) (ho : i ∉ ob := by decide) : PS1 X ob Wx (.Assign [.Name y py] (.ListComp elt [⟨tg, iter, ifs, 0⟩] scope pos) spos) (fSetN i (qLc it g (own.map (·.2)) t q)) := by
  obtain ⟨wi, p0, k0⟩ := hi
  exact ⟨_, ps_setLc (g := gTv X.K (own.map (·.2)) g) (tt := tBv X.K t) (te := tEv X.K q) hc hN hy hyl hsw p0 ok (fun s H C cl fp => (hg s H C cl fp).can) (fun s H C cl fp => ht s H C cl fp) (fun s H C cl fp => (he s H C cl fp).can) hs,
    setN_run (fun σ W ρ μ F S out hd Q q => lc_run k0 σ W ρ μ F S out hd Q q) ho⟩
/-! ### an own list that nobody will change any more -/
def fzAt (i : Nat) (ρ : List D) : List D := match ρ[i]? with
  | some (.ml ds) => if dataL ds = true then ρ.set i (.lst ds) else ρ
  | _ => ρ
def fFz (i : Nat) (f : FS) : FS := fun ρ μ => f (fzAt i ρ) μ
theorem RS_set' {K : PySem.W.Frag} {W W' : Wd} {d' : D} {i : Nat} : ∀ {ρ : List D} {σ : List (Option V)} {F : List Addr} {j : Nat} {d : D}, RS K W ρ σ F → ρ[j]? = some d → d ≠ .un → ∃ v A B C, σ[j]? = some (some v) ∧ F = A ++ (B ++ C) ∧ R K W d v B ∧
    ∀ (G : List Addr), R K W d' v G → RS K W (ρ.set j d') σ (A ++ (G ++ C))
  | [], _, _, j, _, _, h, _ => by simp at h
  | d0 :: ρ, _, _, 0, d, h, h1, h2 => by
    obtain ⟨o, σ', F1, F2, e1, e2, e3, e4⟩ := h
    have e : d0 = d := Option.some.inj h1
    subst e
    rw [R1_iff] at e2
    rcases e2 with ⟨q, _⟩ | ⟨v, q1, q2⟩
    · exact absurd q h2
    · subst q1
      exact ⟨v, [], F1, F2, by rw [e1]; rfl, e4, q2, fun G r => ⟨some v, σ', G, F2, e1, R1_of r, e3, rfl⟩⟩
  | d0 :: ρ, _, _, j + 1, d, h, h1, h2 => by
    obtain ⟨o, σ', F1, F2, e1, e2, e3, e4⟩ := h
    obtain ⟨v, A, B, C, q1, q2, q3, q4⟩ := RS_set' (W' := W) (d' := d') (i := i) (j := j) e3 (by simpa using h1) h2
    refine ⟨v, F1 ++ A, B, C, by rw [e1]; simpa using q1, by rw [e4, q2, List.append_assoc], q3, fun G r => ?_⟩
    exact ⟨o, σ', F1, A ++ (G ++ C), e1, e2, q4 G r, by rw [List.append_assoc]⟩
theorem Sta.fz {K : PySem.W.Frag} {W : Wd} {σ : L2.St} {ρ μ : List D} {F : List Addr} (i : Nat) (S : Sta K W σ ρ μ F) : ∃ W' F', W'.H = W.H ∧ Sta K W' σ (fzAt i ρ) μ F' ∧ Mv W W' F F' := by
  have none_ : ∃ W' F', W'.H = W.H ∧ Sta K W' σ ρ μ F' ∧ Mv W W' F F' := ⟨W, F, rfl, S, (Ext.refl S.ok).mvr⟩
  unfold fzAt
  split
  case h_2 => exact none_
  case h_1 ds heq =>
    by_cases hd : dataL ds = true
    case neg => rw [if_neg hd]; exact none_
    rw [if_pos hd]
    obtain ⟨⟨F1, F2, h1, h2, h3⟩, nd, own, ok⟩ := S
    have look : ∀ (W' : Wd), ∃ v A B C, σ[i]? = some (some v) ∧ F1 = A ++ (B ++ C) ∧ R K W (.ml ds) v B ∧ True := fun _ => by
      obtain ⟨v, A, B, C, q1, q2, q3, _⟩ := RS_set' (W' := W) (d' := .non) (i := i) (j := i) h1 heq (fun z => nomatch z)
      exact ⟨v, A, B, C, q1, q2, q3, trivial⟩
    obtain ⟨v, A, B, C, q1, q2, ⟨a, vs, F', rfl, hH, hR, hB⟩, _⟩ := look W
    have z := RL_data ds hd hR
    subst z
    subst hB
    have aF : a ∈ F := by
      rw [h3, q2]
      simp
    -- the world where a stands still
    have lt : Lt W ⟨W.H, fun b => W.Fr b ∨ b = a, W.m⟩ := ⟨fun _ _ z => z, fun _ _ z => ⟨z.1, Or.inl z.2⟩, fun _ _ _ _ z z' => ⟨z, Or.inl z'⟩, fun _ _ z => z⟩
    have same : ∀ (d : D) (v : V) (G : List Addr), R K W d v G → R K ⟨W.H, fun b => W.Fr b ∨ b = a, W.m⟩ d v G := fun d v G r => R_same lt rfl d r
    have h1' : RS K ⟨W.H, fun b => W.Fr b ∨ b = a, W.m⟩ ρ σ F1 := RS_same lt rfl h1
    obtain ⟨v', A', B', C', p1, p2, p3, p4⟩ := RS_set' (W' := W) (d' := .lst ds) (i := i) (j := i) h1' heq (fun z => nomatch z)
    rw [q1] at p1
    cases p1
    obtain ⟨a', vs', F'', e1, e2, e3, e4⟩ := p3
    cases e1
    have z2 := RL_data ds hd e3
    subst z2
    subst e4
    have r2 : R K ⟨W.H, fun b => W.Fr b ∨ b = a, W.m⟩ (.lst ds) (.ref a) [] := ⟨a, vs', rfl, Or.inl ⟨Or.inl e2, Or.inr rfl⟩, e3, rfl⟩
    have p5 := p4 [] r2
    have sub : (A' ++ ([] ++ C') ++ F2).Sublist F := by
      rw [h3, p2]
      exact List.Sublist.append (List.Sublist.append (List.Sublist.refl A') (List.Sublist.append (List.nil_sublist _) (List.Sublist.refl C'))) (List.Sublist.refl F2)
    have na : a ∉ A' ++ ([] ++ C') ++ F2 := fun z => by
      rw [h3, p2] at nd
      have pm : (A' ++ ([a] ++ C') ++ F2).Perm (a :: (A' ++ C' ++ F2)) := by
        rw [List.append_assoc, List.append_assoc, List.append_assoc]
        exact List.perm_middle
      have nd2 := pm.nodup_iff.mp nd
      rw [List.nil_append] at z
      exact (List.nodup_cons.mp nd2).1 z
    refine ⟨⟨W.H, fun b => W.Fr b ∨ b = a, W.m⟩, _, rfl, ⟨⟨_, F2, p5, RL_same lt rfl μ h2, rfl⟩, nd.sublist sub, fun b hb => ?_, fun b hb => ?_⟩, ⟨fun b o h _ => h, fun b h => .inl h, fun b h => ?_, fun b hb => .inl (sub.subset hb), ⟨[], (List.append_nil _).symm⟩⟩⟩
    · obtain ⟨w1, w2⟩ := own b (sub.subset hb)
      exact ⟨fun z => z.elim w1 fun z => na (z ▸ hb), w2⟩
    · rcases hb with hb | hb
      · exact ok b hb
      · show W.H b ≠ none
        rw [hb, hH]
        exact fun z => nomatch z
    · rcases h with h | h
      · exact .inl h
      · exact .inr (.inr (by rw [h]; exact aF))
theorem pss_fz (i : Nat) (h : PSS X ob Wx ss f) : PSS X ob Wx ss (fFz i f) := by
  obtain ⟨t1, p1, k1⟩ := h
  refine ⟨_, p1, fun E σ W ρ μ F S o ho h => ?_⟩
  obtain ⟨W', F', e, S', m⟩ := S.fz i
  have z := k1 E σ W' _ μ F' S' o ho (h.after m Kept.refl)
  rw [e] at z
  exact z
theorem ps1_fz (i : Nat) (h : PS1 X ob Wx st f) : PS1 X ob Wx st (fFz i f) := by
  obtain ⟨t1, p1, k1⟩ := h
  refine ⟨_, p1, fun E σ W ρ μ F S o ho h => ?_⟩
  obtain ⟨W', F', e, S', m⟩ := S.fz i
  have z := k1 E σ W' _ μ F' S' o ho (h.after m Kept.refl)
  rw [e] at z
  exact z
end
end Fw
/-! # more statements; a def as a whole -/
namespace Fw
open PySem PySem.Spec PyProof.Rows L2
open Evl (Ex)
/-! ### a change at one's own places -/
section
variable {K : PySem.W.Frag} {W W' : Wd}
mutual
theorem R_keep (e : Lt W W') : ∀ (d : D) {v : V} {F : List Addr}, (∀ b ∈ F, W'.H b = W.H b) → R K W d v F → R K W' d v F
  | .non, _, _, _, h => h
  | .bl _, _, _, _, h => h
  | .int _, _, _, _, h => h
  | .str _, _, _, _, h => h
  | .tup ds, _, _, k, h => by
    obtain ⟨a, vs, h1, h2, h3⟩ := h
    exact ⟨a, vs, h1, e.sqT h2, RL_keep e ds k h3⟩
  | .lst ds, _, _, k, h => by
    obtain ⟨a, vs, h1, h2, h3, h4⟩ := h
    exact ⟨a, vs, h1, h2.lt e, RL_keep e ds (fun b hb => nomatch hb) h3, h4⟩
  | .ml ds, _, _, k, h => by
    obtain ⟨a, vs, F', h1, h2, h3, h4⟩ := h
    subst h4
    exact ⟨a, vs, F', h1, by rw [k a (List.mem_cons_self ..)]; exact h2, RL_keep e ds (fun b hb => k b (List.mem_cons_of_mem _ hb)) h3, rfl⟩
  | .obj c ns ds, _, _, k, h => by
    obtain ⟨a, dx, vs, F', h1, h2, h3, h4, h5⟩ := h
    subst h5
    exact ⟨a, dx, vs, F', h1, by rw [k a (List.mem_cons_self ..)]; exact h2, h3, RL_keep e ds (fun b hb => k b (List.mem_cons_of_mem _ hb)) h4, rfl⟩
  | .fo c ns ds, _, _, k, h => by
    obtain ⟨a, dx, vs, h1, h2, h3, h4, h5, h6⟩ := h
    obtain ⟨q1, q2⟩ := e.fi _ _ _ _ h2 h3
    exact ⟨a, dx, vs, h1, q1, q2, h4, RL_keep e ds (fun b hb => nomatch hb) h5, h6⟩
  | .ref k', _, _, k, h => by
    obtain ⟨a, h1, h2, h3⟩ := h
    exact ⟨a, h1, e.m _ _ h2, h3⟩
  | .un, _, _, _, h => h.elim
theorem RL_keep (e : Lt W W') : ∀ (ds : List D) {vs : List V} {F : List Addr}, (∀ b ∈ F, W'.H b = W.H b) → RL K W ds vs F → RL K W' ds vs F
  | [], _, _, _, h => h
  | d :: ds, _, _, k, h => by
    obtain ⟨v, vs', F1, F2, h1, h2, h3, h4⟩ := h
    subst h4
    exact ⟨v, vs', F1, F2, h1, R_keep e d (fun b hb => k b (List.mem_append_left _ hb)) h2, RL_keep e ds (fun b hb => k b (List.mem_append_right _ hb)) h3, rfl⟩
end
theorem R1_keep (e : Lt W W') {d : D} {o : Option V} {F : List Addr} (k : ∀ b ∈ F, W'.H b = W.H b) (h : R1 K W d o F) : R1 K W' d o F := by
  rw [R1_iff] at h ⊢
  rcases h with h | ⟨v, h1, h2⟩
  · exact .inl h
  · exact .inr ⟨v, h1, R_keep e d k h2⟩
theorem RS_keep (e : Lt W W') : ∀ {ds : List D} {σ : List (Option V)} {F : List Addr}, (∀ b ∈ F, W'.H b = W.H b) → RS K W ds σ F → RS K W' ds σ F
  | [], _, _, _, h => h
  | d :: ds, _, _, k, h => by
    obtain ⟨o, σ', F1, F2, h1, h2, h3, h4⟩ := h
    subst h4
    exact ⟨o, σ', F1, F2, h1, R1_keep e (fun b hb => k b (List.mem_append_left _ hb)) h2, RS_keep e (fun b hb => k b (List.mem_append_right _ hb)) h3, rfl⟩
/-- one slot seen apart from the others -/
theorem RS_lens : ∀ {ρ : List D} {σ : List (Option V)} {F : List Addr} {j : Nat} {d : D}, RS K W ρ σ F → ρ[j]? = some d → d ≠ .un → ∃ v A B C, σ[j]? = some (some v) ∧ F = A ++ (B ++ C) ∧ R K W d v B ∧
    ∀ (W' : Wd) (d' : D) (G : List Addr), Lt W W' → (∀ b ∈ A ++ C, W'.H b = W.H b) → R K W' d' v G → RS K W' (ρ.set j d') σ (A ++ (G ++ C))
  | [], _, _, j, _, _, h, _ => by simp at h
  | d0 :: ρ, _, _, 0, d, h, h1, h2 => by
    obtain ⟨o, σ', F1, F2, e1, e2, e3, e4⟩ := h
    have e : d0 = d := Option.some.inj h1
    subst e
    rw [R1_iff] at e2
    rcases e2 with ⟨q, _⟩ | ⟨v, q1, q2⟩
    · exact absurd q h2
    · subst q1
      exact ⟨v, [], F1, F2, by rw [e1]; rfl, e4, q2, fun W' d' G lt k r => ⟨some v, σ', G, F2, e1, R1_of r, RS_keep lt (fun b hb => k b hb) e3, rfl⟩⟩
  | d0 :: ρ, _, _, j + 1, d, h, h1, h2 => by
    obtain ⟨o, σ', F1, F2, e1, e2, e3, e4⟩ := h
    obtain ⟨v, A, B, C, q1, q2, q3, q4⟩ := RS_lens (j := j) e3 (by simpa using h1) h2
    refine ⟨v, F1 ++ A, B, C, by rw [e1]; simpa using q1, by rw [e4, q2, List.append_assoc], q3, fun W' d' G lt k r => ?_⟩
    refine ⟨o, σ', F1, A ++ (G ++ C), e1, R1_keep lt (fun b hb => k b ?_) e2, q4 W' d' G lt (fun b hb => k b ?_) r, by rw [List.append_assoc]⟩
    · exact List.mem_append_left _ (List.mem_append_left _ hb)
    · rcases List.mem_append.mp hb with z | z
      · exact List.mem_append_left _ (List.mem_append_right _ z)
      · exact List.mem_append_right _ z
end
section
variable {X : Cx} {ob : List Nat} {Wx : WX} {st : Stmt} {rest ss ss' : List Stmt} {f g : FS} {e a : Expr} {q q' : FQ} {t : FB} {pos : Pos}
/-! ### if, return -/
def fIf (t : FB) (f g : FS) : FS := fun ρ μ => (t ρ μ).bind fun b => if b = true then f ρ μ else g ρ μ
theorem ps1_if (hc : PB X e t) (ha : PSS X ob Wx ss f) (hb : PSS X ob Wx ss' g) : PS1 X ob Wx (.If e ss ss' pos) (fIf t f g) := by
  obtain ⟨t0, p0, k0⟩ := hc
  obtain ⟨t1, p1, k1⟩ := ha
  obtain ⟨t2, p2, k2⟩ := hb
  refine ⟨_, ps_if p0 p1 p2, fun E σ W ρ μ F S o ho h => ?_⟩
  obtain ⟨b, e1, ho⟩ := bind_some ho
  refine k0 σ W ρ μ F S b e1 _ fun W1 x1 => ?_
  cases b with
  | true =>
    rw [if_pos rfl] at ho ⊢
    exact k1 E σ W1 ρ μ F (S.ext x1) o ho (h.after x1.mvr Kept.refl)
  | false =>
    rw [if_neg Bool.false_ne_true] at ho ⊢
    exact k2 E σ W1 ρ μ F (S.ext x1) o ho (h.after x1.mvr Kept.refl)
def fRet (q : FQ) : FS := fun ρ μ => (q ρ μ).bind fun d => if data d = true then some (.rt d ρ μ) else none
theorem ps1_ret (he : PQ X e q) : PS1 X ob Wx (.Return (some e) pos) (fRet q) := by
  obtain ⟨te, p, k⟩ := he
  refine ⟨_, ps_ret p, fun E σ W ρ μ F S o ho h => ?_⟩
  obtain ⟨d, e1, ho⟩ := bind_some ho
  by_cases hd : data d = true
  case neg => rw [if_neg hd] at ho; cases ho
  rw [if_pos hd] at ho
  cases ho
  refine k σ W ρ μ F S d e1 _ fun v W1 G x1 r1 => ?_
  have z := R_data d hd r1
  subst z
  exact h v σ W1 [] F r1 (S.ext x1) S.nd (fun _ hb => nomatch hb) x1.mvr Kept.refl
def fRetN : FS := fun ρ μ => some (.rt .non ρ μ)
theorem ps1_retN : PS1 X ob Wx (.Return none pos) fRetN := ⟨_, ps_retN, fun E σ W ρ μ F S o ho h => by
  cases ho
  exact h .non σ W [] F ⟨rfl, rfl⟩ S S.nd (fun _ hb => nomatch hb) (Ext.refl S.ok).mvr Kept.refl⟩
/-! ### for -/
def forL (g : D → List D → Option (List D)) (b : FS) : List D → List D → List D → Option SO
  | ρ, μ, [] => some (.nx ρ μ)
  | ρ, μ, d :: ds => (g d ρ).bind fun ρ1 => (b ρ1 μ).bind fun o => match o with
    | .nx ρ2 μ2 => forL g b ρ2 μ2 ds
    | .ct ρ2 μ2 => forL g b ρ2 μ2 ds
    | .bk ρ2 μ2 => some (.nx ρ2 μ2)
    | o => some o
def fFor (it : FA) (g : D → List D → Option (List D)) (b : FS) : FS := fun ρ μ => (it ρ μ).bind fun ds => forL g b ρ μ ds
theorem wipe_other : ∀ {vs : List Nat} {σ : L2.St} {i : Nat}, i ∉ vs → (wipe σ vs)[i]? = σ[i]?
  | [], _, _, _ => rfl
  | v :: vs, σ, i, h => by
    show ((wipe σ vs).set v none)[i]? = σ[i]?
    rw [List.getElem?_set_ne (fun z => h (by rw [z]; exact List.mem_cons_self ..)), wipe_other fun z => h (List.mem_cons_of_mem _ z)]
theorem Kept.of_wipe {vs : List Nat} {σ σ' : L2.St} (h : wipe σ' vs = wipe σ vs) (d : ∀ i ∈ ob, i ∉ vs) : Kept ob σ σ' := fun i hi => by
  rw [← wipe_other (d i hi) (σ := σ'), h, wipe_other (d i hi)]
theorem ps1_for {tg iter : Expr} {body : List Stmt} {vs : List Nat} {it : FA} {gt : D → List D → Option (List D)} {b : FS} (hp : PassesOwn (model X.prog X.w) X.A X.env X.xe) (hc : X.calm = true) (hi : PIF X tg iter it) (hg : PGD X tg vs gt) (hb : PSS X ob Wx body b)
    (hs : ∀ x, foldedSetIterable iter X.env x = pure x := by intro _; rfl) (hv : ∀ i ∈ ob, i ∉ vs := by decide) : PS1 X ob Wx (.For tg iter body [] pos) (fFor it gt b) := by
  obtain ⟨wi, p0, k0⟩ := hi
  obtain ⟨tgt, p1, k1⟩ := hg
  obtain ⟨tb, p2, k2⟩ := hb
  refine ⟨_, ps_for hp hc p0 p1 p2 hs, fun E σ W ρ μ F S o ho h => ?_⟩
  obtain ⟨ds, e1, ho⟩ := bind_some ho
  refine k0 σ W ρ μ F S ds e1 _ fun J W1 x1 itd => ?_
  have S1 := S.ext x1
  refine ⟨fun i m σ2 H => m = ds.length - i ∧ i ≤ ds.length ∧ ∃ (W2 : Wd) (ρ2 μ2 : List D) (F2 : List Addr), W2.H = H ∧ Sta X.K W2 σ2 ρ2 μ2 F2 ∧ Mv W1 W2 F F2 ∧ Kept ob σ σ2 ∧ forL gt b ρ2 μ2 (ds.drop i) = some o, ⟨_, rfl, Nat.zero_le _, W1, ρ, μ, F, rfl, S1, (Ext.refl x1.ok).mvr, Kept.refl, ho⟩, ?_⟩
  rintro i m σ2 H ⟨rfl, hil, W2, ρ2, μ2, F2, rfl, S2, mv2, kp2, ho2⟩
  have lt2 := mv2.lt S1.own
  have h2 := h.after (x1.mvr.trans mv2) kp2
  by_cases hlt : i < ds.length
  · refine .inr ⟨itd.go i W2 lt2 hlt, ?_⟩
    have ed : ds.drop i = ds[i] :: ds.drop (i + 1) := List.drop_eq_getElem_cons hlt
    rw [ed] at ho2
    obtain ⟨ρ', e2, ho2⟩ := bind_some (show (gt ds[i] ρ2).bind _ = some o from ho2)
    obtain ⟨o1, e3, ho2⟩ := bind_some ho2
    refine ⟨fun σ3 H3 => i + 1 ≤ ds.length ∧ ∃ (W2 : Wd) (ρ2 μ2 : List D) (F2 : List Addr), W2.H = H3 ∧ Sta X.K W2 σ3 ρ2 μ2 F2 ∧ Mv W1 W2 F F2 ∧ Kept ob σ σ3 ∧ forL gt b ρ2 μ2 (ds.drop (i + 1)) = some o,
      fun σ3 H3 n => ⟨ds.length - (i + 1), by omega, rfl, n⟩, fun x H' hy => ?_⟩
    obtain ⟨W3, d, hW3, hd3, x3, r3⟩ := itd.yl i W2 x H' lt2 S2.ok hlt hy
    subst hW3
    rw [List.getElem?_eq_getElem hlt] at hd3
    cases hd3
    refine k1 σ2 W3 ρ2 μ2 F2 ds[i] x (S2.ext x3) r3 ρ' e2 _ fun σ3 F3 S3 sub hw => ?_
    have kp3 : Kept ob σ2 σ3 := Kept.of_wipe hw hv
    have mv3 : Mv W2 W3 F2 F3 := x3.mv sub
    refine k2 _ σ3 W3 ρ' μ2 F3 S3 o1 e3 ?_
    cases o1 with
    | nx ρ4 μ4 => exact fun σ4 W4 F4 S4 mv4 kp4 => ⟨by omega, W4, ρ4, μ4, F4, rfl, S4, (mv2.trans mv3).trans mv4, (kp2.trans kp3).trans kp4, ho2⟩
    | ct ρ4 μ4 => exact fun σ4 W4 F4 S4 mv4 kp4 => ⟨by omega, W4, ρ4, μ4, F4, rfl, S4, (mv2.trans mv3).trans mv4, (kp2.trans kp3).trans kp4, ho2⟩
    | bk ρ4 μ4 =>
      cases ho2
      exact fun σ4 W4 F4 S4 mv4 kp4 => h2 σ4 W4 F4 S4 (mv3.trans mv4) (kp3.trans kp4)
    | rt d ρ4 μ4 =>
      cases ho2
      exact fun v σ4 W4 G F4 r S4 nd own mv4 kp4 => h2 v σ4 W4 G F4 r S4 nd own (mv3.trans mv4) (kp3.trans kp4)
    | ex c fs ρ4 μ4 =>
      cases ho2
      exact fun dx σ4 W4 F4 r S4 mv4 kp4 => h2 dx σ4 W4 F4 r S4 (mv3.trans mv4) (kp3.trans kp4)
  · refine .inl ⟨itd.st i W2 lt2 (by omega), ?_⟩
    have e : ds.drop i = [] := List.drop_eq_nil_of_le (by omega)
    rw [e] at ho2
    cases ho2
    exact h2 σ2 W2 F2 S2 (Ext.refl S2.ok).mvr Kept.refl
/-! ### while -/
def whL (t : FB) (b : FS) : Nat → List D → List D → Option SO
  | 0, _, _ => none
  | n + 1, ρ, μ => (t ρ μ).bind fun c => if c = true then (b ρ μ).bind fun o => match o with
    | .nx ρ2 μ2 => whL t b n ρ2 μ2
    | .ct ρ2 μ2 => whL t b n ρ2 μ2
    | .bk ρ2 μ2 => some (.nx ρ2 μ2)
    | o => some o
    else some (.nx ρ μ)
def fWh (fuel : List D → List D → Nat) (t : FB) (b : FS) : FS := fun ρ μ => whL t b (fuel ρ μ) ρ μ
theorem ps1_while {c : Expr} {body : List Stmt} {b : FS} (fuel : List D → List D → Nat) (hp : PassesOwn (model X.prog X.w) X.A X.env X.xe) (hc : PB X c t) (hb : PSS X ob Wx body b) : PS1 X ob Wx (.While c body [] pos) (fWh fuel t b) := by
  obtain ⟨tc, p1, k1⟩ := hc
  obtain ⟨tb, p2, k2⟩ := hb
  refine ⟨_, ps_while hp p1 p2, fun E σ W ρ μ F S o ho h => ?_⟩
  refine ⟨fun m σ2 H => ∃ (W2 : Wd) (ρ2 μ2 : List D) (F2 : List Addr), W2.H = H ∧ Sta X.K W2 σ2 ρ2 μ2 F2 ∧ Mv W W2 F F2 ∧ Kept ob σ σ2 ∧ whL t b m ρ2 μ2 = some o, ⟨fuel ρ μ, W, ρ, μ, F, rfl, S, (Ext.refl S.ok).mvr, Kept.refl, ho⟩, ?_⟩
  rintro m σ2 H ⟨W2, ρ2, μ2, F2, rfl, S2, mv2, kp2, ho2⟩
  have h2 := h.after mv2 kp2
  cases m with
  | zero => cases ho2
  | succ m =>
    obtain ⟨c1, e1, ho2⟩ := bind_some (show (t ρ2 μ2).bind _ = some o from ho2)
    refine k1 σ2 W2 ρ2 μ2 F2 S2 c1 e1 _ fun W3 x3 => ?_
    have S3 := S2.ext x3
    cases c1 with
    | true =>
      rw [if_pos rfl] at ho2 ⊢
      obtain ⟨o1, e2, ho2⟩ := bind_some ho2
      refine ⟨fun σ3 H3 => ∃ (W2 : Wd) (ρ2 μ2 : List D) (F2 : List Addr), W2.H = H3 ∧ Sta X.K W2 σ3 ρ2 μ2 F2 ∧ Mv W W2 F F2 ∧ Kept ob σ σ3 ∧ whL t b m ρ2 μ2 = some o, fun σ3 H3 n => ⟨m, Nat.lt_succ_self m, n⟩, ?_⟩
      refine k2 _ σ2 W3 ρ2 μ2 F2 S3 o1 e2 ?_
      cases o1 with
      | nx ρ4 μ4 => exact fun σ4 W4 F4 S4 mv4 kp4 => ⟨W4, ρ4, μ4, F4, rfl, S4, (mv2.trans x3.mvr).trans mv4, kp2.trans kp4, ho2⟩
      | ct ρ4 μ4 => exact fun σ4 W4 F4 S4 mv4 kp4 => ⟨W4, ρ4, μ4, F4, rfl, S4, (mv2.trans x3.mvr).trans mv4, kp2.trans kp4, ho2⟩
      | bk ρ4 μ4 =>
        cases ho2
        exact fun σ4 W4 F4 S4 mv4 kp4 => h2 σ4 W4 F4 S4 (x3.mvr.trans mv4) kp4
      | rt d ρ4 μ4 =>
        cases ho2
        exact fun v σ4 W4 G F4 r S4 nd own mv4 kp4 => h2 v σ4 W4 G F4 r S4 nd own (x3.mvr.trans mv4) kp4
      | ex c fs ρ4 μ4 =>
        cases ho2
        exact fun dx σ4 W4 F4 r S4 mv4 kp4 => h2 dx σ4 W4 F4 r S4 (x3.mvr.trans mv4) kp4
    | false =>
      rw [if_neg Bool.false_ne_true] at ho2 ⊢
      cases ho2
      exact h2 σ2 W3 F2 S3 x3.mvr Kept.refl
/-! ### a, b = e -/
def fSetT (gt : D → List D → Option (List D)) (q : FQ) : FS := fun ρ μ => (q ρ μ).bind fun d => if data d = true then (gt d ρ).map fun ρ' => .nx ρ' μ else none
theorem ps1_setT {tg : Expr} {vs : List Nat} {gt : D → List D → Option (List D)} (he : PQ X e q) (hg : PGD X tg vs gt) (hs : swapsWithSole [tg] e pos.line X.env = pure false := by rfl) (hw : swappedStores [tg] e X.env = pure none := by rfl)
    (h1 : (assignEach [tg] X.env).map (·.2) = [assign tg X.env] := by rfl) (hv : ∀ i ∈ ob, i ∉ vs := by decide) : PS1 X ob Wx (.Assign [tg] e pos) (fSetT gt q) := by
  obtain ⟨te, p, k⟩ := he
  obtain ⟨tgt, p1, k1⟩ := hg
  refine ⟨_, ps_asg p p1 hs hw h1, fun E σ W ρ μ F S o ho h => ?_⟩
  obtain ⟨d, e1, ho⟩ := bind_some ho
  by_cases hd : data d = true
  case neg => rw [if_neg hd] at ho; cases ho
  rw [if_pos hd] at ho
  obtain ⟨ρ', e2, z⟩ := map_some ho
  subst z
  refine k σ W ρ μ F S d e1 _ fun v W1 G x1 r1 => ?_
  have z := R_data d hd r1
  subst z
  exact k1 σ W1 ρ μ F d v (S.ext x1) r1 ρ' e2 _ fun σ' F' S' sub hw => h σ' W1 F' S' (x1.mv sub) (Kept.of_wipe hw hv)
/-! ### x += e -/
def fAug (i : Nat) (o : D → D → Option D) (q : FQ) : FS := fun ρ μ => (qVar i ρ μ).bind fun x => (q ρ μ).bind fun y => (o x y).bind fun d => if data x = true ∧ data d = true then some (.nx (ρ.set i d) μ) else none
theorem ps1_aug {i : Nat} {x : Str} {pos' : Pos} {op : Operator} {o : D → D → Option D} (hN : X.N.Nodup) (hi : X.N[i]? = some x) (hx : Loc X.env.scope x) (ho : OpD X (inplaceOp op) o) (he : PQ X e q) (hf : X.fn x = true ∨ X.env.scope.names.lookup x = some .local := by first | exact .inl rfl | exact .inr rfl) (hob : i ∉ ob := by decide) :
    PS1 X ob Wx (.AugAssign (.Name x pos') op e pos) (fAug i o q) := by
  obtain ⟨r, hr, kr⟩ := ho
  obtain ⟨te, p, k⟩ := he
  refine ⟨_, ps_aug hN hi hx p (ti := r) hr hf, fun E σ W ρ μ F S so hso h => ?_⟩
  obtain ⟨d0, e1, hso⟩ := bind_some hso
  obtain ⟨d1, e2, hso⟩ := bind_some hso
  obtain ⟨d, e3, hso⟩ := bind_some hso
  by_cases hd : data d0 = true ∧ data d = true
  case neg => rw [if_neg hd] at hso; cases hso
  rw [if_pos hd] at hso
  cases hso
  have hr0 : ρ[i]? = some d0 ∧ d0 ≠ .un := by
    unfold qVar at e1
    cases e : ρ[i]? with
    | none => rw [e] at e1; cases e1
    | some dd =>
      rw [e] at e1
      cases dd <;> first
        | (cases e1; done)
        | (have z := Option.some.inj e1; subst z; exact ⟨rfl, fun z => nomatch z⟩)
  obtain ⟨F1, F2, h1, h2, h3⟩ := S.ex
  obtain ⟨v0, G0, s1, s2⟩ := RS_get h1 hr0.1 hr0.2
  refine ⟨v0, s1, k σ W ρ μ F S d1 e2 _ fun v1 W1 G1 x1 r1 => ?_⟩
  refine kr W1 d0 d1 v0 v1 G0 G1 x1.ok (R_ext x1 d0 s2) r1 d e3 _ fun v W2 G x2 r2 => ?_
  have z := R_data d hd.2 r2
  subst z
  have x12 := x1.trans x2
  obtain ⟨F', S', sub⟩ := (S.ext x12).set (i := i) (R1_of r2)
  exact h _ W2 F' S' (x12.mv sub) (Kept.set hob)
def dIAdd : D → D → Option D
  | .int i, .int j => some (.int (i + j))
  | .str a, .str b => if a.length + b.length ≤ LIM then some (.str (a ++ b)) else none
  | _, _ => none
theorem opd_iadd : OpD X (inplaceOp .Add) dIAdd := by
  refine ⟨_, (iop_add (X := X)).or iop_add_str, fun W x y u v G1 G2 ok r1 r2 d hd Q q => ?_⟩
  cases x with
  | int i =>
    cases y with
    | int j =>
      cases hd
      obtain ⟨rfl, _⟩ := r1
      obtain ⟨rfl, _⟩ := r2
      exact .inl ⟨i, j, rfl, rfl, q _ W [] (Ext.refl ok) ⟨rfl, rfl⟩⟩
    | _ => cases hd
  | str a =>
    cases y with
    | str b =>
      obtain ⟨rfl, _⟩ := r1
      obtain ⟨rfl, _⟩ := r2
      have hd2 : (if a.length + b.length ≤ LIM then some (D.str (a ++ b)) else none) = some d := hd
      by_cases hl : a.length + b.length ≤ LIM
      · rw [if_pos hl] at hd2
        cases hd2
        exact .inr ⟨tr a, tr b, rfl, rfl, by rw [tr_length, tr_length]; exact lim_ok hl, q _ W [] (Ext.refl ok) ⟨by rw [tr_append], rfl⟩⟩
      · rw [if_neg hl] at hd2
        cases hd2
    | _ => cases hd
  | _ => cases y <;> cases hd
theorem opd_isub : OpD X (inplaceOp .Sub) dSub := opd_int0 iop_sub fun _ _ _ => ⟨rfl, rfl⟩
end
/-! ### one slot changed in place -/
theorem Sta.lens {K : PySem.W.Frag} {W : Wd} {σ : L2.St} {ρ μ : List D} {F : List Addr} {i : Nat} {d : D} (S : Sta K W σ ρ μ F) (hi : ρ[i]? = some d) (hne : d ≠ .un) : ∃ v B, σ[i]? = some (some v) ∧ R K W d v B ∧ (∀ a ∈ B, a ∈ F) ∧ B.Nodup ∧
    ∀ (W' : Wd) (d' : D) (G : List Addr), WOk W' → W'.m = W.m → Mv W W' B G → R K W' d' v G → G.Nodup → (∀ a ∈ G, Own W' a) → ∃ F', Sta K W' σ (ρ.set i d') μ F' ∧ Mv W W' F F' := by
  obtain ⟨⟨F1, F2, h1, h2, h3⟩, nd, own, ok⟩ := S
  obtain ⟨v, A, B, C, q1, q2, q3, q4⟩ := RS_lens h1 hi hne
  subst q2
  subst h3
  have pm : ∀ B : List Addr, (A ++ (B ++ C) ++ F2).Perm (B ++ (A ++ C ++ F2)) := fun B => by
    rw [List.append_assoc A, List.append_assoc B, List.append_assoc A]
    refine (List.perm_append_comm_assoc A B (C ++ F2)).trans ?_
    exact List.Perm.refl _
  have nd2 := (pm B).nodup_iff.mp nd
  have ndB := List.nodup_append.mp nd2
  have inB : ∀ a ∈ B, a ∈ A ++ (B ++ C) ++ F2 := fun a ha => (pm B).mem_iff.mpr (List.mem_append_left _ ha)
  have inO : ∀ a ∈ A ++ C ++ F2, a ∈ A ++ (B ++ C) ++ F2 ∧ a ∉ B := fun a ha => ⟨(pm B).mem_iff.mpr (List.mem_append_right _ ha), fun z => ndB.2.2 a z a ha rfl⟩
  refine ⟨v, B, q1, q3, inB, ndB.1, fun W' d' G ok' hm mv r ndG ownG => ?_⟩
  have lt := mv.lt fun a ha => own a (inB a ha)
  have stay : ∀ a ∈ A ++ C ++ F2, W'.H a = W.H a := fun a ha => by
    obtain ⟨h4, h5⟩ := inO a ha
    obtain ⟨_, w⟩ := own a h4
    rcases w with ⟨xs, w⟩ | ⟨Cc, dx, fs, w⟩
    · rw [w]
      exact mv.keep a _ w h5
    · rw [w]
      exact mv.keep a _ w h5
  have freshG : ∀ a ∈ G, a ∉ A ++ C ++ F2 := fun a ha z => by
    obtain ⟨h4, h5⟩ := inO a z
    rcases mv.own a ha with q | q
    · exact h5 q
    · obtain ⟨_, w⟩ := own a h4
      rcases w with ⟨xs, w⟩ | ⟨Cc, dx, fs, w⟩ <;> rw [q] at w <;> cases w
  refine ⟨A ++ (G ++ C) ++ F2, ⟨⟨_, F2, q4 W' d' G lt (fun b hb => stay b (List.mem_append_left _ hb)) r, by rw [hm]; exact RL_keep lt μ (fun b hb => stay b (List.mem_append_right _ hb)) h2, rfl⟩, ?_, fun a ha => ?_, ok'⟩, ⟨fun a o e h => mv.keep a o e fun z => h (inB a z), mv.fr, fun a h => ?_, fun a ha => ?_, mv.m⟩⟩
  · refine (pm G).nodup_iff.mpr (List.nodup_append.mpr ⟨ndG, ndB.2.1, fun a ha b hb z => ?_⟩)
    subst z
    exact freshG a ha hb
  · rcases List.mem_append.mp ((pm G).mem_iff.mp ha) with z | z
    · exact ownG a z
    · obtain ⟨h4, h5⟩ := inO a z
      obtain ⟨w1, w2⟩ := own a h4
      refine ⟨fun z' => ?_, by rw [stay a z]; exact w2⟩
      rcases mv.nf a z' with q | q | q
      · exact w1 q
      · rcases w2 with ⟨xs, w⟩ | ⟨Cc, dx, fs, w⟩ <;> rw [q] at w <;> cases w
      · exact h5 q
  · rcases mv.nf a h with q | q | q
    · exact .inl q
    · exact .inr (.inl q)
    · exact .inr (.inr (inB a q))
  · rcases List.mem_append.mp ((pm G).mem_iff.mp ha) with z | z
    · rcases mv.own a z with q | q
      · exact .inl (inB a q)
      · exact .inr q
    · exact .inl (inO a z).1
section
variable {X : Cx} {ob : List Nat} {Wx : WX} {e : Expr} {q : FQ} {pos : Pos}
/-! ### x.append(e), x the name of an own list -/
def fApp (i : Nat) (q : FQ) : FS := fun ρ μ => match ρ[i]? with
  | some (.ml ds) => (q ρ μ).bind fun d => if data d = true ∧ ds.length ≤ LIM then some (.nx (ρ.set i (.ml (ds ++ [d]))) μ) else none
  | _ => none
theorem ps1_app {i : Nat} {x : Str} {px apos cpos : Pos} (hcall : ∀ te : TE, PE X e te → PE X (.Call (.Attribute (.Name x px) "append" apos) [e] [] cpos) (tBM X.K "list" rAppend (tVar i) (tCons te tNil))) (he : PQ X e q)
    (hsw : swapsWith (.Call (.Attribute (.Name x px) "append" apos) [e] [] cpos) none pos.line X.env = pure false := by rfl) : PS1 X ob Wx (.Expr (.Call (.Attribute (.Name x px) "append" apos) [e] [] cpos) pos) (fApp i q) := by
  obtain ⟨te, p, k⟩ := he
  refine ⟨_, ps_expr (hcall te p) hsw, fun E σ W ρ μ F S o ho h => ?_⟩
  unfold fApp at ho
  split at ho
  case h_2 => cases ho
  case h_1 ds heq =>
    obtain ⟨d, e1, ho⟩ := bind_some ho
    by_cases hd : data d = true ∧ ds.length ≤ LIM
    case neg => rw [if_neg hd] at ho; cases ho
    rw [if_pos hd] at ho
    cases ho
    obtain ⟨v, B, q1, ⟨a, vs, F', rfl, h2, h3, hB⟩, _⟩ := S.lens heq (fun z => nomatch z)
    refine ⟨.ref a, q1, .inl ⟨rfl, vs, Evl.sq_of h2⟩, ?_⟩
    refine k σ W ρ μ F S d e1 _ fun y W1 G x1 r1 => ?_
    have z := R_data d hd.1 r1
    subst z
    have S1 := S.ext x1
    obtain ⟨v, B, q2, ⟨a2, vs2, F2, e2, h4, h5, hB2⟩, inF, ndB, next⟩ := S1.lens heq (fun z => nomatch z)
    rw [q1] at q2
    cases q2
    cases e2
    rw [x1.ex _ _ h2] at h4
    cases h4
    have ha : Own W1 a := S1.own a (inF a (by rw [hB2]; exact List.mem_cons_self ..))
    have lt : Lt W1 ⟨upd W1.H a (.lst (vs ++ [y])), W1.Fr, W1.m⟩ := Lt.upd_lst (x1.ex _ _ h2) ha.1
    have nd2 := List.nodup_cons.mp (hB2 ▸ ndB)
    obtain ⟨F3, S3, mv3⟩ := next ⟨upd W1.H a (.lst (vs ++ [y])), W1.Fr, W1.m⟩ (.ml (ds ++ [d])) (a :: F2) (fun b hb => by
        show upd W1.H a _ b ≠ none
        by_cases z : b = a
        · rw [z, upd_same]
          exact fun z => nomatch z
        · rw [upd_ne z]
          exact x1.ok b hb) rfl
      ⟨fun b o hb nb => by
        show upd W1.H a _ b = some o
        rw [upd_ne fun z => nb (by rw [z, hB2]; exact List.mem_cons_self ..)]
        exact hb, fun _ h => h, fun _ h => .inl h, fun b hb => .inl (by rw [hB2]; exact hb), ⟨[], (List.append_nil _).symm⟩⟩
      ⟨a, vs ++ [y], F2, rfl, upd_same, by
        have k1 : RL X.K ⟨upd W1.H a (.lst (vs ++ [y])), W1.Fr, W1.m⟩ ds vs F2 := RL_keep lt ds (fun b hb => by
          show upd W1.H a _ b = W1.H b
          exact upd_ne fun z => nd2.1 (z ▸ hb)) h5
        have k2 : RL X.K ⟨upd W1.H a (.lst (vs ++ [y])), W1.Fr, W1.m⟩ [d] [y] [] := ⟨y, [], [], [], rfl, R_lt lt d r1, ⟨rfl, rfl⟩, rfl⟩
        have z := RL_app k1 k2
        rw [List.append_nil] at z
        exact z, rfl⟩ (hB2 ▸ ndB) (fun b hb => by
        by_cases z : b = a
        · subst z
          exact ⟨ha.1, .inl ⟨_, upd_same⟩⟩
        · obtain ⟨w1, w2⟩ := S1.own b (inF b (by rw [hB2]; exact hb))
          refine ⟨w1, ?_⟩
          show (∃ xs, upd W1.H a _ b = _) ∨ ∃ C dx fs, upd W1.H a _ b = _
          rw [upd_ne z]
          exact w2)
    have lv : vs.length = ds.length := RL_len h3
    refine ⟨a, vs, y, rfl, rfl, x1.ex _ _ h2, lim_lt (by omega), ?_⟩
    exact h σ _ F3 S3 (x1.mvr.trans mv3) Kept.refl
end
/-! ### a quiet def -/
def runQ (N n : Nat) (f : FS) (ds : List D) : Option D := match f (ds ++ List.replicate (N - n) .un) [] with
  | some (.rt d _ _) => if data d = true then some d else none
  | some (.nx _ _) => some .non
  | _ => none
theorem RS_start {K : PySem.W.Frag} {W : Wd} : ∀ {ds : List D} {vs : List V} (m : Nat), RL K W ds vs [] → RS K W (ds ++ List.replicate m .un) (vs.map some ++ List.replicate m none) []
  | [], vs, m, r => by
    rw [r.1]
    show RS K W (List.replicate m .un) (List.replicate m none) []
    induction m with
    | zero => exact ⟨rfl, rfl⟩
    | succ m ih => exact ⟨none, List.replicate m none, [], [], rfl, rfl, ih, rfl⟩
  | d :: ds, vs, m, r => by
    obtain ⟨v, vs', F1, F2, h1, h2, h3, h4⟩ := r
    obtain ⟨rfl, rfl⟩ := List.append_eq_nil_iff.mp h4.symm
    rw [h1]
    exact ⟨some v, vs'.map some ++ List.replicate m none, [], [], rfl, R1_of h2, RS_start m h3, rfl⟩
theorem Mv.nilQ {W W' : Wd} {G : List Addr} (m : Mv W W' [] G) (ok : WOk W') (hm : W.m = []) : Ext W ⟨W'.H, W'.Fr, []⟩ :=
  ⟨fun a o e => m.keep a o e (fun z => nomatch z), m.fr, fun a e => (m.nf a e).elim .inl (fun z => z.elim .inr (fun z => nomatch z)), hm.symm, ok⟩
theorem fnq_def {P : Program} {w : World} {K : PySem.W.Frag} {mg : Str → Option Value} {base : Heap} {nm qual : Str} {params : Arguments} {body : List Stmt} {scope : Scope} {dvs0 : List V} {kws : List (Str × V)} {fa : Addr} {fd : FuncData} {N ps : List Str} {k n : Nat} {f : FS} {run : List D → Option D}
    (F : FunD K nm qual params body scope dvs0 kws fa fd) (Sc : FnScope N ps scope) (hn : ps.length = n)
    (h : ∀ (cdv : Value) (A : Around) (outer : List Env) (s : Shared) (H : Hp) (E : XK), Room k (A.deeper (envOfC qual scope s.heap.objs.size fa cdv)) → PSS (cxOf (L2.CX P w) P w K mg base N qual scope fa cdv A outer s H E) [] (fun _ _ _ _ => False) body f)
    (hr : ∀ ds d, run ds = some d → runQ N.length n f ds = some d) : FnOk P w K mg base (L2.CX P w) (k + 1) fa fd ps (spQ K n run) := by
  refine F.ok Sc (fun vs H Q E q => ?_) (fun cdv A outer s H vs Q E hroom q => ?_)
  · obtain ⟨W, ds, d, _, _, _, r, _, hl, _⟩ := q
    rw [RL_len r, hl, hn]
  · obtain ⟨W, ds, d, hH, hWm, ok, r, hdat, hl, hrun, hdd2, q⟩ := q
    subst hH
    obtain ⟨ts, p, kk⟩ := h cdv A outer s W.H E hroom
    refine ⟨ts, p, ?_⟩
    have lv : vs.length = n := by rw [RL_len r, hl]
    have e0 : L2.start N vs = vs.map some ++ List.replicate (N.length - n) none := by
      unfold L2.start
      rw [lv]
    rw [e0]
    have S : Sta K W (vs.map some ++ List.replicate (N.length - n) none) (ds ++ List.replicate (N.length - n) .un) [] [] := ⟨⟨[], [], RS_start _ r, by rw [hWm]; exact ⟨rfl, rfl⟩, rfl⟩, List.nodup_nil, (fun _ h => nomatch h), ok⟩
    have hq := hr ds d hrun
    unfold runQ at hq
    have noM : ∀ {σ' : L2.St} {W' : Wd} {ρ' μ' : List D} {F' : List Addr}, Sta K W' σ' ρ' μ' F' → True := fun _ => trivial
    cases e1 : f (ds ++ List.replicate (N.length - n) .un) [] with
    | none => rw [e1] at hq; cases hq
    | some o =>
      rw [e1] at hq
      refine kk _ _ W _ [] [] S o e1 ?_
      cases o with
      | nx ρ' μ' =>
        cases hq
        intro σ' W' F' S' mv kp
        refine q .non ⟨W'.H, W'.Fr, []⟩ ?_ ⟨rfl, rfl⟩
        exact mv.nilQ S'.ok hWm
      | rt d' ρ' μ' =>
        have hq2 : (if data d' = true then some d' else none) = some d := hq
        by_cases hd' : data d' = true
        case neg => rw [if_neg hd'] at hq2; cases hq2
        rw [if_pos hd'] at hq2
        cases hq2
        intro v σ' W' G F' rv S' nd own mv kp
        have z := R_data d hd' rv
        subst z
        refine q v ⟨W'.H, W'.Fr, []⟩ ?_ (R_m d hd' rv)
        exact mv.nilQ S'.ok hWm
      | _ => cases hq
theorem okq_def {P : Program} {w : World} {K : PySem.W.Frag} {mg : Str → Option Value} {base : Heap} {x nm qual : Str} {params : Arguments} {body : List Stmt} {scope : Scope} {dvs0 : List V} {kws : List (Str × V)} {fa : Addr} {fd : FuncData} {N ps : List Str} {k n : Nat} {dd : List D} {dvs : List V} {us : List Value} {f : FS} {run : List D → Option D}
    (F : FunD K nm qual params body scope dvs0 kws fa fd) (Sc : FnScope N ps scope) (hn : ps.length = n) (hb : Binds K fd ps us) (hv : Vals dvs us) (hdd : ∀ W : Wd, RL K W dd dvs []) (hdt : dataL dd = true) (hm : mg x = some (.ref fa))
    (h : ∀ (cdv : Value) (A : Around) (outer : List Env) (s : Shared) (H : Hp) (E : XK), Room k (A.deeper (envOfC qual scope s.heap.objs.size fa cdv)) → PSS (cxOf (L2.CX P w) P w K mg base N qual scope fa cdv A outer s H E) [] (fun _ _ _ _ => False) body f)
    (hr : ∀ ds d, run ds = some d → runQ N.length n f ds = some d) : OkQ P w K mg base x (k + 1) n dd run :=
  ⟨fa, fd, ps, dvs, us, fnq_def F Sc hn h hr, hb, hv, hdd, hdt, hm, F.kp⟩
/-! ### what the module's names stand for -/
theorem gld_str {K : PySem.W.Frag} {mg : Str → Option Value} {x : Str} {s : String} (h : ∃ t, mg x = some (.str (Str.ofString s) t)) : GlD K mg x (.str (ofS s)) := by
  obtain ⟨t, h⟩ := h
  exact ⟨.str (Str.ofString s), _, h, ⟨t, rfl⟩, fun W => ⟨congrArg V.str (tr_ofS s), rfl⟩⟩
/-- a written value of the top -/
def dvD : He.Dv → Option D
  | .int i => some (.int i)
  | .bl b => some (.bl b)
  | .non => some .non
  | _ => none
theorem gld_tup {K : PySem.W.Frag} {mg : Str → Option Value} {x : Str} {vs : List He.Dv} {ds : List D} (h : mg x = some (.ref (He.ga K x))) (ht : He.tupB K x vs = true) (hr : ∀ W : Wd, RL K W ds (vs.map (He.Dv.v K)) []) : GlD K mg x (.tup ds) :=
  ⟨.ref (He.ga K x), _, h, rfl, fun W => ⟨_, _, rfl, He.tupB_ok ht W.H, hr W⟩⟩
theorem rl_int {K : PySem.W.Frag} {W : Wd} {i : Int} {ds : List D} {vs : List V} (h : RL K W ds vs []) : RL K W (.int i :: ds) (.int i :: vs) [] := ⟨_, _, [], [], rfl, ⟨rfl, rfl⟩, h, rfl⟩
theorem rl_str {K : PySem.W.Frag} {W : Wd} {s : String} {ds : List D} {vs : List V} (h : RL K W ds vs []) : RL K W (.str (ofS s) :: ds) (.str (Str.ofString s) :: vs) [] := ⟨_, _, [], [], rfl, ⟨congrArg V.str (tr_ofS s), rfl⟩, h, rfl⟩
/-- the law at its script -/
theorem law_sp {K : PySem.W.Frag} {run : List D → Option D} {H : Hp} {a : Addr} {ns : List Int} {E : XK} (hS : SqL K H a (ns.map V.int)) (hr : run [.lst (ns.map D.int)] = some (.bl true)) : spQ K 1 run [.ref a] H (fun v _ => v = .bl true) E := by
  have rl : ∀ (W : Wd) (l : List Int), RL K W (l.map D.int) (l.map V.int) [] := fun W l => by
    induction l with
    | nil => exact ⟨rfl, rfl⟩
    | cons i l ih => exact rl_int ih
  have dl : ∀ l : List Int, dataL (l.map D.int) = true := fun l => by
    induction l with
    | nil => rfl
    | cons i l ih => exact Bool.and_eq_true_iff.mpr ⟨rfl, ih⟩
  refine ⟨⟨H, fun b => H b ≠ none, []⟩, [.lst (ns.map D.int)], .bl true, rfl, rfl, fun b h => h, ⟨.ref a, [], [], [], rfl, ⟨a, _, rfl, ?_, rl _ ns, rfl⟩, ⟨rfl, rfl⟩, rfl⟩, Bool.and_eq_true_iff.mpr ⟨dl ns, rfl⟩, rfl, hr, rfl, fun v W' x r => r.1⟩
  rcases hS with h | h
  · refine .inl ⟨h, ?_⟩
    rcases h with h | ⟨o, h⟩
    · show H a ≠ none
      rw [h]
      exact fun z => nomatch z
    · show H a ≠ none
      rw [h]
      exact fun z => nomatch z
  · exact .inr (.inr h)
/-- any world's exceptions -/
def CXw : CXT := fun o H s E e s' => ∃ (P : Program) (w : World), L2.CX P w o H s E e s'
theorem cx_wide {P : Program} {w : World} {K : PySem.W.Frag} {mg : Str → Option Value} {base : Heap} {k : Nat} {f : Addr} {fd : FuncData} {ps : List Str} {sp : Sp} (F : FnOk P w K mg base (L2.CX P w) k f fd ps sp) : FnOk P w K mg base CXw k f fd ps sp :=
  ⟨F.len, fun A outer s H args us vs Q E hr e0 hb hv hs => codeAny_mono (F.run A outer s H args us vs Q E hr e0 hb hv hs) fun r s' q => by
    cases r with
    | error e => exact ⟨P, w, q⟩
    | ok fl => cases fl <;> exact q⟩
theorem cxw_none {o : List Env} {H : Hp} {s : Shared} {e : Value} {s' : Shared} (h : CXw o H s (fun _ _ _ => False) e s') : False := by
  obtain ⟨_, _, _, _, _, _, _, _, _, _, _, _, _, _, z⟩ := h
  exact z.elim
end Fw
/-! # reckoning mirrors: outermost first -/
namespace Fw
open PySem PySem.Spec PyProof.Rows L2
def seqK (o : Option SO) (g : FS) : Option SO := o.bind fun o => match o with
  | .nx ρ' μ' => g ρ' μ'
  | o => some o
theorem fSeq_eq (f g : FS) (x0 : D) (ρ μ : List D) : fSeq f g (x0 :: ρ) μ = seqK (f (x0 :: ρ) μ) g := rfl
theorem seqK_nx (ρ μ : List D) (g : FS) : seqK (some (.nx ρ μ)) g = g ρ μ := rfl
theorem seqK_rt (d : D) (ρ μ : List D) (g : FS) : seqK (some (.rt d ρ μ)) g = some (.rt d ρ μ) := rfl
theorem seqK_ex (c : Str) (fs : List (Str × D)) (ρ μ : List D) (g : FS) : seqK (some (.ex c fs ρ μ)) g = some (.ex c fs ρ μ) := rfl
/-- the end of a turn -/
def turnK (g : D → List D → Option (List D)) (b : FS) (ds : List D) (o : Option SO) : Option SO := o.bind fun o => match o with
  | .nx ρ2 μ2 => forL g b ρ2 μ2 ds
  | .ct ρ2 μ2 => forL g b ρ2 μ2 ds
  | .bk ρ2 μ2 => some (.nx ρ2 μ2)
  | o => some o
theorem forL_nil (g : D → List D → Option (List D)) (b : FS) (ρ μ : List D) : forL g b ρ μ [] = some (.nx ρ μ) := rfl
theorem forL_cons (g : D → List D → Option (List D)) (b : FS) (ρ μ : List D) (d : D) (ds : List D) : forL g b ρ μ (d :: ds) = (g d ρ).bind fun ρ1 => turnK g b ds (b ρ1 μ) := rfl
theorem turnK_nx (g : D → List D → Option (List D)) (b : FS) (ds ρ μ : List D) : turnK g b ds (some (.nx ρ μ)) = forL g b ρ μ ds := rfl
theorem turnK_rt (g : D → List D → Option (List D)) (b : FS) (ds : List D) (d : D) (ρ μ : List D) : turnK g b ds (some (.rt d ρ μ)) = some (.rt d ρ μ) := rfl
/-- one turn that goes on -/
theorem forL_turn {g : D → List D → Option (List D)} {b : FS} {ρ μ ρ1 ρ2 μ2 : List D} {d : D} {ds : List D} (h1 : g d ρ = some ρ1) (h2 : b ρ1 μ = some (.nx ρ2 μ2)) : forL g b ρ μ (d :: ds) = forL g b ρ2 μ2 ds := by
  rw [forL_cons, h1]
  show turnK g b ds (b ρ1 μ) = _
  rw [h2]
  rfl
/-- a loop all of whose turns go on, I kept -/
theorem forL_all {g : D → List D → Option (List D)} {b : FS} {μ : List D} {I : List D → Prop} : ∀ (ds : List D) (ρ : List D), I ρ → (∀ d ∈ ds, ∀ ρ, I ρ → ∃ ρ1 ρ2, g d ρ = some ρ1 ∧ b ρ1 μ = some (.nx ρ2 μ) ∧ I ρ2) → ∃ ρ', forL g b ρ μ ds = some (.nx ρ' μ) ∧ I ρ'
  | [], ρ, h, _ => ⟨ρ, rfl, h⟩
  | d :: ds, ρ, h, k => by
    obtain ⟨ρ1, ρ2, h1, h2, h3⟩ := k d (List.mem_cons_self ..) ρ h
    obtain ⟨ρ', h4, h5⟩ := forL_all ds ρ2 h3 fun d hd => k d (List.mem_cons_of_mem _ hd)
    exact ⟨ρ', by rw [forL_turn h1 h2, h4], h5⟩
/-- the def's end -/
def endK (o : Option SO) : Option D := match o with
  | some (.rt d _ _) => if data d = true then some d else none
  | some (.nx _ _) => some .non
  | _ => none
theorem runQ_eq (N n : Nat) (f : FS) (ds : List D) : runQ N n f ds = endK (f (ds ++ List.replicate (N - n) .un) []) := by
  unfold runQ endK
  cases f (ds ++ List.replicate (N - n) .un) [] with
  | none => rfl
  | some o => cases o <;> rfl
theorem endK_rt (d : D) (ρ μ : List D) : endK (some (.rt d ρ μ)) = if data d = true then some d else none := rfl
theorem endK_nx (ρ μ : List D) : endK (some (.nx ρ μ)) = some .non := rfl
/-! ### the pieces by value -/
def varK (o : Option D) : Option D := match o with
  | some .un => none
  | o => o
theorem qVar_zero (d : D) (ρ μ : List D) : qVar 0 (d :: ρ) μ = varK (some d) := by cases d <;> rfl
theorem qVar_succ (i : Nat) (d : D) (ρ μ : List D) : qVar (i + 1) (d :: ρ) μ = qVar i ρ μ := rfl
theorem varK_int (i : Int) : varK (some (.int i)) = some (.int i) := rfl
theorem varK_str (i : List Nat) : varK (some (.str i)) = some (.str i) := rfl
theorem varK_bl (i : Bool) : varK (some (.bl i)) = some (.bl i) := rfl
theorem varK_non : varK (some .non) = some .non := rfl
theorem varK_tup (i : List D) : varK (some (.tup i)) = some (.tup i) := rfl
theorem varK_lst (i : List D) : varK (some (.lst i)) = some (.lst i) := rfl
theorem varK_ml (i : List D) : varK (some (.ml i)) = some (.ml i) := rfl
def blK (o : Option D) : Option Bool := match o with
  | some (.bl b) => some b
  | _ => none
theorem qB_eq (f : FQ) (x0 : D) (ρ μ : List D) : qB f (x0 :: ρ) μ = blK (f (x0 :: ρ) μ) := rfl
theorem blK_bl (b : Bool) : blK (some (.bl b)) = some b := rfl
def andK (o : Option D) (r : Option D) : Option D := match o with
  | some (.bl true) => r
  | some (.bl false) => some (.bl false)
  | _ => none
def orK (o : Option D) (r : Option D) : Option D := match o with
  | some (.bl false) => r
  | some (.bl true) => some (.bl true)
  | _ => none
theorem qAnd_eq (f g : FQ) (x0 : D) (ρ μ : List D) : qAnd f g (x0 :: ρ) μ = andK (f (x0 :: ρ) μ) (g (x0 :: ρ) μ) := rfl
theorem qOr_eq (f g : FQ) (x0 : D) (ρ μ : List D) : qOr f g (x0 :: ρ) μ = orK (f (x0 :: ρ) μ) (g (x0 :: ρ) μ) := rfl
theorem andK_t (r : Option D) : andK (some (.bl true)) r = r := rfl
theorem andK_f (r : Option D) : andK (some (.bl false)) r = some (.bl false) := rfl
theorem orK_f (r : Option D) : orK (some (.bl false)) r = r := rfl
theorem orK_t (r : Option D) : orK (some (.bl true)) r = some (.bl true) := rfl
theorem andK_b (b c : Bool) : andK (some (.bl b)) (some (.bl c)) = some (.bl (b && c)) := by cases b <;> rfl
theorem orK_b (b c : Bool) : orK (some (.bl b)) (some (.bl c)) = some (.bl (b || c)) := by cases b <;> rfl
def notK (o : Option D) : Option D := match o with
  | some (.bl b) => some (.bl (!b))
  | _ => none
theorem qNot_eq (f : FQ) (x0 : D) (ρ μ : List D) : qNot f (x0 :: ρ) μ = notK (f (x0 :: ρ) μ) := rfl
theorem notK_b (b : Bool) : notK (some (.bl b)) = some (.bl (!b)) := rfl
/-- a chain of two comparisons -/
def chK (o : Option D) (r : Option D) : Option D := match o with
  | some (.bl true) => r
  | some (.bl false) => some (.bl false)
  | _ => none
theorem q3_eq (o o' : D → D → Option D) (f g h : FQ) (x0 : D) (ρ μ : List D) : q3 o o' f g h (x0 :: ρ) μ = (f (x0 :: ρ) μ).bind fun x => (g (x0 :: ρ) μ).bind fun y => andK (o x y) ((h (x0 :: ρ) μ).bind fun z => o' y z) := rfl
def appK (i : Nat) (ρ μ : List D) (q : FQ) (o : Option D) : Option SO := match o with
  | some (.ml ds) => (q ρ μ).bind fun d => if data d = true ∧ ds.length ≤ LIM then some (.nx (ρ.set i (.ml (ds ++ [d]))) μ) else none
  | _ => none
theorem fApp_eq (i : Nat) (q : FQ) (x0 : D) (ρ μ : List D) : fApp i q (x0 :: ρ) μ = appK i (x0 :: ρ) μ q (x0 :: ρ)[i]? := by
  unfold fApp appK
  rfl
theorem appK_ml (i : Nat) (ρ μ : List D) (q : FQ) (ds : List D) : appK i ρ μ q (some (.ml ds)) = (q ρ μ).bind fun d => if data d = true ∧ ds.length ≤ LIM then some (.nx (ρ.set i (.ml (ds ++ [d]))) μ) else none := rfl
def fzK (i : Nat) (ρ : List D) (o : Option D) : List D := match o with
  | some (.ml ds) => if dataL ds = true then ρ.set i (.lst ds) else ρ
  | _ => ρ
theorem fFz_eq (i : Nat) (f : FS) (x0 : D) (ρ μ : List D) : fFz i f (x0 :: ρ) μ = f (fzK i (x0 :: ρ) (x0 :: ρ)[i]?) μ := rfl
theorem fzK_ml (i : Nat) (ρ ds : List D) : fzK i ρ (some (.ml ds)) = if dataL ds = true then ρ.set i (.lst ds) else ρ := rfl
def rgK (o : Option D) : Option (List D) := match o with
  | some (.int j) => if small62 j = true then some (rangeD 0 j) else none
  | _ => none
theorem aR1_eq (f : FQ) (x0 : D) (ρ μ : List D) : aR1 f (x0 :: ρ) μ = rgK (f (x0 :: ρ) μ) := rfl
theorem rgK_int (j : Int) : rgK (some (.int j)) = if small62 j = true then some (rangeD 0 j) else none := rfl
def rg2K (x y : D) : Option (List D) := match x, y with
  | .int i, .int j => if small62 i = true ∧ small62 j = true then some (rangeD i j) else none
  | _, _ => none
theorem aR2_eq (f g : FQ) (x0 : D) (ρ μ : List D) : aR2 f g (x0 :: ρ) μ = (f (x0 :: ρ) μ).bind fun x => (g (x0 :: ρ) μ).bind fun y => rg2K x y := by
  unfold aR2
  cases f (x0 :: ρ) μ with
  | none => rfl
  | some x =>
    cases g (x0 :: ρ) μ with
    | none => cases x <;> rfl
    | some y => cases x <;> cases y <;> rfl
theorem rg2K_int (i j : Int) : rg2K (.int i) (.int j) = if small62 i = true ∧ small62 j = true then some (rangeD i j) else none := rfl
def osK (o : Option D) : Option (Option Int) := match o with
  | some (.int i) => some (some i)
  | _ => none
theorem oSome_eq (f : FQ) (x0 : D) (ρ μ : List D) : oSome f (x0 :: ρ) μ = osK (f (x0 :: ρ) μ) := rfl
theorem osK_int (i : Int) : osK (some (.int i)) = some (some i) := rfl
def m1K (o : List Nat → List D → Option D) (x : Option D) (r : Option D) : Option D := match x with
  | some (.str s) => r.bind fun d => o s [d]
  | _ => none
theorem qM1_eq (o : List Nat → List D → Option D) (f g : FQ) (x0 : D) (ρ μ : List D) : qM1 o f g (x0 :: ρ) μ = m1K o (f (x0 :: ρ) μ) (g (x0 :: ρ) μ) := rfl
theorem m1K_str (o : List Nat → List D → Option D) (s : List Nat) (d : D) : m1K o (some (.str s)) (some d) = o s [d] := rfl
def m0K (o : List Nat → List D → Option D) (x : Option D) : Option D := match x with
  | some (.str s) => o s []
  | _ => none
theorem qM0_eq (o : List Nat → List D → Option D) (f : FQ) (x0 : D) (ρ μ : List D) : qM0 o f (x0 :: ρ) μ = m0K o (f (x0 :: ρ) μ) := rfl
theorem m0K_str (o : List Nat → List D → Option D) (s : List Nat) : m0K o (some (.str s)) = o s [] := rfl
/-! ### operators at written kinds -/
theorem dAdd_int (i j : Int) : dAdd (.int i) (.int j) = some (.int (i + j)) := rfl
theorem dAdd_str (a b : List Nat) : dAdd (.str a) (.str b) = if a.length + b.length ≤ LIM then some (.str (a ++ b)) else none := rfl
theorem dAdd_tup (a b : List D) : dAdd (.tup a) (.tup b) = if a.length + b.length ≤ LIM ∧ dataL a = true ∧ dataL b = true then some (.tup (a ++ b)) else none := rfl
theorem dAdd_lst (a b : List D) : dAdd (.lst a) (.lst b) = if a.length + b.length ≤ LIM then some (.lst (a ++ b)) else none := rfl
theorem dAdd_mlst (a b : List D) : dAdd (.ml a) (.lst b) = if dataL a = true then (if a.length + b.length ≤ LIM then some (.lst (a ++ b)) else none) else none := by
  show ((if dataL a = true then some a else none).bind _) = _
  by_cases h : dataL a = true
  · rw [if_pos h, if_pos h]
    rfl
  · rw [if_neg h, if_neg h]
    rfl
theorem dInt_int (C : Int → Int → Bool) (g : Int → Int → D) (i j : Int) : dInt C g (.int i) (.int j) = if C i j = true then some (g i j) else none := rfl
theorem eqDB_atom {x y : D} {u v : V} (h1 : atom x = some u) (h2 : atom y = some v) (h3 : scal u v = true) : eqDB x y = some (decide (u = v)) := by
  unfold eqDB
  rw [h1, h2]
  exact if_pos h3
theorem dEq_int (i j : Int) : dEq (.int i) (.int j) = some (.bl (decide (i = j))) := by
  unfold dEq
  rw [eqDB_atom rfl rfl rfl]
  exact congrArg (fun b => some (D.bl b)) (by rw [dec_int]; exact (decide_eq_decide.mpr Iff.rfl ▸ rfl))
theorem dNe_int (i j : Int) : dNe (.int i) (.int j) = some (.bl (!decide (i = j))) := by
  unfold dNe
  rw [eqDB_atom rfl rfl rfl]
  exact congrArg (fun b => some (D.bl !b)) (by rw [dec_int]; exact (decide_eq_decide.mpr Iff.rfl ▸ rfl))
theorem dec_tr (a b : List Nat) : decide (V.str (tr a) = V.str (tr b)) = decide (a = b) := by
  by_cases h : a = b
  · subst h
    rw [decide_eq_true rfl, decide_eq_true rfl]
  · rw [decide_eq_false h, decide_eq_false]
    exact fun z => h (tr_inj (V.str.inj z))
theorem dEq_str (a b : List Nat) : dEq (.str a) (.str b) = some (.bl (decide (a = b))) := by
  unfold dEq
  rw [eqDB_atom rfl rfl rfl, dec_tr]
  rfl
theorem dNe_str (a b : List Nat) : dNe (.str a) (.str b) = some (.bl (!decide (a = b))) := by
  unfold dNe
  rw [eqDB_atom rfl rfl rfl, dec_tr]
  rfl
theorem dEq_bl (a b : Bool) : dEq (.bl a) (.bl b) = some (.bl (a == b)) := by cases a <;> cases b <;> rfl
theorem dNe_bl (a b : Bool) : dNe (.bl a) (.bl b) = some (.bl (a != b)) := by cases a <;> cases b <;> rfl
theorem dLt_int (i j : Int) : dLt (.int i) (.int j) = some (.bl (decide (i < j))) := rfl
theorem dLe_int (i j : Int) : dLe (.int i) (.int j) = some (.bl (decide (i ≤ j))) := rfl
theorem dGt_int (i j : Int) : dGt (.int i) (.int j) = some (.bl (decide (j < i))) := rfl
theorem dGe_int (i j : Int) : dGe (.int i) (.int j) = some (.bl (decide (j ≤ i))) := rfl
theorem dLe_str (a b : List Nat) : dLe (.str a) (.str b) = some (.bl (!decide (b < a))) := rfl
theorem dLen_str (s : List Nat) : dLen (.str s) = if s.length ≤ LIM then some (.int s.length) else none := rfl
theorem dLen_lst (s : List D) : dLen (.lst s) = some (.int s.length) := rfl
theorem dLen_ml (s : List D) : dLen (.ml s) = some (.int s.length) := rfl
theorem dLen_tup (s : List D) : dLen (.tup s) = some (.int s.length) := rfl
theorem dIx_lst (ds : List D) (i : Int) : dIx (.lst ds) (.int i) = ixAt ds i := rfl
theorem dIx_ml (ds : List D) (i : Int) : dIx (.ml ds) (.int i) = ixAt ds i := rfl
theorem dIx_tup (ds : List D) (i : Int) : dIx (.tup ds) (.int i) = ixAt ds i := rfl
theorem dIx_str (s : List Nat) (i : Int) : dIx (.str s) (.int i) = if s.length ≤ LIM then (ixAt s i).map fun c => .str [c] else none := rfl
theorem o1_eq (g : D → Option D) (d : D) : o1 g [d] = g d := rfl
theorem o2_eq (g : D → D → Option D) (d e : D) : o2 g [d, e] = g d e := rfl
theorem oStr_eq (h : List Nat → List Nat → D) (s t : List Nat) : oStr h s [.str t] = some (h s t) := rfl
theorem itemsF_lst (ds : List D) : itemsF (.lst ds) = some ds := rfl
theorem itemsF_str (s : List Nat) : itemsF (.str s) = some (s.map fun c => .str [c]) := rfl
theorem itemsF_tup (ds : List D) : itemsF (.tup ds) = if dataL ds = true then some ds else none := rfl
theorem dSl_str (s : List Nat) (lo hi : Option Int) : dSl (.str s) lo hi = if s.length ≤ LIM then some (.str (cut s lo hi)) else none := rfl
theorem dSl_lst (ds : List D) (lo hi : Option Int) : dSl (.lst ds) lo hi = some (.lst (cut ds lo hi)) := rfl
theorem dSl_tup (ds : List D) (lo hi : Option Int) : dSl (.tup ds) lo hi = if dataL ds = true then some (.tup (cut ds lo hi)) else none := rfl
/-- up to n -/
theorem cut_take {α : Type} (xs : List α) (n : Nat) : cut xs none (some (n : Int)) = xs.take n := by
  unfold cut
  rw [HT.sIx_none, HT.sIx_nat, List.drop_zero, Nat.sub_zero]
  by_cases h : n ≤ xs.length
  · rw [Nat.min_eq_left h]
  · rw [Nat.min_eq_right (by omega), List.take_of_length_le (by omega), List.take_of_length_le (by omega)]
theorem cut_drop {α : Type} (xs : List α) (n : Nat) : cut xs (some (n : Int)) none = xs.drop n := by
  unfold cut
  rw [HT.sIx_none, HT.sIx_nat]
  by_cases h : n ≤ xs.length
  · rw [Nat.min_eq_left h, List.take_of_length_le (by rw [List.length_drop]; omega)]
  · rw [Nat.min_eq_right (by omega), Nat.sub_self, List.take_zero, List.drop_eq_nil_of_le (by omega)]
theorem ixAt_nat {α : Type} (xs : List α) (i : Nat) : ixAt xs (i : Int) = xs[i]? := by
  unfold ixAt
  rw [if_pos (by omega), Int.toNat_natCast]
theorem ixAt_pos {α : Type} {xs : List α} {i : Int} (h : 0 ≤ i) : ixAt xs i = xs[i.toNat]? := by
  unfold ixAt
  rw [if_pos h]
theorem dataL_ints : ∀ l : List Int, dataL (l.map D.int) = true
  | [] => rfl
  | _ :: l => Bool.and_eq_true_iff.mpr ⟨rfl, dataL_ints l⟩
theorem dataL_strs : ∀ l : List (List Nat), dataL (l.map D.str) = true
  | [] => rfl
  | _ :: l => Bool.and_eq_true_iff.mpr ⟨rfl, dataL_strs l⟩
/-! ### all others, at a list of slots that is seen -/
section
variable (x0 : D) (ρ μ : List D)
theorem qC_eq (d : D) : qC d (x0 :: ρ) μ = some d := rfl
theorem q2_eq (o : D → D → Option D) (f g : FQ) : q2 o f g (x0 :: ρ) μ = (f (x0 :: ρ) μ).bind fun x => (g (x0 :: ρ) μ).bind fun y => o x y := rfl
theorem qIf_eq (t : FB) (f g : FQ) : qIf t f g (x0 :: ρ) μ = (t (x0 :: ρ) μ).bind fun x => if x = true then f (x0 :: ρ) μ else g (x0 :: ρ) μ := rfl
theorem qTup_eq (k : FA) : qTup k (x0 :: ρ) μ = (k (x0 :: ρ) μ).bind fun ds => if ds.length ≤ 100 then some (.tup ds) else none := rfl
theorem qN_eq (k : FA) : qN k (x0 :: ρ) μ = (k (x0 :: ρ) μ).map D.lst := rfl
theorem qSl_eq (f : FQ) (lo hi : FO) : qSl f lo hi (x0 :: ρ) μ = (f (x0 :: ρ) μ).bind fun x => (lo (x0 :: ρ) μ).bind fun l => (hi (x0 :: ρ) μ).bind fun h => dSl x l h := rfl
theorem oNone_eq : oNone (x0 :: ρ) μ = some none := rfl
theorem qCall_eq (o : List D → Option D) (k : FA) : qCall o k (x0 :: ρ) μ = (k (x0 :: ρ) μ).bind o := rfl
theorem qRun_eq (n : Nat) (dd : List D) (run : List D → Option D) (k : FA) : qRun n dd run k (x0 :: ρ) μ = (k (x0 :: ρ) μ).bind fun ds => if dataL ds = true ∧ (ds ++ dd).length = n then (run (ds ++ dd)).bind fun d => if data d = true then some d else none else none := rfl
theorem qIsi_eq (T : String) (f : FQ) : qIsi T f (x0 :: ρ) μ = (f (x0 :: ρ) μ).bind fun d => (tyN d).bind fun n => (kitB n T).map D.bl := rfl
theorem aNil_eq : aNil (x0 :: ρ) μ = some [] := rfl
theorem aCons_eq (f : FQ) (k : FA) : aCons f k (x0 :: ρ) μ = (f (x0 :: ρ) μ).bind fun d => (k (x0 :: ρ) μ).map fun ds => d :: ds := rfl
theorem aData_eq (k : FA) : aData k (x0 :: ρ) μ = (k (x0 :: ρ) μ).bind fun ds => if dataL ds = true ∧ ds.length ≤ 100 then some ds else none := rfl
theorem aF_eq (f : FQ) : aF f (x0 :: ρ) μ = (f (x0 :: ρ) μ).bind itemsF := rfl
theorem aQ_eq (f : FQ) : aQ f (x0 :: ρ) μ = (f (x0 :: ρ) μ).bind itemsQ := rfl
theorem bAnd_eq (t u : FB) : bAnd t u (x0 :: ρ) μ = (t (x0 :: ρ) μ).bind fun x => if x = true then u (x0 :: ρ) μ else some false := rfl
theorem bOr_eq (t u : FB) : bOr t u (x0 :: ρ) μ = (t (x0 :: ρ) μ).bind fun x => if x = true then some true else u (x0 :: ρ) μ := rfl
theorem bNot_eq (t : FB) : bNot t (x0 :: ρ) μ = (t (x0 :: ρ) μ).map not := rfl
theorem fNext_eq : fNext (x0 :: ρ) μ = some (.nx (x0 :: ρ) μ) := rfl
theorem fSet_eq (i : Nat) (q : FQ) : fSet i q (x0 :: ρ) μ = (q (x0 :: ρ) μ).bind fun d => if data d = true then some (.nx ((x0 :: ρ).set i d) μ) else none := rfl
theorem fSetN_eq (i : Nat) (k : FA) : fSetN i k (x0 :: ρ) μ = (k (x0 :: ρ) μ).map fun ds => .nx ((x0 :: ρ).set i (.ml ds)) μ := rfl
theorem fSetT_eq (gt : D → List D → Option (List D)) (q : FQ) : fSetT gt q (x0 :: ρ) μ = (q (x0 :: ρ) μ).bind fun d => if data d = true then (gt d (x0 :: ρ)).map fun ρ' => .nx ρ' μ else none := rfl
theorem fIf_eq (t : FB) (f g : FS) : fIf t f g (x0 :: ρ) μ = (t (x0 :: ρ) μ).bind fun b => if b = true then f (x0 :: ρ) μ else g (x0 :: ρ) μ := rfl
theorem fRet_eq (q : FQ) : fRet q (x0 :: ρ) μ = (q (x0 :: ρ) μ).bind fun d => if data d = true then some (.rt d (x0 :: ρ) μ) else none := rfl
theorem fRetN_eq : fRetN (x0 :: ρ) μ = some (.rt .non (x0 :: ρ) μ) := rfl
theorem fFor_eq (it : FA) (g : D → List D → Option (List D)) (b : FS) : fFor it g b (x0 :: ρ) μ = (it (x0 :: ρ) μ).bind fun ds => forL g b (x0 :: ρ) μ ds := rfl
theorem fAug_eq (i : Nat) (o : D → D → Option D) (q : FQ) : fAug i o q (x0 :: ρ) μ = (qVar i (x0 :: ρ) μ).bind fun x => (q (x0 :: ρ) μ).bind fun y => (o x y).bind fun d => if data x = true ∧ data d = true then some (.nx ((x0 :: ρ).set i d) μ) else none := rfl
theorem tgN_eq (i : Nat) (d : D) : tgN i d (x0 :: ρ) = if data d = true then some ((x0 :: ρ).set i d) else none := rfl
theorem tgT_eq (is : List Nat) (ds : List D) : tgT is (.tup ds) (x0 :: ρ) = tgs is ds (x0 :: ρ) := rfl
theorem tgs_cons (i : Nat) (is : List Nat) (d : D) (ds : List D) : tgs (i :: is) (d :: ds) ρ = (tgN i d ρ).bind fun ρ' => tgs is ds ρ' := rfl
theorem tgs_nil : tgs [] [] ρ = some ρ := rfl
end
theorem cMul_r {i j : Int} (h1 : -18446744073709551616 < j) (h2 : j < 18446744073709551616) : cMul i j = true := decide_eq_true (.inr ⟨h1, h2⟩)
theorem cMul_l {i j : Int} (h1 : -18446744073709551616 < i) (h2 : i < 18446744073709551616) : cMul i j = true := decide_eq_true (.inl ⟨h1, h2⟩)
theorem small62_of {i : Int} (h1 : -4611686018427387904 ≤ i) (h2 : i < 4611686018427387904) : small62 i = true := decide_eq_true ⟨h1, h2⟩
theorem tyN_NoneType : tyN .non = some "NoneType" := rfl
theorem tyN_bool (b : Bool) : tyN (.bl b) = some "bool" := rfl
theorem tyN_int (b : Int) : tyN (.int b) = some "int" := rfl
theorem tyN_str (b : List Nat) : tyN (.str b) = some "str" := rfl
theorem tyN_list (b : List D) : tyN (.lst b) = some "list" := rfl
theorem tyN_tuple (b : List D) : tyN (.tup b) = some "tuple" := rfl
theorem tyN_ml (b : List D) : tyN (.ml b) = some "list" := rfl
theorem kitB_NoneType_bool : kitB "NoneType" "bool" = some false := by decide +kernel
theorem kitB_NoneType_int : kitB "NoneType" "int" = some false := by decide +kernel
theorem kitB_NoneType_str : kitB "NoneType" "str" = some false := by decide +kernel
theorem kitB_NoneType_list : kitB "NoneType" "list" = some false := by decide +kernel
theorem kitB_NoneType_tuple : kitB "NoneType" "tuple" = some false := by decide +kernel
theorem kitB_bool_bool : kitB "bool" "bool" = some true := by decide +kernel
theorem kitB_bool_int : kitB "bool" "int" = some true := by decide +kernel
theorem kitB_bool_str : kitB "bool" "str" = some false := by decide +kernel
theorem kitB_bool_list : kitB "bool" "list" = some false := by decide +kernel
theorem kitB_bool_tuple : kitB "bool" "tuple" = some false := by decide +kernel
theorem kitB_int_bool : kitB "int" "bool" = some false := by decide +kernel
theorem kitB_int_int : kitB "int" "int" = some true := by decide +kernel
theorem kitB_int_str : kitB "int" "str" = some false := by decide +kernel
theorem kitB_int_list : kitB "int" "list" = some false := by decide +kernel
theorem kitB_int_tuple : kitB "int" "tuple" = some false := by decide +kernel
theorem kitB_str_bool : kitB "str" "bool" = some false := by decide +kernel
theorem kitB_str_int : kitB "str" "int" = some false := by decide +kernel
theorem kitB_str_str : kitB "str" "str" = some true := by decide +kernel
theorem kitB_str_list : kitB "str" "list" = some false := by decide +kernel
theorem kitB_str_tuple : kitB "str" "tuple" = some false := by decide +kernel
theorem kitB_list_bool : kitB "list" "bool" = some false := by decide +kernel
theorem kitB_list_int : kitB "list" "int" = some false := by decide +kernel
theorem kitB_list_str : kitB "list" "str" = some false := by decide +kernel
theorem kitB_list_list : kitB "list" "list" = some true := by decide +kernel
theorem kitB_list_tuple : kitB "list" "tuple" = some false := by decide +kernel
theorem kitB_tuple_bool : kitB "tuple" "bool" = some false := by decide +kernel
theorem kitB_tuple_int : kitB "tuple" "int" = some false := by decide +kernel
theorem kitB_tuple_str : kitB "tuple" "str" = some false := by decide +kernel
theorem kitB_tuple_list : kitB "tuple" "list" = some false := by decide +kernel
theorem kitB_tuple_tuple : kitB "tuple" "tuple" = some true := by decide +kernel
end Fw
/-! # expressions that change something: footprints, a part seen apart -/
namespace Fw
open PySem PySem.Spec PyProof.Rows L2
open Evl (Ex)
section
variable {K : PySem.W.Frag} {W W' : Wd}
theorem Mv.sub {F F1 G G1 : List Addr} (h : Mv W W' F G) (h1 : ∀ a ∈ F, a ∈ F1) (h2 : ∀ a ∈ G1, a ∈ G) : Mv W W' F1 G1 :=
  ⟨fun a o e n => h.keep a o e fun z => n (h1 a z), h.fr, fun a e => (h.nf a e).elim .inl fun z => .inr (z.elim .inl fun z => .inr (h1 a z)), fun a ha => (h.own a (h2 a ha)).elim (fun z => .inl (h1 a z)) .inr, h.m⟩
theorem Sta.len {σ : L2.St} {ρ μ : List D} {F : List Addr} (S : Sta K W σ ρ μ F) : σ.length = ρ.length := by
  obtain ⟨F1, F2, h1, _, _⟩ := S.ex
  exact RS_len h1
/-- a list that differs in the order alone -/
theorem nodup_of_perm {F F' : List Addr} (h : F'.Perm F) (n : F.Nodup) : F'.Nodup := h.nodup_iff.mpr n
/-! ### slots in two groups -/
theorem RS_app : ∀ {xs ρ : List D} {τ σ : List (Option V)} {F G : List Addr}, RS K W xs τ F → RS K W ρ σ G → RS K W (xs ++ ρ) (τ ++ σ) (F ++ G)
  | [], ρ, τ, σ, F, G, h, g => by
    rw [h.1, h.2]
    exact g
  | d :: xs, ρ, τ, σ, F, G, h, g => by
    obtain ⟨o, τ', F1, F2, e1, e2, e3, e4⟩ := h
    exact ⟨o, τ' ++ σ, F1, F2 ++ G, by rw [e1]; rfl, e2, RS_app e3 g, by rw [e4, List.append_assoc]⟩
theorem RS_cut : ∀ {xs ρ : List D} {τ σ : List (Option V)} {F : List Addr}, τ.length = xs.length → RS K W (xs ++ ρ) (τ ++ σ) F → ∃ F1 F2, F = F1 ++ F2 ∧ RS K W xs τ F1 ∧ RS K W ρ σ F2
  | [], ρ, τ, σ, F, hl, h => by
    obtain rfl := List.eq_nil_of_length_eq_zero hl
    exact ⟨[], F, rfl, ⟨rfl, rfl⟩, h⟩
  | d :: xs, ρ, [], σ, F, hl, h => by cases hl
  | d :: xs, ρ, t :: τ, σ, F, hl, h => by
    obtain ⟨o, τ', F1, F2, e1, e2, e3, e4⟩ := h
    rw [List.cons_append] at e1
    injection e1 with e5 e6
    subst e5
    rw [← e6] at e3
    obtain ⟨F3, F4, q1, q2, q3⟩ := RS_cut (Nat.succ.inj hl) e3
    exact ⟨F1 ++ F3, F4, by rw [e4, q1, List.append_assoc], ⟨t, τ, F1, F3, rfl, e2, q2, rfl⟩, q3⟩
/-- the slots ahead seen apart from those behind -/
theorem sta_frame {τ σ : L2.St} {xs ρ μ : List D} {F : List Addr} (S : Sta K W (τ ++ σ) (xs ++ ρ) μ F) (hl : τ.length = xs.length) : ∃ Fc, Sta K W τ xs μ Fc ∧ (∀ a ∈ Fc, a ∈ F) ∧
    ∀ (W' : Wd) (xs' μ' : List D) (Fc' G E : List Addr), Sta K W' τ xs' μ' Fc' → (G ++ Fc').Nodup → (∀ a ∈ G, Own W' a) → (∀ a ∈ E, Own W a ∧ a ∉ F) → Mv W W' (E ++ Fc) (G ++ Fc') → ∃ F', Sta K W' (τ ++ σ) (xs' ++ ρ) μ' F' ∧ (G ++ F').Nodup ∧ Mv W W' (E ++ F) (G ++ F') := by
  obtain ⟨⟨F1, F2, h1, h2, h3⟩, nd, own, ok⟩ := S
  obtain ⟨Fx, Fr, q1, q2, q3⟩ := RS_cut hl h1
  subst q1
  subst h3
  have pm : ∀ (A B C : List Addr), (A ++ B ++ C).Perm (A ++ C ++ B) := fun A B C => by
    rw [List.append_assoc, List.append_assoc]
    exact List.Perm.append_left A List.perm_append_comm
  have nd2 := nodup_of_perm (pm Fx Fr F2).symm nd
  have nd3 := List.nodup_append.mp nd2
  have inF : ∀ a ∈ Fx ++ F2, a ∈ Fx ++ Fr ++ F2 := fun a ha => (pm Fx Fr F2).mem_iff.mpr (List.mem_append_left _ ha)
  have inR : ∀ a ∈ Fr, a ∈ Fx ++ Fr ++ F2 ∧ a ∉ Fx ++ F2 := fun a ha => ⟨(pm Fx Fr F2).mem_iff.mpr (List.mem_append_right _ ha), fun z => nd3.2.2 a z a ha rfl⟩
  refine ⟨Fx ++ F2, ⟨⟨Fx, F2, q2, h2, rfl⟩, nd3.1, fun a ha => own a (inF a ha), ok⟩, inF, fun W' xs' μ' Fc' G E S' ndG ownG hE mv => ?_⟩
  have lt := mv.lt fun a ha => (List.mem_append.mp ha).elim (fun z => (hE a z).1) fun z => own a (inF a z)
  have nE : ∀ a, a ∈ Fx ++ Fr ++ F2 → a ∉ Fx ++ F2 → a ∉ E ++ (Fx ++ F2) := fun a h h' z => (List.mem_append.mp z).elim (fun z => (hE a z).2 h) h'
  have inEF : ∀ a, a ∈ E ++ (Fx ++ F2) → a ∈ E ++ (Fx ++ Fr ++ F2) := fun a z => (List.mem_append.mp z).elim (List.mem_append_left _) fun z => List.mem_append_right _ (inF a z)
  have stay : ∀ a ∈ Fr, W'.H a = W.H a := fun a ha => by
    obtain ⟨h4, h5⟩ := inR a ha
    obtain ⟨_, w⟩ := own a h4
    rcases w with ⟨ys, w⟩ | ⟨Cc, dx, fs, w⟩
    · rw [w]
      exact mv.keep a _ w (nE a h4 h5)
    · rw [w]
      exact mv.keep a _ w (nE a h4 h5)
  have apart : ∀ a ∈ G ++ Fc', a ∉ Fr := fun a ha z => by
    obtain ⟨h4, h5⟩ := inR a z
    rcases mv.own a ha with q | q
    · exact nE a h4 h5 q
    · obtain ⟨_, w⟩ := own a h4
      rcases w with ⟨ys, w⟩ | ⟨Cc, dx, fs, w⟩ <;> rw [q] at w <;> cases w
  obtain ⟨⟨G1, G2, p1, p2, p3⟩, nd', own', ok'⟩ := S'
  subst p3
  have rr : RS K W' ρ σ Fr := RS_keep lt stay q3
  have pm2 : (G ++ (G1 ++ Fr ++ G2)).Perm (G ++ (G1 ++ G2) ++ Fr) := by
    rw [List.append_assoc G]
    exact List.Perm.append_left G (pm G1 Fr G2)
  have ndA : (G ++ (G1 ++ Fr ++ G2)).Nodup := nodup_of_perm pm2 (List.nodup_append.mpr ⟨ndG, (List.nodup_append.mp nd2).2.1, fun a ha b hb z => apart a ha (z ▸ hb)⟩)
  refine ⟨G1 ++ Fr ++ G2, ⟨⟨G1 ++ Fr, G2, RS_app p1 rr, p2, rfl⟩, (List.nodup_append.mp ndA).2.1, fun a ha => ?_, ok'⟩, ndA, ⟨fun a o e n => mv.keep a o e fun z => n (inEF a z), mv.fr, fun a e => (mv.nf a e).elim .inl fun z => .inr (z.elim .inl fun z => .inr (inEF a z)), fun a ha => ?_, mv.m⟩⟩
  · rcases List.mem_append.mp ((pm G1 Fr G2).mem_iff.mp ha) with z | z
    · exact own' a z
    · obtain ⟨h4, h5⟩ := inR a z
      obtain ⟨w1, w2⟩ := own a h4
      refine ⟨fun z' => ?_, by rw [stay a z]; exact w2⟩
      rcases mv.nf a z' with q | q | q
      · exact w1 q
      · rcases w2 with ⟨ys, w⟩ | ⟨Cc, dx, fs, w⟩ <;> rw [q] at w <;> cases w
      · exact nE a h4 h5 q
  · rcases List.mem_append.mp (pm2.mem_iff.mp ha) with z | z
    · exact (mv.own a z).elim (fun q => .inl (inEF a q)) .inr
    · exact .inl (List.mem_append_right _ (inR a z).1)
/-! ### what a slot has is taken out, put in -/
theorem RS_un {d' : D} : ∀ {ρ : List D} {σ : List (Option V)} {F : List Addr} {j : Nat} {d : D}, RS K W ρ σ F → ρ[j]? = some d → d ≠ .un → ∃ v A B C, σ[j]? = some (some v) ∧ F = A ++ (B ++ C) ∧ R K W d v B ∧ RS K W (ρ.set j .un) σ (A ++ C)
  | [], _, _, j, _, _, h, _ => by simp at h
  | d0 :: ρ, _, _, 0, d, h, h1, h2 => by
    obtain ⟨o, σ', F1, F2, e1, e2, e3, e4⟩ := h
    have e : d0 = d := Option.some.inj h1
    subst e
    rw [R1_iff] at e2
    rcases e2 with ⟨q, _⟩ | ⟨v, q1, q2⟩
    · exact absurd q h2
    · subst q1
      exact ⟨v, [], F1, F2, by rw [e1]; rfl, e4, q2, ⟨some v, σ', [], F2, e1, rfl, e3, rfl⟩⟩
  | d0 :: ρ, _, _, j + 1, d, h, h1, h2 => by
    obtain ⟨o, σ', F1, F2, e1, e2, e3, e4⟩ := h
    obtain ⟨v, A, B, C, q1, q2, q3, q4⟩ := RS_un (d' := d') (j := j) e3 (by simpa using h1) h2
    exact ⟨v, F1 ++ A, B, C, by rw [e1]; simpa using q1, by rw [e4, q2, List.append_assoc], q3, ⟨o, σ', F1, A ++ C, e1, e2, q4, by rw [List.append_assoc]⟩⟩
theorem sta_out {σ : L2.St} {ρ μ : List D} {F : List Addr} {m : Nat} {d : D} (S : Sta K W σ ρ μ F) (hm : ρ[m]? = some d) (hne : d ≠ .un) : ∃ v F', σ[m]? = some (some v) ∧ Sta K W (some v :: σ) (d :: ρ.set m .un) μ F' ∧ F'.Perm F := by
  obtain ⟨⟨F1, F2, h1, h2, h3⟩, nd, own, ok⟩ := S
  obtain ⟨v, A, B, C, q1, q2, q3, q4⟩ := RS_un (d' := .un) h1 hm hne
  subst q2
  subst h3
  have pm : (B ++ (A ++ C) ++ F2).Perm (A ++ (B ++ C) ++ F2) := List.Perm.append_right F2 (List.perm_append_comm_assoc B A C)
  exact ⟨v, B ++ (A ++ C) ++ F2, q1, ⟨⟨B ++ (A ++ C), F2, ⟨some v, σ, B, A ++ C, rfl, R1_of q3, q4, rfl⟩, h2, rfl⟩, nodup_of_perm pm nd, fun a ha => own a (pm.mem_iff.mp ha), ok⟩, pm⟩
theorem set_self {α : Type} : ∀ {l : List α} {m : Nat} {x : α}, l[m]? = some x → l.set m x = l
  | [], _, _, h => by simp at h
  | y :: l, 0, x, h => by
    have e : y = x := Option.some.inj h
    rw [e]
    rfl
  | y :: l, m + 1, x, h => by
    rw [List.set_cons_succ, set_self (l := l) (m := m) (by simpa using h)]
theorem sta_in {σ : L2.St} {ρ μ : List D} {F : List Addr} {m : Nat} {d : D} {v : V} (S : Sta K W (some v :: σ) (d :: ρ) μ F) (hm : σ[m]? = some (some v)) : ∃ F', Sta K W σ (ρ.set m d) μ F' ∧ ∀ a ∈ F', a ∈ F := by
  obtain ⟨⟨F1, F2, h1, h2, h3⟩, nd, own, ok⟩ := S
  obtain ⟨o, σ', G, F3, e1, e2, e3, e4⟩ := h1
  injection e1 with e5 e6
  subst e5
  subst e6
  subst e4
  subst h3
  have hl := RS_len e3
  have hi : m < ρ.length := by
    rw [← hl]
    exact (List.getElem?_eq_some_iff.mp hm).1
  obtain ⟨A, B, C, q1, q2⟩ := RS_set e2 e3 hi
  rw [set_self hm] at q2
  subst q1
  have sub : ((G ++ (A ++ C)) ++ F2).Sublist ((G ++ (A ++ (B ++ C))) ++ F2) :=
    List.Sublist.append (List.Sublist.append (List.Sublist.refl G) (List.Sublist.append (List.Sublist.refl A) (List.sublist_append_right B C))) (List.Sublist.refl F2)
  have pm : (A ++ (G ++ C) ++ F2).Perm (G ++ (A ++ C) ++ F2) := List.Perm.append_right F2 (List.perm_append_comm_assoc A G C)
  exact ⟨A ++ (G ++ C) ++ F2, ⟨⟨_, F2, q2, h2, rfl⟩, nodup_of_perm pm (nd.sublist sub), fun a ha => own a (sub.subset (pm.mem_iff.mp ha)), ok⟩, fun a ha => sub.subset (pm.mem_iff.mp ha)⟩
theorem sta_tail {o : Option V} {σ : L2.St} {d : D} {ρ μ : List D} {F : List Addr} (S : Sta K W (o :: σ) (d :: ρ) μ F) : ∃ G F', R1 K W d o G ∧ Sta K W σ ρ μ F' ∧ F = G ++ F' := by
  obtain ⟨⟨F1, F2, h1, h2, h3⟩, nd, own, ok⟩ := S
  obtain ⟨o', σ', G, F3, e1, e2, e3, e4⟩ := h1
  injection e1 with e5 e6
  subst e5
  subst e6
  subst e4
  subst h3
  rw [List.append_assoc] at nd own
  exact ⟨G, F3 ++ F2, e2, ⟨⟨F3, F2, e3, h2, rfl⟩, (List.nodup_append.mp nd).2.1, fun a ha => own a (List.mem_append_right _ ha), ok⟩, by rw [List.append_assoc]⟩
theorem sta_cons {o : Option V} {σ : L2.St} {d : D} {ρ μ : List D} {G F : List Addr} (r : R1 K W d o G) (S : Sta K W σ ρ μ F) (nd : (G ++ F).Nodup) (own : ∀ a ∈ G, Own W a) : Sta K W (o :: σ) (d :: ρ) μ (G ++ F) := by
  obtain ⟨⟨F1, F2, h1, h2, h3⟩, nd2, own2, ok⟩ := S
  subst h3
  exact ⟨⟨G ++ F1, F2, ⟨o, σ, G, F1, rfl, r, h1, rfl⟩, h2, by rw [List.append_assoc]⟩, nd, fun a ha => (List.mem_append.mp ha).elim (own a) (own2 a), ok⟩
end
/-! ### a part seen apart -/
/-- the slots τ, with the trees xs, stand within σ, ρ; put tells how they go back -/
def Foc (K : PySem.W.Frag) (W : Wd) (σ : L2.St) (ρ μ : List D) (F : List Addr) (τ : L2.St) (xs : List D) (put : List D → Option (List D)) : Prop :=
  ∃ Fc, Sta K W τ xs μ Fc ∧ (∀ a ∈ Fc, a ∈ F) ∧ ∀ (W' : Wd) (xs' μ' : List D) (Fc' G E : List Addr) (ρ' : List D), put xs' = some ρ' → Sta K W' τ xs' μ' Fc' → (G ++ Fc').Nodup → (∀ a ∈ G, Own W' a) → (∀ a ∈ E, Own W a ∧ a ∉ F) → Mv W W' (E ++ Fc) (G ++ Fc') →
    ∃ F', Sta K W' σ ρ' μ' F' ∧ (G ++ F').Nodup ∧ Mv W W' (E ++ F) (G ++ F')
section
variable {K : PySem.W.Frag} {W : Wd} {σ τ τ2 : L2.St} {ρ μ xs xs2 : List D} {F : List Addr} {put put2 : List D → Option (List D)}
theorem Foc.trans (h : Foc K W σ ρ μ F τ xs put) (g : ∀ Fc, Sta K W τ xs μ Fc → Foc K W τ xs μ Fc τ2 xs2 put2) : Foc K W σ ρ μ F τ2 xs2 (fun ys => (put2 ys).bind put) := by
  obtain ⟨Fc, S, s1, k⟩ := h
  obtain ⟨Fd, S2, s2, k2⟩ := g Fc S
  refine ⟨Fd, S2, fun a ha => s1 a (s2 a ha), fun W' xs' μ' Fc' G E ρ' hp S' nd own hE mv => ?_⟩
  obtain ⟨ys, e1, e2⟩ := bind_some hp
  obtain ⟨Fe, S3, nd3, mv3⟩ := k2 W' xs' μ' Fc' G E ys e1 S' nd own (fun a ha => ⟨(hE a ha).1, fun z => (hE a ha).2 (s1 a z)⟩) mv
  exact k W' ys μ' Fe G E ρ' e2 S3 nd3 own hE mv3
theorem Foc.put_imp {put' : List D → Option (List D)} (h : Foc K W σ ρ μ F τ xs put) (e : ∀ ys zs, put' ys = some zs → put ys = some zs) : Foc K W σ ρ μ F τ xs put' := by
  obtain ⟨Fc, S, s1, k⟩ := h
  exact ⟨Fc, S, s1, fun W' xs' μ' Fc' G E ρ' hp => k W' xs' μ' Fc' G E ρ' (e _ _ hp)⟩
def put1 (g : D → Option (List D)) : List D → Option (List D)
  | [d] => g d
  | _ => none
theorem RS_one {K : PySem.W.Frag} {W : Wd} {xs : List D} {o : Option V} {F : List Addr} (h : RS K W xs [o] F) : ∃ d, xs = [d] := by
  have e := RS_len h
  match xs, e with
  | [d], _ => exact ⟨d, rfl⟩
/-- one slot -/
theorem foc_slot (S : Sta K W σ ρ μ F) {i : Nat} {d : D} (hi : ρ[i]? = some d) (hne : d ≠ .un) : ∃ v, σ[i]? = some (some v) ∧ Foc K W σ ρ μ F [some v] [d] (put1 fun d' => some (ρ.set i d')) := by
  obtain ⟨v, F', hv, S1, pm⟩ := sta_out S hi hne
  obtain ⟨Fc, S2, sub, k⟩ := sta_frame (τ := [some v]) (xs := [d]) S1 rfl
  refine ⟨v, hv, Fc, S2, fun a ha => pm.mem_iff.mp (sub a ha), fun W' xs' μ' Fc' G E ρ' hp S' nd own hE mv => ?_⟩
  obtain ⟨d', rfl⟩ : ∃ d', xs' = [d'] := by
    obtain ⟨F1, F2, h1, _, _⟩ := S'.ex
    exact RS_one h1
  cases hp
  obtain ⟨F3, S3, nd3, mv3⟩ := k W' [d'] μ' Fc' G E S' nd own (fun a ha => ⟨(hE a ha).1, fun z => (hE a ha).2 (pm.mem_iff.mp z)⟩) mv
  obtain ⟨F4, S4, sub4⟩ := sta_in (σ := σ) (ρ := ρ.set i .un) (m := i) S3 hv
  rw [List.set_set] at S4
  have ndG := List.nodup_append.mp nd3
  exact ⟨F4, S4, List.nodup_append.mpr ⟨ndG.1, S4.nd, fun a ha b hb => ndG.2.2 a ha b (sub4 b hb)⟩, mv3.sub (fun a ha => (List.mem_append.mp ha).elim (List.mem_append_left _) fun z => List.mem_append_right _ (pm.mem_iff.mp z)) fun a ha => (List.mem_append.mp ha).elim (List.mem_append_left _) fun z => List.mem_append_right _ (sub4 a z)⟩
/-- what stands at the front -/
theorem foc_front {o : Option V} {d : D} (S : Sta K W (o :: σ) (d :: ρ) μ F) : Foc K W (o :: σ) (d :: ρ) μ F [o] [d] (put1 fun d' => some (d' :: ρ)) := by
  obtain ⟨Fc, S2, sub, k⟩ := sta_frame (τ := [o]) (xs := [d]) S rfl
  refine ⟨Fc, S2, sub, fun W' xs' μ' Fc' G E ρ' hp S' nd own hE mv => ?_⟩
  obtain ⟨d', rfl⟩ : ∃ d', xs' = [d'] := by
    obtain ⟨F1, F2, h1, _, _⟩ := S'.ex
    exact RS_one h1
  cases hp
  exact k W' [d'] μ' Fc' G E S' nd own hE mv
/-- values without places of their own, besides -/
theorem foc_vals {ds : List D} {vs : List V} (S : Sta K W τ xs μ F) (r : RL K W ds vs []) : Foc K W τ xs μ F (τ ++ vs.map some) (xs ++ ds) (fun ys => some (ys.take xs.length)) := by
  have rs : ∀ {ds : List D} {vs : List V}, RL K W ds vs [] → RS K W ds (vs.map some) [] := by
    intro ds
    induction ds with
    | nil => exact fun {vs} h => by rw [h.1]; exact ⟨rfl, rfl⟩
    | cons d ds ih =>
      intro vs h
      obtain ⟨v, vs', F1, F2, h1, h2, h3, h4⟩ := h
      obtain ⟨rfl, rfl⟩ := List.append_eq_nil_iff.mp h4.symm
      rw [h1]
      exact ⟨some v, vs'.map some, [], [], rfl, R1_of h2, ih h3, rfl⟩
  obtain ⟨⟨F1, F2, h1, h2, h3⟩, nd, own, ok⟩ := S
  refine ⟨F, ⟨⟨F1, F2, by
    have := RS_app h1 (rs r)
    rw [List.append_nil] at this
    exact this, h2, h3⟩, nd, own, ok⟩, fun _ h => h, fun W' xs' μ' Fc' G E ρ' hp S' nd' own' hE mv => ?_⟩
  cases hp
  obtain ⟨⟨G1, G2, p1, p2, p3⟩, nd2, own2, ok2⟩ := S'
  subst p3
  have hl := RS_len p1
  have lx := RS_len h1
  have hx : xs' = xs'.take xs.length ++ xs'.drop xs.length := (List.take_append_drop ..).symm
  have hle : xs.length ≤ xs'.length := by
    rw [List.length_append] at hl
    omega
  rw [hx] at p1
  obtain ⟨G3, G4, q1, q2, q3⟩ := RS_cut (by rw [List.length_take, lx]; omega) p1
  subst q1
  have sub : (G3 ++ G2).Sublist (G3 ++ G4 ++ G2) := List.Sublist.append (List.sublist_append_left G3 G4) (List.Sublist.refl G2)
  refine ⟨G3 ++ G2, ⟨⟨G3, G2, q2, p2, rfl⟩, nd2.sublist sub, fun a ha => own2 a (sub.subset ha), ok2⟩, nd'.sublist (List.Sublist.append (List.Sublist.refl G) sub), mv.sub (fun a h => h) fun a ha => (List.Sublist.append (List.Sublist.refl G) sub).subset ha⟩
/-! ### fields -/
/-- the place of a name -/
def fidx (x : Str) : List Str → Option Nat
  | [] => none
  | y :: ns => if y = x then some 0 else (fidx x ns).map Nat.succ
theorem fidx_lookup {x : Str} : ∀ {ns : List Str} {vs : List V} {i : Nat}, fidx x ns = some i → ns.length = vs.length → (ns.zip vs).lookup x = vs[i]?
  | [], _, _, h, _ => by cases h
  | y :: ns, [], _, _, hl => by cases hl
  | y :: ns, v :: vs, i, h, hl => by
    unfold fidx at h
    by_cases e : y = x
    · rw [if_pos e] at h
      cases h
      subst e
      show List.lookup y ((y, v) :: ns.zip vs) = some v
      rw [List.lookup_cons, beq_self_eq_true]
    · rw [if_neg e] at h
      obtain ⟨j, h1, h2⟩ := map_some h
      subst h2
      show List.lookup x ((y, v) :: ns.zip vs) = _
      rw [List.lookup_cons, show (x == y) = false from beq_eq_false_iff_ne.mpr fun z => e z.symm]
      exact fidx_lookup h1 (Nat.succ.inj hl)
theorem fidx_none {x : Str} : ∀ {ns : List Str} {vs : List V}, fidx x ns = none → (ns.zip vs).lookup x = none
  | [], _, _ => rfl
  | y :: ns, [], _ => rfl
  | y :: ns, v :: vs, h => by
    unfold fidx at h
    by_cases e : y = x
    · rw [if_pos e] at h
      cases h
    · rw [if_neg e] at h
      have h1 : fidx x ns = none := Option.map_eq_none_iff.mp h
      show List.lookup x ((y, v) :: ns.zip vs) = _
      rw [List.lookup_cons, show (x == y) = false from beq_eq_false_iff_ne.mpr fun z => e z.symm]
      exact fidx_none h1
theorem fidx_lt {x : Str} : ∀ {ns : List Str} {i : Nat}, fidx x ns = some i → i < ns.length
  | [], _, h => by cases h
  | y :: ns, i, h => by
    unfold fidx at h
    by_cases e : y = x
    · rw [if_pos e] at h
      cases h
      exact Nat.succ_pos _
    · rw [if_neg e] at h
      obtain ⟨j, h1, h2⟩ := map_some h
      subst h2
      exact Nat.succ_lt_succ (fidx_lt h1)
theorem putF_set {x : Str} {v : V} : ∀ {ns : List Str} {vs : List V} {i : Nat}, fidx x ns = some i → ns.length = vs.length → putF x v (ns.zip vs) = ns.zip (vs.set i v)
  | [], _, _, h, _ => by cases h
  | y :: ns, [], _, _, hl => by cases hl
  | y :: ns, u :: vs, i, h, hl => by
    unfold fidx at h
    rw [List.zip_cons_cons, show putF x v ((y, u) :: ns.zip vs) = (if y = x then (y, v) :: ns.zip vs else (y, u) :: putF x v (ns.zip vs)) from rfl]
    by_cases e : y = x
    · rw [if_pos e] at h
      cases h
      rw [if_pos e]
      rfl
    · rw [if_neg e] at h
      obtain ⟨j, h1, h2⟩ := map_some h
      subst h2
      rw [if_neg e, putF_set h1 (Nat.succ.inj hl)]
      rfl
theorem putF_new {x : Str} {v : V} : ∀ {ns : List Str} {vs : List V}, fidx x ns = none → ns.length = vs.length → putF x v (ns.zip vs) = (ns ++ [x]).zip (vs ++ [v])
  | [], [], _, _ => rfl
  | [], _ :: _, _, hl => by cases hl
  | y :: ns, [], _, hl => by cases hl
  | y :: ns, u :: vs, h, hl => by
    unfold fidx at h
    rw [List.zip_cons_cons, show putF x v ((y, u) :: ns.zip vs) = (if y = x then (y, v) :: ns.zip vs else (y, u) :: putF x v (ns.zip vs)) from rfl]
    by_cases e : y = x
    · rw [if_pos e] at h
      cases h
    · rw [if_neg e] at h
      have h1 : fidx x ns = none := Option.map_eq_none_iff.mp h
      rw [if_neg e, putF_new h1 (Nat.succ.inj hl)]
      rfl
theorem RL_lens : ∀ {ds : List D} {vs : List V} {F : List Addr} {j : Nat} {d : D}, RL K W ds vs F → ds[j]? = some d → ∃ v A B C, vs[j]? = some v ∧ F = A ++ (B ++ C) ∧ R K W d v B ∧
    ∀ (W' : Wd) (d' : D) (v' : V) (G : List Addr), Lt W W' → (∀ b ∈ A ++ C, W'.H b = W.H b) → R K W' d' v' G → RL K W' (ds.set j d') (vs.set j v') (A ++ (G ++ C))
  | [], _, _, j, _, _, h => by simp at h
  | d0 :: ds, _, _, 0, d, h, h1 => by
    obtain ⟨v, vs', F1, F2, e1, e2, e3, e4⟩ := h
    have e : d0 = d := Option.some.inj h1
    subst e
    exact ⟨v, [], F1, F2, by rw [e1]; rfl, e4, e2, fun W' d' v' G lt k r => by rw [e1]; exact ⟨v', vs', G, F2, rfl, r, RL_keep lt ds (fun b hb => k b hb) e3, rfl⟩⟩
  | d0 :: ds, _, _, j + 1, d, h, h1 => by
    obtain ⟨v, vs', F1, F2, e1, e2, e3, e4⟩ := h
    obtain ⟨u, A, B, C, q1, q2, q3, q4⟩ := RL_lens (j := j) e3 (by simpa using h1)
    refine ⟨u, F1 ++ A, B, C, by rw [e1]; simpa using q1, by rw [e4, q2, List.append_assoc], q3, fun W' d' v' G lt k r => ?_⟩
    rw [e1]
    refine ⟨v, vs'.set j v', F1, A ++ (G ++ C), rfl, R_keep lt d0 (fun b hb => k b ?_) e2, q4 W' d' v' G lt (fun b hb => k b ?_) r, by rw [List.append_assoc]⟩
    · exact List.mem_append_left _ (List.mem_append_left _ hb)
    · rcases List.mem_append.mp hb with z | z
      · exact List.mem_append_left _ (List.mem_append_right _ z)
      · exact List.mem_append_right _ z
end
end Fw
/-! # fields seen apart and set; how an expression that changes something ends -/
namespace Fw
open PySem PySem.Spec PyProof.Rows L2
open Evl (Ex)
def isUn : D → Bool
  | .un => true
  | _ => false
theorem isUn_ne {d : D} (h : isUn d = false) : d ≠ .un := fun z => by
  subst z
  cases h
section
variable {K : PySem.W.Frag} {W : Wd} {σ τ τ2 : L2.St} {ρ μ xs xs2 : List D} {F : List Addr}
/-- a field of an instance that stands apart -/
theorem foc_fld {o : Option V} {c : Str} {ns : List Str} {ds : List D} {x : Str} {i : Nat} {d : D} (S : Sta K W [o] [.obj c ns ds] μ F) (hx : fidx x ns = some i) (hi : ds[i]? = some d) :
    ∃ a dx vs v, o = some (.ref a) ∧ W.H a = some (.ins (He.ga K c) dx (ns.zip vs)) ∧ ns.length = ds.length ∧ vs.length = ds.length ∧ (ns.zip vs).lookup x = some v ∧ Foc K W [o] [.obj c ns ds] μ F [some v] [d] (put1 fun d' => if isUn d' = true then none else some [.obj c ns (ds.set i d')]) := by
  obtain ⟨G0, F0, r, S0, e0⟩ := sta_tail S
  rw [R1_iff] at r
  rcases r with ⟨z, _⟩ | ⟨u, rfl, a, dx, vs, F', rfl, hH, hn, hR, rfl⟩
  · cases z
  obtain ⟨v, A, B, C, q1, q2, q3, q4⟩ := RL_lens hR hi
  subst q2
  have lv := RL_len hR
  have hv : (ns.zip vs).lookup x = some v := by
    rw [fidx_lookup hx (by rw [hn, lv])]
    exact q1
  refine ⟨a, dx, vs, v, rfl, hH, hn, lv, hv, ?_⟩
  obtain ⟨⟨F1, F2, p1, p2, p3⟩, nd0, own0, ok⟩ := S0
  obtain ⟨_, rfl⟩ := p1
  have e3 : F0 = F2 := p3
  subst e3
  have nd := S.nd
  have own := S.own
  rw [e0] at nd own
  -- B and the store on the one side; a, A, C on the other
  have pm : (a :: (A ++ (B ++ C)) ++ F0).Perm (B ++ F0 ++ (a :: (A ++ C))) := by
    have z1 : (a :: (A ++ (B ++ C)) ++ F0).Perm (B ++ (a :: (A ++ C)) ++ F0) := by
      refine List.Perm.append_right F0 ?_
      exact ((List.perm_append_comm_assoc A B C).cons a).trans List.perm_middle.symm
    refine z1.trans ?_
    rw [List.append_assoc, List.append_assoc]
    exact List.Perm.append_left B List.perm_append_comm
  have nd2 := nodup_of_perm pm.symm nd
  have nd3 := List.nodup_append.mp nd2
  have inB : ∀ b ∈ B ++ F0, b ∈ F := fun b hb => by
    rw [e0]
    exact pm.mem_iff.mpr (List.mem_append_left _ hb)
  have inR : ∀ b ∈ a :: (A ++ C), b ∈ F ∧ b ∉ B ++ F0 := fun b hb => ⟨by rw [e0]; exact pm.mem_iff.mpr (List.mem_append_right _ hb), fun z => nd3.2.2 b z b hb rfl⟩
  refine ⟨B ++ F0, ⟨⟨B, F0, ⟨some v, [], B, [], rfl, R1_of q3, ⟨rfl, rfl⟩, (List.append_nil B).symm⟩, p2, rfl⟩, nd3.1, fun b hb => S.own b (inB b hb), ok⟩, inB, fun W' xs' μ' Fc' G E ρ' hp S' ndG ownG hE mv => ?_⟩
  obtain ⟨d', rfl⟩ : ∃ d', xs' = [d'] := by
    obtain ⟨F1, F2, h1, _, _⟩ := S'.ex
    exact RS_one h1
  have hne : d' ≠ .un := fun z => by
    subst z
    cases hp
  have hp2 : ρ' = [.obj c ns (ds.set i d')] := by
    cases d' <;> first
      | exact absurd rfl hne
      | (cases hp; rfl)
  subst hp2
  have lt := mv.lt fun b hb => (List.mem_append.mp hb).elim (fun z => (hE b z).1) fun z => S.own b (inB b z)
  have nE : ∀ b, b ∈ F → b ∉ B ++ F0 → b ∉ E ++ (B ++ F0) := fun b h h' z => (List.mem_append.mp z).elim (fun z => (hE b z).2 h) h'
  have inEB : ∀ b, b ∈ E ++ (B ++ F0) → b ∈ E ++ F := fun b z => (List.mem_append.mp z).elim (List.mem_append_left _) fun z => List.mem_append_right _ (inB b z)
  have stay : ∀ b ∈ a :: (A ++ C), W'.H b = W.H b := fun b hb => by
    obtain ⟨h4, h5⟩ := inR b hb
    obtain ⟨_, w⟩ := S.own b h4
    rcases w with ⟨ys, w⟩ | ⟨Cc, dx, fs, w⟩
    · rw [w]
      exact mv.keep b _ w (nE b h4 h5)
    · rw [w]
      exact mv.keep b _ w (nE b h4 h5)
  have apart : ∀ b ∈ G ++ Fc', b ∉ a :: (A ++ C) := fun b hb z => by
    obtain ⟨h4, h5⟩ := inR b z
    rcases mv.own b hb with q | q
    · exact nE b h4 h5 q
    · obtain ⟨_, w⟩ := S.own b h4
      rcases w with ⟨ys, w⟩ | ⟨Cc, dx, fs, w⟩ <;> rw [q] at w <;> cases w
  obtain ⟨G1, Fs, r1, S1, e1⟩ := sta_tail S'
  rw [R1_iff] at r1
  rcases r1 with ⟨z, _⟩ | ⟨v', ev, r1⟩
  · exact absurd z hne
  injection ev with ev
  subst ev
  obtain ⟨⟨F5, F6, w1, w2, w3⟩, nd5, own5, ok5⟩ := S1
  obtain ⟨_, rfl⟩ := w1
  have e6 : Fs = F6 := w3
  subst e6
  subst e1
  have hset : vs.set i v = vs := set_self q1
  have rr := q4 W' d' v G1 lt (fun b hb => stay b (List.mem_cons_of_mem _ hb)) r1
  rw [hset] at rr
  have robj : R K W' (.obj c ns (ds.set i d')) (.ref a) (a :: (A ++ (G1 ++ C))) := ⟨a, dx, vs, _, rfl, by rw [stay a (List.mem_cons_self ..)]; exact hH, by rw [List.length_set]; exact hn, rr, rfl⟩
  have pm2 : (G ++ ((a :: (A ++ (G1 ++ C))) ++ Fs)).Perm (G ++ (G1 ++ Fs) ++ (a :: (A ++ C))) := by
    rw [List.append_assoc G]
    refine List.Perm.append_left G ?_
    have z1 : (a :: (A ++ (G1 ++ C)) ++ Fs).Perm (G1 ++ (a :: (A ++ C)) ++ Fs) := by
      refine List.Perm.append_right Fs ?_
      exact ((List.perm_append_comm_assoc A G1 C).cons a).trans List.perm_middle.symm
    refine z1.trans ?_
    rw [List.append_assoc, List.append_assoc]
    exact List.Perm.append_left G1 List.perm_append_comm
  have ndA : (G ++ ((a :: (A ++ (G1 ++ C))) ++ Fs)).Nodup := nodup_of_perm pm2 (List.nodup_append.mpr ⟨ndG, nd3.2.1, fun b hb b' hb' z => apart b hb (z ▸ hb')⟩)
  have ownA : ∀ b ∈ G ++ (G1 ++ Fs) ++ (a :: (A ++ C)), b ∉ G → Own W' b := fun b hb hG => by
    rcases List.mem_append.mp hb with z | z
    · rcases List.mem_append.mp z with z | z
      · exact absurd z hG
      · exact S'.own b z
    · obtain ⟨h4, h5⟩ := inR b z
      obtain ⟨w1, w2⟩ := S.own b h4
      refine ⟨fun z' => ?_, by rw [stay b z]; exact w2⟩
      rcases mv.nf b z' with q | q | q
      · exact w1 q
      · rcases w2 with ⟨ys, w⟩ | ⟨Cc, dx, fs, w⟩ <;> rw [q] at w <;> cases w
      · exact nE b h4 h5 q
  have ndB := List.nodup_append.mp ndA
  refine ⟨(a :: (A ++ (G1 ++ C))) ++ Fs, ⟨⟨_, Fs, ⟨some (.ref a), [], _, [], rfl, R1_of robj, ⟨rfl, rfl⟩, (List.append_nil _).symm⟩, w2, rfl⟩, ndB.2.1, fun b hb => ownA b (pm2.mem_iff.mp (List.mem_append_right _ hb)) (fun z => ndB.2.2 b z b hb rfl), ok5⟩, ndA, ⟨fun b o e n => mv.keep b o e fun z => n (inEB b z), mv.fr, fun b e => (mv.nf b e).elim .inl fun z => .inr (z.elim .inl fun z => .inr (inEB b z)), fun b hb => ?_, mv.m⟩⟩
  rcases List.mem_append.mp (pm2.mem_iff.mp hb) with z | z
  · exact (mv.own b z).elim (fun q => .inl (inEB b q)) .inr
  · exact .inl (List.mem_append_right _ (inR b z).1)
end
end Fw
/-! # paths; a field is set; PX -/
namespace Fw
open PySem PySem.Spec PyProof.Rows L2
open Evl (Ex)
abbrev OkT := Str → Str → Bool
/-- the classes' table: ok c x: an instance of c may have a field x -/
def CE (K : PySem.W.Frag) (ok : OkT) : Prop := ∀ c x, ok c x = true → Cls K (He.ga K c) ∧ NoAttr K (He.ga K c) x
def pget (ok : OkT) : List Str → D → Option D
  | [], d => if isUn d = true then none else some d
  | x :: p, .obj c ns ds => if ok c x = true then (fidx x ns).bind fun i => (ds[i]?).bind (pget ok p) else none
  | _ :: _, _ => none
def pput : List Str → D → D → Option D
  | [], _, e => if isUn e = true then none else some e
  | x :: p, .obj c ns ds, e => (fidx x ns).bind fun i => (ds[i]?).bind fun d => (pput p d e).map fun d' => .obj c ns (ds.set i d')
  | _ :: _, _, _ => none
theorem pput_ne : ∀ {p : List Str} {d e d' : D}, pput p d e = some d' → isUn d' = false
  | [], _, e, d', h => by
    unfold pput at h
    by_cases z : isUn e = true
    · rw [if_pos z] at h
      cases h
    · rw [if_neg z] at h
      cases h
      exact Bool.eq_false_iff.mpr z
  | x :: p, .obj c ns ds, e, d', h => by
    obtain ⟨i, _, h⟩ := bind_some h
    obtain ⟨d, _, h⟩ := bind_some h
    obtain ⟨d2, _, rfl⟩ := map_some h
    rfl
  | x :: p, .non, e, d', h => by cases h
  | x :: p, .bl _, e, d', h => by cases h
  | x :: p, .int _, e, d', h => by cases h
  | x :: p, .str _, e, d', h => by cases h
  | x :: p, .tup _, e, d', h => by cases h
  | x :: p, .lst _, e, d', h => by cases h
  | x :: p, .ml _, e, d', h => by cases h
  | x :: p, .fo _ _ _, e, d', h => by cases h
  | x :: p, .ref _, e, d', h => by cases h
  | x :: p, .un, e, d', h => by cases h
/-- along the fields of the heap -/
def rdp (K : PySem.W.Frag) (H : Hp) : V → List Str → V → Prop
  | u, [], v => u = v
  | u, x :: p, v => ∃ a C dx fs w, u = .ref a ∧ H a = some (.ins C dx fs) ∧ Cls K C ∧ NoAttr K C x ∧ fs.lookup x = some w ∧ rdp K H w p v
theorem rdp_app {K : PySem.W.Frag} {H : Hp} {q : List Str} : ∀ {p : List Str} {u v : V}, rdp K H u (p ++ q) v → ∃ w, rdp K H u p w ∧ rdp K H w q v
  | [], u, v, h => ⟨u, rfl, h⟩
  | x :: p, u, v, h => by
    obtain ⟨a, C, dx, fs, w, h1, h2, h3, h4, h5, h6⟩ := h
    obtain ⟨z, h7, h8⟩ := rdp_app (p := p) h6
    exact ⟨z, ⟨a, C, dx, fs, w, h1, h2, h3, h4, h5, h7⟩, h8⟩
section
variable {K : PySem.W.Frag} {W : Wd} {σ τ τ2 : L2.St} {ρ μ xs xs2 : List D} {F : List Addr} {ok : OkT}
theorem foc_path (T : CE K ok) : ∀ (p : List Str) {μ : List D} {F : List Addr} {o : Option V} {d e : D}, Sta K W [o] [d] μ F → pget ok p d = some e → ∃ u v, o = some u ∧ rdp K W.H u p v ∧ Foc K W [o] [d] μ F [some v] [e] (put1 fun e' => (pput p d e').map fun d' => [d'])
  | [], μ, F, o, d, e, S, h => by
    unfold pget at h
    by_cases z : isUn d = true
    · rw [if_pos z] at h
      cases h
    rw [if_neg z] at h
    cases h
    obtain ⟨G, F', r, S', e1⟩ := sta_tail S
    rw [R1_iff] at r
    rcases r with ⟨q, _⟩ | ⟨v, rfl, r⟩
    · subst q
      exact absurd rfl z
    refine ⟨v, v, rfl, rfl, F, S, fun _ h => h, fun W' xs' μ' Fc' G E ρ' hp S' nd own hE mv => ?_⟩
    obtain ⟨d', rfl⟩ : ∃ d', xs' = [d'] := by
      obtain ⟨F1, F2, h1, _, _⟩ := S'.ex
      exact RS_one h1
    have hp2 : (pput [] d d').map (fun d' => [d']) = some ρ' := hp
    unfold pput at hp2
    by_cases z : isUn d' = true
    · rw [if_pos z] at hp2
      cases hp2
    rw [if_neg z] at hp2
    cases hp2
    exact ⟨Fc', S', nd, mv⟩
  | x :: p, μ, F, o, .obj c ns ds, e, S, h => by
    unfold pget at h
    by_cases hk : ok c x = true
    case neg => rw [if_neg hk] at h; cases h
    rw [if_pos hk] at h
    obtain ⟨i, h1, h⟩ := bind_some h
    obtain ⟨d, h2, h⟩ := bind_some h
    obtain ⟨a, dx, vs, v, rfl, q1, q2, q3, q4, fo⟩ := foc_fld S h1 h2
    have fo2 := fo
    obtain ⟨Fc, S2, _, _⟩ := fo2
    obtain ⟨w, v2, e1, r2, _⟩ := foc_path T p S2 h
    injection e1 with e1
    subst e1
    obtain ⟨cl, na⟩ := T c x hk
    refine ⟨.ref a, v2, rfl, ⟨a, _, dx, _, v, rfl, q1, cl, na, q4, r2⟩, ?_⟩
    refine (fo.trans (put2 := put1 fun e' => (pput p d e').map fun d' => [d']) (fun Fd Sd => ?_)).put_imp ?_
    · obtain ⟨w', v3, e2, r3, fo3⟩ := foc_path T p Sd h
      injection e2 with e2
      subst e2
      have det : ∀ {p : List Str} {u v v' : V}, rdp K W.H u p v → rdp K W.H u p v' → v = v' := by
        intro p
        induction p with
        | nil => exact fun h h' => h.symm.trans h'
        | cons y p ih =>
          rintro u v v' ⟨a, C, dx, fs, w, h1, h2, h3, h4, h5, h6⟩ ⟨a', C', dx', fs', w', g1, g2, g3, g4, g5, g6⟩
          subst h1
          cases g1
          rw [h2] at g2
          cases g2
          rw [h5] at g5
          cases g5
          exact ih h6 g6
      rw [det r2 r3]
      exact fo3
    · intro ys zs hz
      match ys, hz with
      | [e'], hz =>
        have hz2 : (pput (x :: p) (.obj c ns ds) e').map (fun d' => [d']) = some zs := hz
        unfold pput at hz2
        rw [h1] at hz2
        obtain ⟨d3, hz3, rfl⟩ := map_some hz2
        obtain ⟨d4, h5, hz4⟩ := bind_some (show (ds[i]?).bind (fun d => (pput p d e').map fun d' => D.obj c ns (ds.set i d')) = some d3 from hz3)
        rw [h2] at h5
        cases h5
        obtain ⟨d5, h6, rfl⟩ := map_some hz4
        show ((pput p d e').map fun d' => [d']).bind _ = _
        rw [h6]
        show (if isUn d5 = true then none else some [D.obj c ns (ds.set i d5)]) = _
        rw [if_neg (by rw [pput_ne h6]; exact Bool.false_ne_true)]
  | x :: p, μ, F, o, .non, e, S, h => by cases h
  | x :: p, μ, F, o, .bl _, e, S, h => by cases h
  | x :: p, μ, F, o, .int _, e, S, h => by cases h
  | x :: p, μ, F, o, .str _, e, S, h => by cases h
  | x :: p, μ, F, o, .tup _, e, S, h => by cases h
  | x :: p, μ, F, o, .lst _, e, S, h => by cases h
  | x :: p, μ, F, o, .ml _, e, S, h => by cases h
  | x :: p, μ, F, o, .fo _ _ _, e, S, h => by cases h
  | x :: p, μ, F, o, .ref _, e, S, h => by cases h
  | x :: p, μ, F, o, .un, e, S, h => by cases h
theorem pget_ne : ∀ {p : List Str} {d e : D}, pget ok p d = some e → isUn d = false ∧ isUn e = false
  | [], d, e, h => by
    unfold pget at h
    by_cases z : isUn d = true
    · rw [if_pos z] at h
      cases h
    rw [if_neg z] at h
    cases h
    exact ⟨Bool.eq_false_iff.mpr z, Bool.eq_false_iff.mpr z⟩
  | x :: p, .obj c ns ds, e, h => by
    unfold pget at h
    by_cases hk : ok c x = true
    case neg => rw [if_neg hk] at h; cases h
    rw [if_pos hk] at h
    obtain ⟨i, h1, h⟩ := bind_some h
    obtain ⟨d, h2, h⟩ := bind_some h
    exact ⟨rfl, (pget_ne h).2⟩
  | x :: p, .non, e, h => by cases h
  | x :: p, .bl _, e, h => by cases h
  | x :: p, .int _, e, h => by cases h
  | x :: p, .str _, e, h => by cases h
  | x :: p, .tup _, e, h => by cases h
  | x :: p, .lst _, e, h => by cases h
  | x :: p, .ml _, e, h => by cases h
  | x :: p, .fo _ _ _, e, h => by cases h
  | x :: p, .ref _, e, h => by cases h
  | x :: p, .un, e, h => by cases h
/-- a slot's part at a path -/
theorem foc_sp (T : CE K ok) (S : Sta K W σ ρ μ F) {i : Nat} {p : List Str} {d e : D} (hi : ρ[i]? = some d) (hp : pget ok p d = some e) :
    ∃ u v, σ[i]? = some (some u) ∧ rdp K W.H u p v ∧ Foc K W σ ρ μ F [some v] [e] (put1 fun e' => (pput p d e').map fun d' => ρ.set i d') := by
  obtain ⟨u, hu, fo⟩ := foc_slot S hi (isUn_ne (pget_ne hp).1)
  have fo2 := fo
  obtain ⟨Fc, S2, _⟩ := fo2
  obtain ⟨u', v, e1, r2, _⟩ := foc_path T p S2 hp
  injection e1 with e1
  subst e1
  refine ⟨u, v, hu, r2, ?_⟩
  refine (fo.trans (put2 := put1 fun e' => (pput p d e').map fun d' => [d']) (fun Fd Sd => ?_)).put_imp ?_
  · obtain ⟨w', v3, e2, r3, fo3⟩ := foc_path T p Sd hp
    injection e2 with e2
    subst e2
    have det : ∀ {p : List Str} {u v v' : V}, rdp K W.H u p v → rdp K W.H u p v' → v = v' := by
      intro p
      induction p with
      | nil => exact fun h h' => h.symm.trans h'
      | cons y p ih =>
        rintro u v v' ⟨a, C, dx, fs, w, h1, h2, h3, h4, h5, h6⟩ ⟨a', C', dx', fs', w', g1, g2, g3, g4, g5, g6⟩
        subst h1
        cases g1
        rw [h2] at g2
        cases g2
        rw [h5] at g5
        cases g5
        exact ih h6 g6
    rw [det r2 r3]
    exact fo3
  · intro ys zs hz
    match ys, hz with
    | [e'], hz =>
      obtain ⟨d3, h6, rfl⟩ := map_some (show (pput p d e').map (fun d' => ρ.set i d') = some zs from hz)
      show ((pput p d e').map fun d' => [d']).bind _ = _
      rw [h6]
      rfl
/-! ### a field is set -/
def putD (x : Str) (d : D) (c : Str) (ns : List Str) (ds : List D) : D := match fidx x ns with
  | some i => .obj c ns (ds.set i d)
  | none => .obj c (ns ++ [x]) (ds ++ [d])
theorem Lt.upd_ins {W : Wd} {a C dx C' dx' : Addr} {fs fs' : List (Str × V)} (h : W.H a = some (.ins C dx fs)) (hf : ¬ W.Fr a) : Lt W ⟨upd W.H a (.ins C' dx' fs'), W.Fr, W.m⟩ := by
  have ne : ∀ b o, W.H b = some o → (∀ C dx fs, o ≠ .ins C dx fs) → upd W.H a (.ins C' dx' fs') b = some o := fun b o e n => by
    rw [upd_ne fun z => ?_]
    · exact e
    · subst z
      rw [h] at e
      exact n _ _ _ (Option.some.inj e).symm
  refine ⟨fun b xs r => ?_, fun b xs r => ⟨?_, r.2⟩, fun b C dx fs r r' => ⟨?_, r'⟩, fun _ _ h => h⟩
  · rcases r with r | ⟨o, r⟩
    · exact .inl (ne b _ r fun _ _ _ z => nomatch z)
    · exact .inr ⟨o, ne b _ r fun _ _ _ z => nomatch z⟩
  · rcases r.1 with r | ⟨o, r⟩
    · exact .inl (ne b _ r fun _ _ _ z => nomatch z)
    · exact .inr ⟨o, ne b _ r fun _ _ _ z => nomatch z⟩
  · show upd W.H a _ b = _
    rw [upd_ne fun z => hf (by rw [← z]; exact r')]
    exact r
/-- the instance with the value in its field -/
theorem R_put {a dx : Addr} {c x : Str} {ns : List Str} {ds : List D} {vs : List V} {F' Gy : List Addr} {dy : D} {y : V} (hH : W.H a = some (.ins (He.ga K c) dx (ns.zip vs))) (hn : ns.length = ds.length) (hR : RL K W ds vs F') (ry : R K W dy y Gy)
    (nd : (Gy ++ (a :: F')).Nodup) (hf : ¬ W.Fr a) : ∃ F'', R K ⟨upd W.H a (.ins (He.ga K c) dx (putF x y (ns.zip vs))), W.Fr, W.m⟩ (putD x dy c ns ds) (.ref a) F'' ∧ F''.Nodup ∧ ∀ b ∈ F'', b ∈ Gy ++ (a :: F') := by
  have lt : Lt W ⟨upd W.H a (.ins (He.ga K c) dx (putF x y (ns.zip vs))), W.Fr, W.m⟩ := Lt.upd_ins hH hf
  have nd1 := List.nodup_append.mp nd
  have nd2 := List.nodup_cons.mp nd1.2.1
  have lv := RL_len hR
  have off : ∀ b, b ≠ a → (⟨upd W.H a (.ins (He.ga K c) dx (putF x y (ns.zip vs))), W.Fr, W.m⟩ : Wd).H b = W.H b := fun b hb => upd_ne hb
  have offF : ∀ b ∈ F', b ≠ a := fun b hb z => nd2.1 (z ▸ hb)
  have offG : ∀ b ∈ Gy, b ≠ a := fun b hb z => nd1.2.2 b hb a (List.mem_cons_self ..) z
  have ry' : R K ⟨upd W.H a (.ins (He.ga K c) dx (putF x y (ns.zip vs))), W.Fr, W.m⟩ dy y Gy := R_keep lt dy (fun b hb => off b (offG b hb)) ry
  unfold putD
  cases e : fidx x ns with
  | some i =>
    have hi : i < ds.length := by
      rw [← hn]
      exact fidx_lt e
    obtain ⟨v, A, B, C, q1, q2, q3, q4⟩ := RL_lens (j := i) (d := ds[i]) hR (List.getElem?_eq_getElem hi)
    subst q2
    have rr := q4 _ dy y Gy lt (fun b hb => off b (offF b (by
      rcases List.mem_append.mp hb with z | z
      · exact List.mem_append_left _ z
      · exact List.mem_append_right _ (List.mem_append_right _ z)))) ry'
    refine ⟨a :: (A ++ (Gy ++ C)), ⟨a, dx, vs.set i y, _, rfl, ?_, by rw [List.length_set]; exact hn, rr, rfl⟩, ?_, fun b hb => ?_⟩
    · show upd W.H a _ a = _
      rw [upd_same, putF_set e (by rw [hn, lv])]
    · have pm : (Gy ++ (a :: (A ++ C))).Perm (a :: (A ++ (Gy ++ C))) := List.perm_middle.trans ((List.perm_append_comm_assoc Gy A C).cons a)
      have sub : (Gy ++ (a :: (A ++ C))).Sublist (Gy ++ (a :: (A ++ (B ++ C)))) := List.Sublist.append (List.Sublist.refl Gy) ((List.Sublist.append (List.Sublist.refl A) (List.sublist_append_right B C)).cons₂ a)
      exact nodup_of_perm pm.symm (nd.sublist sub)
    · rcases List.mem_cons.mp hb with z | z
      · rw [z]
        exact List.mem_append_right _ (List.mem_cons_self ..)
      · rcases List.mem_append.mp z with z | z
        · exact List.mem_append_right _ (List.mem_cons_of_mem _ (List.mem_append_left _ z))
        · rcases List.mem_append.mp z with z | z
          · exact List.mem_append_left _ z
          · exact List.mem_append_right _ (List.mem_cons_of_mem _ (List.mem_append_right _ (List.mem_append_right _ z)))
  | none =>
    have rr : RL K ⟨upd W.H a (.ins (He.ga K c) dx (putF x y (ns.zip vs))), W.Fr, W.m⟩ (ds ++ [dy]) (vs ++ [y]) (F' ++ Gy) := RL_app (RL_keep lt ds (fun b hb => off b (offF b hb)) hR) ⟨y, [], Gy, [], rfl, ry', ⟨rfl, rfl⟩, (List.append_nil Gy).symm⟩
    refine ⟨a :: (F' ++ Gy), ⟨a, dx, vs ++ [y], _, rfl, ?_, by rw [List.length_append, List.length_append, hn]; rfl, rr, rfl⟩, ?_, fun b hb => ?_⟩
    · show upd W.H a _ a = _
      rw [upd_same, putF_new e (by rw [hn, lv])]
    · have pm : (Gy ++ (a :: F')).Perm (a :: (F' ++ Gy)) := List.perm_middle.trans (List.perm_append_comm.cons a)
      exact nodup_of_perm pm.symm nd
    · rcases List.mem_cons.mp hb with z | z
      · rw [z]
        exact List.mem_append_right _ (List.mem_cons_self ..)
      · rcases List.mem_append.mp z with z | z
        · exact List.mem_append_right _ (List.mem_cons_of_mem _ z)
        · exact List.mem_append_left _ z
end
end Fw
/-! # PX: expressions that change something, or raise -/
namespace Fw
open PySem PySem.Spec PyProof.Rows L2
open Evl (Ex)
inductive EO where
  | ok (d : D) (ρ μ : List D) | ex (c : Str) (fs : List (Str × D)) (ρ μ : List D)
abbrev FX := List D → List D → Option EO
def GoesE (K : PySem.W.Frag) (Wx : WX) (Q : VK) (σ : L2.St) (W : Wd) (F : List Addr) : EO → Prop
  | .ok d ρ' μ' => ∀ v W' G F', R K W' d v G → Sta K W' σ ρ' μ' F' → (G ++ F').Nodup → (∀ a ∈ G, Own W' a) → Mv W W' F (G ++ F') → Q v W'.H
  | .ex c fs ρ' μ' => ∀ dx W' F', ExAt K W' fs dx → Sta K W' σ ρ' μ' F' → Mv W W' F F' → Wx (.ref (He.ga K c)) dx σ W'.H
def PXr (X : Cx) (Wx : WX) (te : TE) (g : FX) : Prop := ∀ (σ : L2.St) (W : Wd) (ρ μ : List D) (F : List Addr), Sta X.K W σ ρ μ F → ∀ o, g ρ μ = some o → ∀ Q : VK, GoesE X.K Wx Q σ W F o → te σ W.H Q
def PX (X : Cx) (Wx : WX) (e : Expr) (g : FX) : Prop := ∃ te : TE, PE X e te ∧ PXr X Wx te g
def GoesT (K : PySem.W.Frag) (Wx : WX) (Q : Bool → Hp → Prop) (σ : L2.St) (W : Wd) (F : List Addr) : EO → Prop
  | .ok d ρ' μ' => match d with
    | .bl b => ∀ W' F', Sta K W' σ ρ' μ' F' → Mv W W' F F' → Q b W'.H
    | _ => False
  | .ex c fs ρ' μ' => ∀ dx W' F', ExAt K W' fs dx → Sta K W' σ ρ' μ' F' → Mv W W' F F' → Wx (.ref (He.ga K c)) dx σ W'.H
def PTr (X : Cx) (Wx : WX) (tt : TT) (g : FX) : Prop := ∀ (σ : L2.St) (W : Wd) (ρ μ : List D) (F : List Addr), Sta X.K W σ ρ μ F → ∀ o, g ρ μ = some o → ∀ Q : Bool → Hp → Prop, GoesT X.K Wx Q σ W F o → tt σ W.H Q
def PTX (X : Cx) (Wx : WX) (e : Expr) (g : FX) : Prop := ∃ tt : TT, PT X e tt ∧ PTr X Wx tt g
def PWX (X : Cx) (Wx : WX) (e : Expr) (g : FX) : Prop := ∃ tt : TT, PW X e tt ∧ PTr X Wx tt g
theorem GoesE.after {K : PySem.W.Frag} {Wx : WX} {Q : VK} {σ : L2.St} {W W1 : Wd} {F F1 : List Addr} {o : EO} (h : GoesE K Wx Q σ W F o) (m : Mv W W1 F F1) : GoesE K Wx Q σ W1 F1 o := by
  cases o with
  | ok d ρ' μ' => exact fun v W' G F' r S nd own mv => h v W' G F' r S nd own (m.trans mv)
  | ex c fs ρ' μ' => exact fun dx W' F' r S mv => h dx W' F' r S (m.trans mv)
theorem GoesT.after {K : PySem.W.Frag} {Wx : WX} {Q : Bool → Hp → Prop} {σ : L2.St} {W W1 : Wd} {F F1 : List Addr} {o : EO} (h : GoesT K Wx Q σ W F o) (m : Mv W W1 F F1) : GoesT K Wx Q σ W1 F1 o := by
  cases o with
  | ok d ρ' μ' => cases d <;> first
    | exact h
    | exact fun W' F' S mv => h W' F' S (m.trans mv)
  | ex c fs ρ' μ' => exact fun dx W' F' r S mv => h dx W' F' r S (m.trans mv)
theorem GoesE.ex_of {K : PySem.W.Frag} {Wx : WX} {Q Q' : VK} {σ : L2.St} {W : Wd} {F : List Addr} {c : Str} {fs : List (Str × D)} {ρ μ : List D} (h : GoesE K Wx Q σ W F (.ex c fs ρ μ)) : GoesE K Wx Q' σ W F (.ex c fs ρ μ) := h
/-! ### values with no place of their own -/
def fl : D → Bool
  | .ref _ => true
  | d => data d
theorem R_fl {K : PySem.W.Frag} {W : Wd} {d : D} {v : V} {F : List Addr} (h : fl d = true) (r : R K W d v F) : F = [] := by
  cases d with
  | ref k =>
    obtain ⟨a, _, _, e⟩ := r
    exact e
  | _ => exact R_data _ h r
theorem R_mv {K : PySem.W.Frag} {W W' : Wd} {d : D} {v : V} {σ : L2.St} {ρ μ : List D} {F F' : List Addr} (S : Sta K W σ ρ μ F) (m : Mv W W' F F') (r : R K W d v []) : R K W' d v [] := R_lt (m.lt S.own) d r
theorem RL_mv {K : PySem.W.Frag} {W W' : Wd} {ds : List D} {vs : List V} {σ : L2.St} {ρ μ : List D} {F F' : List Addr} (S : Sta K W σ ρ μ F) (m : Mv W W' F F') (r : RL K W ds vs []) : RL K W' ds vs [] := RL_lt (m.lt S.own) ds r
def xB (f : FX) (k : D → FX) : FX := fun ρ μ => (f ρ μ).bind fun o => match o with
  | .ok d ρ' μ' => if fl d = true then k d ρ' μ' else none
  | .ex c fs ρ' μ' => some (.ex c fs ρ' μ')
section
variable {X : Cx} {Wx : WX} {e a b c : Expr} {es : List Expr} {f g : FX} {pos : Pos} {ok : OkT}
theorem run_bind {te : TE} {k : D → FX} (h1 : PXr X Wx te f) {σ : L2.St} {W : Wd} {ρ μ : List D} {F : List Addr} (S : Sta X.K W σ ρ μ F) {o : EO} (ho : xB f k ρ μ = some o) {Q : VK} (hx : ∀ c fs ρ' μ', o = .ex c fs ρ' μ' → GoesE X.K Wx Q σ W F (.ex c fs ρ' μ'))
    (hk : ∀ d v W1 ρ1 μ1 F1, fl d = true → R X.K W1 d v [] → Sta X.K W1 σ ρ1 μ1 F1 → Mv W W1 F F1 → k d ρ1 μ1 = some o → Q v W1.H) : te σ W.H Q := by
  obtain ⟨o1, e1, ho⟩ := bind_some ho
  refine h1 σ W ρ μ F S o1 e1 Q ?_
  cases o1 with
  | ok d ρ1 μ1 =>
    by_cases hd : fl d = true
    case neg =>
      have ho2 : (if fl d = true then k d ρ1 μ1 else none) = some o := ho
      rw [if_neg hd] at ho2
      cases ho2
    have ho2 : (if fl d = true then k d ρ1 μ1 else none) = some o := ho
    rw [if_pos hd] at ho2
    intro v W' G F' r S' nd own mv
    have z := R_fl hd r
    subst z
    exact hk d v W' ρ1 μ1 F' hd r S' mv ho2
  | ex c fs ρ' μ' =>
    cases ho
    exact hx _ _ _ _ rfl
/-- what is quiet -/
def xQ (q : FQ) : FX := fun ρ μ => (q ρ μ).bind fun d => if fl d = true then some (.ok d ρ μ) else none
theorem px_q {q : FQ} (h : PQ X e q) : PX X Wx e (xQ q) := by
  obtain ⟨te, p, k⟩ := h
  refine ⟨te, p, fun σ W ρ μ F S o ho Q hQ => ?_⟩
  obtain ⟨d, e1, ho⟩ := bind_some ho
  by_cases hd : fl d = true
  case neg => rw [if_neg hd] at ho; cases ho
  rw [if_pos hd] at ho
  cases ho
  refine k σ W ρ μ F S d e1 Q fun v W' G x r => ?_
  have z := R_fl hd r
  subst z
  exact hQ v W' [] F r (S.ext x) S.nd (fun _ hb => nomatch hb) x.mvr
/-- a new list -/
def xN (k : FA) : FX := fun ρ μ => (k ρ μ).map fun ds => .ok (.ml ds) ρ μ
theorem px_n {k : FA} (h : PN X e k) : PX X Wx e (xN k) := by
  obtain ⟨te, p, k1⟩ := h
  refine ⟨te, p, fun σ W ρ μ F S o ho Q hQ => ?_⟩
  obtain ⟨ds, e1, z⟩ := map_some ho
  subst z
  refine k1 σ W ρ μ F S ds e1 Q fun p W' n => ?_
  obtain ⟨x, new, nofr, vs, h1, h2⟩ := n
  have pF : p ∉ F := fun z => by
    obtain ⟨_, w⟩ := S.own p z
    rcases w with ⟨xs, w⟩ | ⟨C, dx, fs, w⟩ <;> rw [new] at w <;> cases w
  exact hQ (.ref p) W' [p] F ⟨p, vs, [], rfl, h1, h2, rfl⟩ (S.ext x) (List.nodup_cons.mpr ⟨pF, S.nd⟩) (fun b hb => by
    obtain rfl := List.mem_singleton.mp hb
    exact ⟨nofr, .inl ⟨vs, h1⟩⟩) ⟨fun b o h _ => x.ex b o h, x.fr, fun b h => (x.nf b h).elim .inl fun z => .inr (.inl z), fun b hb => (List.mem_cons.mp hb).elim (fun z => .inr (z ▸ new)) .inl, ⟨[], by rw [x.m, List.append_nil]⟩⟩
/-- what a slot has, handed over -/
def xMove (i : Nat) : FX := fun ρ μ => (ρ[i]?).bind fun d => if isUn d = true then none else some (.ok d (ρ.set i .un) μ)
theorem px_move (i : Nat) {x : Str} (hp : PE X (.Name x pos) (tVar i)) : PX X Wx (.Name x pos) (xMove i) := by
  refine ⟨_, hp, fun σ W ρ μ F S o ho Q hQ => ?_⟩
  obtain ⟨d, e1, ho⟩ := bind_some ho
  by_cases hd : isUn d = true
  case pos => rw [if_pos hd] at ho; cases ho
  rw [if_neg hd] at ho
  cases ho
  obtain ⟨v, F', hv, S', pm⟩ := sta_out S e1 (isUn_ne (Bool.eq_false_iff.mpr hd))
  obtain ⟨G, F2, r, S2, e2⟩ := sta_tail S'
  rw [R1_iff] at r
  rcases r with ⟨z, _⟩ | ⟨v', ev, r⟩
  · exact absurd z (isUn_ne (Bool.eq_false_iff.mpr hd))
  injection ev with ev
  subst ev
  subst e2
  exact ⟨v, hv, hQ v W G F2 r S2 S'.nd (fun b hb => S'.own b (List.mem_append_left _ hb)) (((Ext.refl S.ok).mvr (F := F)).sub (fun _ h => h) fun b hb => pm.mem_iff.mp hb)⟩
/-! ### operators -/
def xOp (o : D → D → Option D) (f g : FX) : FX := xB f fun x => xB g fun y => fun ρ μ => (o x y).bind fun d => if data d = true then some (.ok d ρ μ) else none
theorem runX2 {ta tb : TE} {r : R2} {o : D → D → Option D} (h1 : PXr X Wx ta f) (h2 : PXr X Wx tb g)
    (h3 : ∀ (W : Wd) (x y : D) (u v : V) (G1 G2 : List Addr), WOk W → R X.K W x u G1 → R X.K W y v G2 → ∀ d, o x y = some d → ∀ Q : VK, (∀ v W' G, Ext W W' → R X.K W' d v G → Q v W'.H) → r u v W.H Q) : PXr X Wx (tOp r ta tb) (xOp o f g) := by
  intro σ W ρ μ F S o1 ho Q hQ
  refine run_bind h1 S ho (fun c fs ρ' μ' z => by subst z; exact hQ) fun x u W1 ρ1 μ1 F1 hx rx S1 m1 ho1 => ?_
  refine run_bind h2 S1 ho1 (fun c fs ρ' μ' z => by subst z; exact hQ.after m1) fun y v W2 ρ2 μ2 F2 hy ry S2 m2 ho2 => ?_
  obtain ⟨d, e1, ho2⟩ := bind_some ho2
  by_cases hd : data d = true
  case neg => rw [if_neg hd] at ho2; cases ho2
  rw [if_pos hd] at ho2
  cases ho2
  refine h3 W2 x y u v [] [] S2.ok (R_mv S1 m2 rx) ry d e1 Q fun z W3 G3 x3 r3 => ?_
  have e := R_data d hd r3
  subst e
  exact hQ z W3 [] F2 r3 (S2.ext x3) S2.nd (fun _ hb => nomatch hb) ((m1.trans m2).trans x3.mvr)
theorem px_op {op : Operator} {o : D → D → Option D} (h : OpD X (binaryOp op) o) (ha : PX X Wx a f) (hb : PX X Wx b g) : PX X Wx (.BinOp a op b pos) (xOp o f g) := by
  obtain ⟨r, hr, h3⟩ := h
  obtain ⟨ta, pa, h1⟩ := ha
  obtain ⟨tb, pb, h2⟩ := hb
  exact ⟨_, pe_op hr pa pb, runX2 h1 h2 h3⟩
theorem px_cmp {op : CmpOp} {o : D → D → Option D} (h : OpD X (compareOp op) o) (ha : PX X Wx a f) (hb : PX X Wx b g) (hm : behindInMarks op b = false) : PX X Wx (.Compare a [op] [b] pos) (xOp o f g) := by
  obtain ⟨r, hr, h3⟩ := h
  obtain ⟨ta, pa, h1⟩ := ha
  obtain ⟨tb, pb, h2⟩ := hb
  exact ⟨_, pe_cmpR hr pa pb hm, runX2 h1 h2 h3⟩
theorem px_ix (ha : PX X Wx a f) (hb : PX X Wx b g) (hs : PlainIx b := by exact fun _ _ => rfl) : PX X Wx (.Subscript a b pos) (xOp dIx f g) := by
  obtain ⟨r, hr, h3⟩ := (ixd_all (X := X))
  obtain ⟨ta, pa, h1⟩ := ha
  obtain ⟨tb, pb, h2⟩ := hb
  exact ⟨_, pe_ix hr pa pb hs, runX2 h1 h2 h3⟩
/-! ### tests -/
theorem GoesT.toE {K : PySem.W.Frag} {Q : Bool → Hp → Prop} {σ : L2.St} {W : Wd} {F : List Addr} {o : EO} (h : GoesT K Wx Q σ W F o) : GoesE K Wx (fun v H1 => ∃ b, v = .bl b ∧ Q b H1) σ W F o := by
  cases o with
  | ok d ρ' μ' =>
    cases d with
    | bl b =>
      intro v W' G F' r S nd own mv
      obtain ⟨rfl, rfl⟩ := r
      exact ⟨b, rfl, h W' F' S mv⟩
    | _ => exact h.elim
  | ex c fs ρ' μ' => exact h
theorem ptx_val (ha : PX X Wx a f) (he : ∀ whole, isTrue a X.env whole = (do let v ← whole; standAt a.pos; holding [v] (truthy v)) := by intro _; rfl) : PTX X Wx a f := by
  obtain ⟨ta, pa, h1⟩ := ha
  exact ⟨_, pt_val pa he, fun σ W ρ μ F S o ho Q hQ => h1 σ W ρ μ F S o ho _ hQ.toE⟩
theorem ptx_cmp {op : CmpOp} {o : D → D → Option D} (h : OpD X (compareOp op) o) (ha : PX X Wx a f) (hb : PX X Wx b g) (hm : behindInMarks op b = false) : PTX X Wx (.Compare a [op] [b] pos) (xOp o f g) := by
  obtain ⟨r, hr, h3⟩ := h
  obtain ⟨ta, pa, h1⟩ := ha
  obtain ⟨tb, pb, h2⟩ := hb
  exact ⟨_, pt_cmpR hr pa pb hm, fun σ W ρ μ F S o ho Q hQ => runX2 h1 h2 h3 σ W ρ μ F S o ho _ hQ.toE⟩
theorem ptx_q {t : FB} (h : PB X a t) : PTX X Wx a (fun ρ μ => (t ρ μ).map fun b => .ok (.bl b) ρ μ) := by
  obtain ⟨tt, p, k⟩ := h
  refine ⟨tt, p, fun σ W ρ μ F S o ho Q hQ => ?_⟩
  obtain ⟨b, e1, z⟩ := map_some ho
  subst z
  exact k σ W ρ μ F S b e1 Q fun W' x => hQ W' F (S.ext x) x.mvr
/-- by a truth -/
def xT (f : FX) (k : Bool → FX) : FX := fun ρ μ => (f ρ μ).bind fun o => match o with
  | .ok d ρ' μ' => (match d with
    | .bl b => k b ρ' μ'
    | _ => none)
  | .ex c fs ρ' μ' => some (.ex c fs ρ' μ')
theorem runT_bind {tt : TT} {k : Bool → FX} (h1 : PTr X Wx tt f) {σ : L2.St} {W : Wd} {ρ μ : List D} {F : List Addr} (S : Sta X.K W σ ρ μ F) {o : EO} (ho : xT f k ρ μ = some o) {Q : Bool → Hp → Prop} {Q' : VK} (hx : ∀ c fs ρ' μ', o = .ex c fs ρ' μ' → GoesE X.K Wx Q' σ W F (.ex c fs ρ' μ'))
    (hk : ∀ b W1 ρ1 μ1 F1, Sta X.K W1 σ ρ1 μ1 F1 → Mv W W1 F F1 → k b ρ1 μ1 = some o → Q b W1.H) : tt σ W.H Q := by
  obtain ⟨o1, e1, ho⟩ := bind_some ho
  refine h1 σ W ρ μ F S o1 e1 Q ?_
  cases o1 with
  | ok d ρ1 μ1 =>
    cases d with
    | bl b => exact fun W' F' S' mv => hk b W' ρ1 μ1 F' S' mv ho
    | _ => cases ho
  | ex c fs ρ' μ' =>
    cases ho
    exact hx _ _ _ _ rfl
def xNot (f : FX) : FX := xT f fun b ρ μ => some (.ok (.bl (!b)) ρ μ)
def xAnd (f g : FX) : FX := xT f fun b ρ μ => if b = true then g ρ μ else some (.ok (.bl false) ρ μ)
def xOr (f g : FX) : FX := xT f fun b ρ μ => if b = true then some (.ok (.bl true) ρ μ) else g ρ μ
theorem PWX.pt (h : PWX X Wx e f) : PTX X Wx e f := by
  obtain ⟨tt, p, k⟩ := h
  exact ⟨tt, p.pt, k⟩
theorem ptx_not (ha : PTX X Wx a f) : PTX X Wx (.UnaryOp .Not a pos) (xNot f) := by
  obtain ⟨tt, p, k⟩ := ha
  refine ⟨_, pt_not p, fun σ W ρ μ F S o ho Q hQ => ?_⟩
  refine runT_bind (Q' := fun _ _ => False) k S ho (fun c fs ρ' μ' z => by subst z; exact hQ) fun b W1 ρ1 μ1 F1 S1 m1 ho1 => ?_
  cases ho1
  exact hQ W1 F1 S1 m1
theorem pwx_and1 (h : PTX X Wx a f) : PWX X Wx (.BoolOp .And [a] pos) f := by
  obtain ⟨tt, p, k⟩ := h
  exact ⟨tt, pw_and1 p, k⟩
theorem pwx_or1 (h : PTX X Wx a f) : PWX X Wx (.BoolOp .Or [a] pos) f := by
  obtain ⟨tt, p, k⟩ := h
  exact ⟨tt, pw_or1 p, k⟩
theorem pwx_and (ha : PTX X Wx a f) (hb : PWX X Wx (.BoolOp .And (b :: es) pos) g) : PWX X Wx (.BoolOp .And (a :: b :: es) pos) (xAnd f g) := by
  obtain ⟨t1, p1, k1⟩ := ha
  obtain ⟨t2, p2, k2⟩ := hb
  refine ⟨_, pw_and p1 p2, fun σ W ρ μ F S o ho Q hQ => ?_⟩
  refine runT_bind (Q' := fun _ _ => False) k1 S ho (fun c fs ρ' μ' z => by subst z; exact hQ) fun x W1 ρ1 μ1 F1 S1 m1 ho1 => ?_
  cases x with
  | true =>
    rw [if_pos rfl] at ho1 ⊢
    exact k2 σ W1 ρ1 μ1 F1 S1 o ho1 Q (hQ.after m1)
  | false =>
    rw [if_neg Bool.false_ne_true] at ho1 ⊢
    cases ho1
    exact hQ W1 F1 S1 m1
theorem pwx_or (ha : PTX X Wx a f) (hb : PWX X Wx (.BoolOp .Or (b :: es) pos) g) : PWX X Wx (.BoolOp .Or (a :: b :: es) pos) (xOr f g) := by
  obtain ⟨t1, p1, k1⟩ := ha
  obtain ⟨t2, p2, k2⟩ := hb
  refine ⟨_, pw_or p1 p2, fun σ W ρ μ F S o ho Q hQ => ?_⟩
  refine runT_bind (Q' := fun _ _ => False) k1 S ho (fun c fs ρ' μ' z => by subst z; exact hQ) fun x W1 ρ1 μ1 F1 S1 m1 ho1 => ?_
  cases x with
  | true =>
    rw [if_pos rfl] at ho1 ⊢
    cases ho1
    exact hQ W1 F1 S1 m1
  | false =>
    rw [if_neg Bool.false_ne_true] at ho1 ⊢
    exact k2 σ W1 ρ1 μ1 F1 S1 o ho1 Q (hQ.after m1)
/-! ### as values -/
theorem runE_bind {te : TE} {k : Bool → FX} (h1 : PXr X Wx te f) {σ : L2.St} {W : Wd} {ρ μ : List D} {F : List Addr} (S : Sta X.K W σ ρ μ F) {o : EO} (ho : xT f k ρ μ = some o) {Q : VK} {Q' : VK} (hx : ∀ c fs ρ' μ', o = .ex c fs ρ' μ' → GoesE X.K Wx Q' σ W F (.ex c fs ρ' μ'))
    (hk : ∀ b W1 ρ1 μ1 F1, Sta X.K W1 σ ρ1 μ1 F1 → Mv W W1 F F1 → k b ρ1 μ1 = some o → Q (.bl b) W1.H) : te σ W.H Q := by
  obtain ⟨o1, e1, ho⟩ := bind_some ho
  refine h1 σ W ρ μ F S o1 e1 Q ?_
  cases o1 with
  | ok d ρ1 μ1 =>
    cases d with
    | bl b =>
      intro v W' G F' r S' nd own mv
      obtain ⟨rfl, rfl⟩ := r
      exact hk b W' ρ1 μ1 F' S' mv ho
    | _ => cases ho
  | ex c fs ρ' μ' =>
    cases ho
    exact hx _ _ _ _ rfl
theorem px_not (ha : PX X Wx a f) : PX X Wx (.UnaryOp .Not a pos) (xNot f) := by
  obtain ⟨tt, p, k⟩ := ha
  refine ⟨_, pe_not p, fun σ W ρ μ F S o ho Q hQ => ?_⟩
  refine runE_bind (Q' := fun _ _ => False) k S ho (fun c fs ρ' μ' z => by subst z; exact hQ) fun b W1 ρ1 μ1 F1 S1 m1 ho1 => ?_
  cases ho1
  exact ⟨b, rfl, hQ _ W1 [] F1 ⟨rfl, rfl⟩ S1 S1.nd (fun _ hb => nomatch hb) m1⟩
theorem px_one {op} (h : PX X Wx a f) : PX X Wx (.BoolOp op [a] pos) f := by
  obtain ⟨t, p, k⟩ := h
  exact ⟨t, pe_one p, k⟩
theorem px_and (ha : PX X Wx a f) (hb : PX X Wx (.BoolOp .And (b :: es) pos) g) : PX X Wx (.BoolOp .And (a :: b :: es) pos) (xAnd f g) := by
  obtain ⟨t1, p1, k1⟩ := ha
  obtain ⟨t2, p2, k2⟩ := hb
  refine ⟨_, pe_and p1 p2, fun σ W ρ μ F S o ho Q hQ => ?_⟩
  refine runE_bind (Q' := fun _ _ => False) k1 S ho (fun c fs ρ' μ' z => by subst z; exact hQ) fun x W1 ρ1 μ1 F1 S1 m1 ho1 => ?_
  refine ⟨x, rfl, ?_⟩
  cases x with
  | true =>
    rw [if_pos rfl] at ho1 ⊢
    exact k2 σ W1 ρ1 μ1 F1 S1 o ho1 Q (hQ.after m1)
  | false =>
    rw [if_neg Bool.false_ne_true] at ho1 ⊢
    cases ho1
    exact hQ _ W1 [] F1 ⟨rfl, rfl⟩ S1 S1.nd (fun _ hb => nomatch hb) m1
theorem px_or (ha : PX X Wx a f) (hb : PX X Wx (.BoolOp .Or (b :: es) pos) g) : PX X Wx (.BoolOp .Or (a :: b :: es) pos) (xOr f g) := by
  obtain ⟨t1, p1, k1⟩ := ha
  obtain ⟨t2, p2, k2⟩ := hb
  refine ⟨_, pe_or p1 p2, fun σ W ρ μ F S o ho Q hQ => ?_⟩
  refine runE_bind (Q' := fun _ _ => False) k1 S ho (fun c fs ρ' μ' z => by subst z; exact hQ) fun x W1 ρ1 μ1 F1 S1 m1 ho1 => ?_
  refine ⟨x, rfl, ?_⟩
  cases x with
  | true =>
    rw [if_pos rfl] at ho1 ⊢
    cases ho1
    exact hQ _ W1 [] F1 ⟨rfl, rfl⟩ S1 S1.nd (fun _ hb => nomatch hb) m1
  | false =>
    rw [if_neg Bool.false_ne_true] at ho1 ⊢
    exact k2 σ W1 ρ1 μ1 F1 S1 o ho1 Q (hQ.after m1)
/-! ### fields, read -/
def dFo (ok : OkT) (x : Str) : D → Option D
  | .obj c ns ds => if ok c x = true then (fidx x ns).bind fun i => ds[i]? else none
  | .fo c ns ds => if ok c x = true then (fidx x ns).bind fun i => ds[i]? else none
  | _ => none
def dFld (ok : OkT) (x : Str) (μ : List D) : D → Option D
  | .ref k => (μ[k]?).bind (dFo ok x)
  | d => dFo ok x d
def qFld (ok : OkT) (x : Str) (f : FQ) : FQ := fun ρ μ => (f ρ μ).bind (dFld ok x μ)
theorem RL_map_get {K : PySem.W.Frag} {W : Wd} {μ : List D} {m : List Addr} {F : List Addr} {k : Nat} {d : D} (r : RL K W μ (m.map V.ref) F) (h : μ[k]? = some d) : ∃ a G, m[k]? = some a ∧ R K W d (.ref a) G ∧ ∀ b ∈ G, b ∈ F := by
  obtain ⟨v, G, h1, h2, h3⟩ := RL_get r h
  rw [List.getElem?_map] at h1
  obtain ⟨a, h4, rfl⟩ := map_some h1
  exact ⟨a, G, h4, h2, h3⟩
theorem pq_fld {q : FQ} {x : Str} (T : CE X.K ok) (h : PQ X e q) (hb : attributeBase e x X.env (eval e X.env) = eval e X.env := by rfl) : PQ X (.Attribute e x pos) (qFld ok x q) := by
  obtain ⟨te, p, k⟩ := h
  refine ⟨_, pe_fld p hb, fun σ W ρ μ F S d hd Q hQ => ?_⟩
  obtain ⟨t, e1, hd⟩ := bind_some hd
  refine k σ W ρ μ F S t e1 _ fun u W1 G x1 r1 => ?_
  have S1 := S.ext x1
  have main : ∀ (t : D) (G : List Addr) (u : V), R X.K W1 t u G → dFo ok x t = some d →
      ∃ a C dx fs v, u = .ref a ∧ W1.H a = some (.ins C dx fs) ∧ Cls X.K C ∧ NoAttr X.K C x ∧ fs.lookup x = some v ∧ Q v W1.H := by
    intro t G u r he
    cases t with
    | obj c ns ds =>
      have he2 : (if ok c x = true then (fidx x ns).bind fun i => ds[i]? else none) = some d := he
      by_cases hk : ok c x = true
      case neg => rw [if_neg hk] at he2; cases he2
      rw [if_pos hk] at he2
      obtain ⟨i, h1, h2⟩ := bind_some he2
      obtain ⟨a, dx, vs, F', rfl, hH, hn, hR, rfl⟩ := r
      obtain ⟨v, G1, q1, q2, _⟩ := RL_get hR h2
      obtain ⟨cl, na⟩ := T c x hk
      exact ⟨a, _, dx, _, v, rfl, hH, cl, na, by rw [fidx_lookup h1 (by rw [hn, RL_len hR])]; exact q1, hQ v W1 G1 x1 q2⟩
    | fo c ns ds =>
      have he2 : (if ok c x = true then (fidx x ns).bind fun i => ds[i]? else none) = some d := he
      by_cases hk : ok c x = true
      case neg => rw [if_neg hk] at he2; cases he2
      rw [if_pos hk] at he2
      obtain ⟨i, h1, h2⟩ := bind_some he2
      obtain ⟨a, dx, vs, rfl, hH, _, hn, hR, rfl⟩ := r
      obtain ⟨v, G1, q1, q2, _⟩ := RL_get hR h2
      obtain ⟨cl, na⟩ := T c x hk
      exact ⟨a, _, dx, _, v, rfl, hH, cl, na, by rw [fidx_lookup h1 (by rw [hn, RL_len hR])]; exact q1, hQ v W1 G1 x1 q2⟩
    | _ => cases he
  cases t with
  | ref j =>
    obtain ⟨t2, e2, hd2⟩ := bind_some (show (μ[j]?).bind (dFo ok x) = some d from hd)
    obtain ⟨a, rfl, h3, _⟩ := r1
    obtain ⟨F1, F2, _, h4, _⟩ := S1.ex
    obtain ⟨a', G', h5, h6, _⟩ := RL_map_get h4 e2
    rw [h3] at h5
    cases h5
    exact main t2 G' _ h6 hd2
  | _ => exact main _ _ _ r1 hd
end
end Fw
/-! # arguments; defs and methods that change something -/
namespace Fw
open PySem PySem.Spec PyProof.Rows L2
open Evl (Ex)
/-- an argument: a value with no place of its own, or what a slot has, lent -/
inductive AV where
  | val (d : D) | slot (j : Nat)
inductive AO where
  | ok (as : List AV) (ρ μ : List D) | ex (c : Str) (fs : List (Str × D)) (ρ μ : List D)
abbrev FXA := List D → List D → Option AO
def AVs (K : PySem.W.Frag) (W : Wd) (σ : L2.St) : List AV → List V → Prop
  | [], vs => vs = []
  | .val d :: as, vs => ∃ v vs', vs = v :: vs' ∧ R K W d v [] ∧ AVs K W σ as vs'
  | .slot j :: as, vs => ∃ v vs', vs = v :: vs' ∧ σ[j]? = some (some v) ∧ AVs K W σ as vs'
theorem AVs.lt {K : PySem.W.Frag} {W W' : Wd} {σ : L2.St} (e : Lt W W') : ∀ {as : List AV} {vs : List V}, AVs K W σ as vs → AVs K W' σ as vs
  | [], _, h => h
  | .val d :: as, _, h => by
    obtain ⟨v, vs', h1, h2, h3⟩ := h
    exact ⟨v, vs', h1, R_lt e d h2, AVs.lt e h3⟩
  | .slot j :: as, _, h => by
    obtain ⟨v, vs', h1, h2, h3⟩ := h
    exact ⟨v, vs', h1, h2, AVs.lt e h3⟩
def avals : List AV → Option (List D)
  | [] => some []
  | .val d :: as => (avals as).map fun ds => d :: ds
  | .slot _ :: _ => none
theorem AVs.vals {K : PySem.W.Frag} {W : Wd} {σ : L2.St} : ∀ {as : List AV} {vs : List V} {ds : List D}, AVs K W σ as vs → avals as = some ds → RL K W ds vs []
  | [], _, _, h, e => by
    cases e
    exact ⟨h, rfl⟩
  | .val d :: as, _, _, h, e => by
    obtain ⟨v, vs', h1, h2, h3⟩ := h
    obtain ⟨ds, e1, rfl⟩ := map_some e
    exact ⟨v, vs', [], [], h1, h2, AVs.vals h3 e1, rfl⟩
  | .slot j :: as, _, _, h, e => by cases e
def GoesA (K : PySem.W.Frag) (Wx : WX) (Q : List V → Hp → Prop) (σ : L2.St) (W : Wd) (F : List Addr) : AO → Prop
  | .ok as ρ' μ' => ∀ vs W' F', AVs K W' σ as vs → Sta K W' σ ρ' μ' F' → Mv W W' F F' → Q vs W'.H
  | .ex c fs ρ' μ' => ∀ dx W' F', ExAt K W' fs dx → Sta K W' σ ρ' μ' F' → Mv W W' F F' → Wx (.ref (He.ga K c)) dx σ W'.H
theorem GoesA.after {K : PySem.W.Frag} {Wx : WX} {Q : List V → Hp → Prop} {σ : L2.St} {W W1 : Wd} {F F1 : List Addr} {o : AO} (h : GoesA K Wx Q σ W F o) (m : Mv W W1 F F1) : GoesA K Wx Q σ W1 F1 o := by
  cases o with
  | ok as ρ' μ' => exact fun vs W' F' r S mv => h vs W' F' r S (m.trans mv)
  | ex c fs ρ' μ' => exact fun dx W' F' r S mv => h dx W' F' r S (m.trans mv)
def PAr (X : Cx) (Wx : WX) (ta : TA) (g : FXA) : Prop := ∀ (σ : L2.St) (W : Wd) (ρ μ : List D) (F : List Addr), Sta X.K W σ ρ μ F → ∀ o, g ρ μ = some o → ∀ Q : List V → Hp → Prop, GoesA X.K Wx Q σ W F o → ta σ W.H Q
def PAX (X : Cx) (Wx : WX) (es : List Expr) (g : FXA) : Prop := ∃ ta : TA, PA X es ta ∧ PAr X Wx ta g
def xaNil : FXA := fun ρ μ => some (.ok [] ρ μ)
def aoCons (a : AV) (o : Option AO) : Option AO := o.map fun o => match o with
  | .ok as ρ μ => .ok (a :: as) ρ μ
  | .ex c fs ρ μ => .ex c fs ρ μ
def xaCons (f : FX) (k : FXA) : FXA := fun ρ μ => (f ρ μ).bind fun o => match o with
  | .ok d ρ1 μ1 => if fl d = true then aoCons (.val d) (k ρ1 μ1) else none
  | .ex c fs ρ1 μ1 => some (.ex c fs ρ1 μ1)
def xaSlot (j : Nat) (k : FXA) : FXA := fun ρ μ => (ρ[j]?).bind fun d => if isUn d = true then none else aoCons (.slot j) (k ρ μ)
section
variable {X : Cx} {Wx : WX} {e a b c : Expr} {es : List Expr} {f g : FX} {pos : Pos} {ok : OkT} {k : FXA}
theorem pax_nil : PAX X Wx [] xaNil := ⟨_, pa_nil, fun σ W ρ μ F S o ho Q hQ => by
  cases ho
  exact hQ [] W F rfl S (Ext.refl S.ok).mvr⟩
theorem aoCons_run {ta : TA} (k2 : PAr X Wx ta k) {a : AV} {v : V} {σ : L2.St} {W : Wd} {ρ μ : List D} {F : List Addr} (S : Sta X.K W σ ρ μ F) {o : AO} (ho : aoCons a (k ρ μ) = some o) {Q : List V → Hp → Prop} (hQ : GoesA X.K Wx Q σ W F o)
    (hv : ∀ W' F', Mv W W' F F' → ∀ as vs, AVs X.K W' σ as vs → AVs X.K W' σ (a :: as) (v :: vs)) : ta σ W.H fun vs H2 => Q (v :: vs) H2 := by
  obtain ⟨o1, e1, z⟩ := map_some ho
  subst z
  refine k2 σ W ρ μ F S o1 e1 _ ?_
  cases o1 with
  | ok as ρ1 μ1 => exact fun vs W' F' r S' mv => hQ (v :: vs) W' F' (hv W' F' mv as vs r) S' mv
  | ex c fs ρ1 μ1 => exact hQ
theorem pax_cons (ha : PX X Wx e f) (hr : PAX X Wx es k) (hs : starEach (e :: es) X.env = (false, eval e X.env) :: starEach es X.env := by rfl) : PAX X Wx (e :: es) (xaCons f k) := by
  obtain ⟨t1, p1, k1⟩ := ha
  obtain ⟨t2, p2, k2⟩ := hr
  refine ⟨_, pa_cons p1 p2 hs, fun σ W ρ μ F S o ho Q hQ => ?_⟩
  obtain ⟨o1, e1, ho⟩ := bind_some ho
  refine k1 σ W ρ μ F S o1 e1 _ ?_
  cases o1 with
  | ok d ρ1 μ1 =>
    have ho2 : (if fl d = true then aoCons (.val d) (k ρ1 μ1) else none) = some o := ho
    by_cases hd : fl d = true
    case neg => rw [if_neg hd] at ho2; cases ho2
    rw [if_pos hd] at ho2
    intro v W1 G F1 r S1 nd own mv
    have z := R_fl hd r
    subst z
    exact aoCons_run k2 S1 ho2 (hQ.after mv) fun W' F' m' as vs ra => ⟨v, vs, rfl, R_mv S1 m' r, ra⟩
  | ex c fs ρ1 μ1 =>
    cases ho
    exact hQ
theorem pax_slot {j : Nat} {x : Str} {p : Pos} (hp : PE X (.Name x p) (tVar j)) (hr : PAX X Wx es k) (hs : starEach (.Name x p :: es) X.env = (false, eval (.Name x p) X.env) :: starEach es X.env := by rfl) : PAX X Wx (.Name x p :: es) (xaSlot j k) := by
  obtain ⟨t2, p2, k2⟩ := hr
  refine ⟨_, pa_cons hp p2 hs, fun σ W ρ μ F S o ho Q hQ => ?_⟩
  obtain ⟨d, e1, ho⟩ := bind_some ho
  by_cases hd : isUn d = true
  case pos => rw [if_pos hd] at ho; cases ho
  rw [if_neg hd] at ho
  obtain ⟨F1, F2, h1, _, _⟩ := S.ex
  obtain ⟨v, G, hv, _⟩ := RS_get h1 e1 (isUn_ne (Bool.eq_false_iff.mpr hd))
  exact ⟨v, hv, aoCons_run k2 S ho hQ fun W' F' m' as vs ra => ⟨v, vs, rfl, hv, ra⟩⟩
/-! ### by values alone -/
def xA (k : FXA) (g : List D → FX) : FX := fun ρ μ => (k ρ μ).bind fun o => match o with
  | .ok as ρ1 μ1 => (avals as).bind fun ds => g ds ρ1 μ1
  | .ex c fs ρ1 μ1 => some (.ex c fs ρ1 μ1)
theorem runA_bind {ta : TA} {g : List D → FX} (h1 : PAr X Wx ta k) {σ : L2.St} {W : Wd} {ρ μ : List D} {F : List Addr} (S : Sta X.K W σ ρ μ F) {o : EO} (ho : xA k g ρ μ = some o) {Q : List V → Hp → Prop} {Q' : VK} (hQ : GoesE X.K Wx Q' σ W F o)
    (hk : ∀ ds vs W1 ρ1 μ1 F1, RL X.K W1 ds vs [] → Sta X.K W1 σ ρ1 μ1 F1 → Mv W W1 F F1 → g ds ρ1 μ1 = some o → Q vs W1.H) : ta σ W.H Q := by
  obtain ⟨o1, e1, ho⟩ := bind_some ho
  refine h1 σ W ρ μ F S o1 e1 Q ?_
  cases o1 with
  | ok as ρ1 μ1 =>
    obtain ⟨ds, e2, ho⟩ := bind_some (show (avals as).bind (fun ds => g ds ρ1 μ1) = some o from ho)
    exact fun vs W' F' r S' mv => hk ds vs W' ρ1 μ1 F' (r.vals e2) S' mv ho
  | ex c fs ρ1 μ1 =>
    cases ho
    exact hQ
def xTup (k : FXA) : FX := xA k fun ds ρ μ => if ds.length ≤ 100 ∧ dataL ds = true then some (.ok (.tup ds) ρ μ) else none
theorem px_tup {x1} (h : PAX X Wx es k) : PX X Wx (.Tuple es x1 pos) (xTup k) := by
  obtain ⟨ta, p, k1⟩ := h
  refine ⟨_, pe_tup p, fun σ W ρ μ F S o ho Q hQ => ?_⟩
  refine runA_bind k1 S ho hQ fun ds vs W1 ρ1 μ1 F1 r S1 mv ho1 => ?_
  by_cases hl : ds.length ≤ 100 ∧ dataL ds = true
  case neg => rw [if_neg hl] at ho1; cases ho1
  rw [if_pos hl] at ho1
  cases ho1
  refine ⟨by rw [RL_len r]; exact lim_ok (Nat.le_trans hl.1 (by decide)), fun p hp => ?_⟩
  exact hQ _ (W1.put p (.tup vs)) [] F1 (R_newT S1.ok hp r) (S1.ext (Ext.put S1.ok hp)) S1.nd (fun _ hb => nomatch hb) (mv.trans (Ext.put S1.ok hp).mvr)
def xCall (o : List D → Option D) (k : FXA) : FX := xA k fun ds ρ μ => (o ds).bind fun d => if data d = true then some (.ok d ρ μ) else none
theorem runCX {t : TA} {o : List D → Option D} {r : List V → Hp → VK → Prop} (k1 : PAr X Wx t k)
    (k2 : ∀ (W : Wd) (ds : List D) (vs : List V) (G : List Addr), WOk W → RL X.K W ds vs G → ∀ d, o ds = some d → ∀ Q : VK, (∀ v W' G, Ext W W' → R X.K W' d v G → Q v W'.H) → r vs W.H Q) : PXr X Wx (tCB r t) (xCall o k) := by
  intro σ W ρ μ F S o1 ho Q hQ
  refine runA_bind k1 S ho hQ fun ds vs W1 ρ1 μ1 F1 r1 S1 mv ho1 => ?_
  obtain ⟨d, e1, ho1⟩ := bind_some ho1
  by_cases hd : data d = true
  case neg => rw [if_neg hd] at ho1; cases ho1
  rw [if_pos hd] at ho1
  cases ho1
  refine k2 W1 ds vs [] S1.ok r1 d e1 Q fun v W2 G x2 r2 => ?_
  have z := R_data d hd r2
  subst z
  exact hQ v W2 [] F1 r2 (S1.ext x2) S1.nd (fun _ hb => nomatch hb) (mv.trans x2.mvr)
theorem px_callB {id : String} {x : Str} {p : Pos} {o : List D → Option D} (h : CallD X (.builtin id) o) (hm : X.mg x = none) (hv : bootBuiltins x = some (.builtin id)) (ha : PAX X Wx (e :: es) k) (hg : Gl X x := by rfl)
    (hn : x ≠ "__name__" := by decide) (hdb : (x == ("__debug__" : Str)) = false := by decide) (he : starEach (e :: es) X.env = (false, eval e X.env) :: starEach es X.env := by rfl) (hpl : (backTo pos (starEach es X.env)).any (·.1) = false := by rfl) : PX X Wx (.Call (.Name x p) (e :: es) [] pos) (xCall o k) := by
  obtain ⟨r, hr, k2⟩ := h
  obtain ⟨t, pt, k1⟩ := ha
  exact ⟨_, pe_callB hr hg hm hv pt hn hdb he hpl, runCX k1 k2⟩
theorem px_callTy {T : String} {x : Str} {p : Pos} {o : List D → Option D} (h : CallD X (.type T) o) (hm : X.mg x = none) (hv : bootBuiltins x = some (.type T)) (ha : PAX X Wx (e :: es) k) (hg : Gl X x := by rfl)
    (hn : x ≠ "__name__" := by decide) (hdb : (x == ("__debug__" : Str)) = false := by decide) (he : starEach (e :: es) X.env = (false, eval e X.env) :: starEach es X.env := by rfl) (hpl : (backTo pos (starEach es X.env)).any (·.1) = false := by rfl) : PX X Wx (.Call (.Name x p) (e :: es) [] pos) (xCall o k) := by
  obtain ⟨r, hr, k2⟩ := h
  obtain ⟨t, pt, k1⟩ := ha
  exact ⟨_, pe_callTy hr hg hm hv pt hn hdb he hpl, runCX k1 k2⟩
def xIsi (T : String) (f : FX) : FX := xB f fun d ρ μ => (tyN d).bind fun n => (kitB n T).map fun b => .ok (.bl b) ρ μ
theorem px_isi {T : String} {x : Str} {px p : Pos} (he : PX X Wx e f) (hmi : X.mg "isinstance" = none) (hmx : X.mg x = none) (hv : bootBuiltins x = some (.type T)) (hgi : Gl X "isinstance" := by rfl) (hg : Gl X x := by rfl)
    (hvi : bootBuiltins "isinstance" = some (.builtin "isinstance") := by decide +kernel) (hn : x ≠ "__name__" := by decide) (hd : (x == ("__debug__" : Str)) = false := by decide)
    (hs1 : starEach [e, .Name x px] X.env = (false, eval e X.env) :: starEach [.Name x px] X.env := by rfl) (hs2 : starEach [.Name x px] X.env = (false, eval (.Name x px) X.env) :: starEach [] X.env := by rfl) (hpl : (backTo pos (starEach [.Name x px] X.env)).any (·.1) = false := by rfl) :
    PX X Wx (.Call (.Name "isinstance" p) [e, .Name x px] [] pos) (xIsi T f) := by
  obtain ⟨t, pt, k1⟩ := he
  refine ⟨_, pe_callB call_isi hgi hmi hvi (pa_cons pt (pa_cons (pe_bltn (v := .ty T) hg hmx hv rfl hn hd) pa_nil hs2) hs1) (by decide) (by decide) hs1 hpl, fun σ W ρ μ F S o ho Q hQ => ?_⟩
  refine run_bind k1 S ho (fun c fs ρ' μ' z => by subst z; exact hQ) fun d v W1 ρ1 μ1 F1 hd r1 S1 mv ho1 => ?_
  obtain ⟨n, e2, ho1⟩ := bind_some ho1
  obtain ⟨b, e3, z⟩ := map_some ho1
  subst z
  exact ⟨v, .ty T, .type n, .type T, b, rfl, .ty T, R_ty e2 r1, kit_ty e3, hQ _ W1 [] F1 ⟨rfl, rfl⟩ S1 S1.nd (fun _ hb => nomatch hb) mv⟩
end
/-! ### what is lent goes out and comes back -/
def mo : List AV → List D → Option (List D × List D)
  | [], ρ => some ([], ρ)
  | .val d :: as, ρ => (mo as ρ).map fun z => (d :: z.1, z.2)
  | .slot j :: as, ρ => (mo as ρ).bind fun z => (z.2[j]?).bind fun d => if isUn d = true then none else some (d :: z.1, z.2.set j .un)
def mi : List AV → List D → List D → Option (List D)
  | [], ρ, [] => some ρ
  | .val _ :: as, ρ, _ :: ds => mi as ρ ds
  | .slot j :: as, ρ, d :: ds => mi as (ρ.set j d) ds
  | _, _, _ => none
section
variable {K : PySem.W.Frag} {W : Wd} {σ : L2.St} {μ : List D}
theorem out_all : ∀ {as : List AV} {vs : List V} {ρ ds ρr : List D} {F : List Addr}, Sta K W σ ρ μ F → AVs K W σ as vs → mo as ρ = some (ds, ρr) → vs.length = ds.length ∧ ∃ F', Sta K W (vs.map some ++ σ) (ds ++ ρr) μ F' ∧ F'.Perm F
  | [], vs, ρ, ds, ρr, F, S, ha, h => by
    cases h
    have e : vs = [] := ha
    subst e
    exact ⟨rfl, F, S, List.Perm.refl F⟩
  | .val d :: as, vs, ρ, ds, ρr, F, S, ha, h => by
    obtain ⟨v, vs', rfl, h2, h3⟩ := ha
    obtain ⟨z, e1, e2⟩ := map_some h
    obtain ⟨ds', r'⟩ := z
    cases e2
    obtain ⟨hl, F', S', pm⟩ := out_all S h3 e1
    exact ⟨congrArg Nat.succ hl, F', sta_cons (o := some v) (G := []) (R1_of h2) S' S'.nd (fun _ hb => nomatch hb), pm⟩
  | .slot j :: as, vs, ρ, ds, ρr, F, S, ha, h => by
    obtain ⟨v, vs', rfl, h2, h3⟩ := ha
    obtain ⟨z, e1, h⟩ := bind_some h
    obtain ⟨ds', r'⟩ := z
    obtain ⟨d, e2, h⟩ := bind_some h
    by_cases hd : isUn d = true
    case pos => rw [if_pos hd] at h; cases h
    rw [if_neg hd] at h
    cases h
    obtain ⟨hl, F', S', pm⟩ := out_all S h3 e1
    have e3 : (ds' ++ r')[ds'.length + j]? = some d := by
      rw [List.getElem?_append_right (Nat.le_add_right ..), Nat.add_sub_cancel_left]
      exact e2
    obtain ⟨v', F2, hv, S2, pm2⟩ := sta_out S' e3 (isUn_ne (Bool.eq_false_iff.mpr hd))
    have lm : (vs'.map some : L2.St).length = ds'.length := by rw [List.length_map, hl]
    rw [List.getElem?_append_right (by rw [lm]; exact Nat.le_add_right ..), lm, Nat.add_sub_cancel_left, h2] at hv
    injection hv with hv
    injection hv with hv
    subst hv
    rw [List.set_append_right _ _ (Nat.le_add_right ..), Nat.add_sub_cancel_left] at S2
    exact ⟨congrArg Nat.succ hl, F2, S2, pm2.trans pm⟩
theorem in_all : ∀ {as : List AV} {vs : List V} {ρr ds ρ' : List D} {F : List Addr}, Sta K W (vs.map some ++ σ) (ds ++ ρr) μ F → AVs K W' σ as vs → mi as ρr ds = some ρ' → vs.length = ds.length → ∃ F', Sta K W σ ρ' μ F' ∧ ∀ a ∈ F', a ∈ F
  | [], vs, ρr, [], ρ', F, S, ha, h, hl => by
    cases h
    have e : vs = [] := ha
    subst e
    exact ⟨F, S, fun _ h => h⟩
  | [], vs, ρr, _ :: _, ρ', F, S, ha, h, hl => by cases h
  | .val d :: as, vs, ρr, [], ρ', F, S, ha, h, hl => by cases h
  | .slot j :: as, vs, ρr, [], ρ', F, S, ha, h, hl => by cases h
  | .val d :: as, vs, ρr, d' :: ds, ρ', F, S, ha, h, hl => by
    obtain ⟨v, vs', rfl, h2, h3⟩ := ha
    obtain ⟨G, F', r, S', e⟩ := sta_tail S
    obtain ⟨F2, S2, sub⟩ := in_all (vs := vs') S' h3 h (Nat.succ.inj hl)
    exact ⟨F2, S2, fun a ha => by rw [e]; exact List.mem_append_right _ (sub a ha)⟩
  | .slot j :: as, vs, ρr, d' :: ds, ρ', F, S, ha, h, hl => by
    obtain ⟨v, vs', rfl, h2, h3⟩ := ha
    have hl' : vs'.length = ds.length := Nat.succ.inj hl
    have lm : (vs'.map some : L2.St).length = ds.length := by rw [List.length_map, hl']
    obtain ⟨F', S', sub1⟩ := sta_in (σ := vs'.map some ++ σ) (ρ := ds ++ ρr) (m := ds.length + j) (v := v) S (by rw [List.getElem?_append_right (by rw [lm]; exact Nat.le_add_right ..), lm, Nat.add_sub_cancel_left]; exact h2)
    rw [List.set_append_right _ _ (Nat.le_add_right ..), Nat.add_sub_cancel_left] at S'
    obtain ⟨F2, S2, sub⟩ := in_all (vs := vs') S' h3 h hl'
    exact ⟨F2, S2, fun a ha => sub1 a (sub a ha)⟩
theorem foc_args {as : List AV} {vs : List V} {ρ ds ρr : List D} {F : List Addr} (S : Sta K W σ ρ μ F) (ha : AVs K W σ as vs) (h : mo as ρ = some (ds, ρr)) : Foc K W σ ρ μ F (vs.map some) ds (mi as ρr) := by
  obtain ⟨hl, F1, S1, pm⟩ := out_all S ha h
  obtain ⟨Fc, Sc, sub, k⟩ := sta_frame S1 (by rw [List.length_map, hl])
  refine ⟨Fc, Sc, fun a ha => pm.mem_iff.mp (sub a ha), fun W' xs' μ' Fc' G E ρ' hp S' nd own hE mv => ?_⟩
  obtain ⟨F2, S2, nd2, mv2⟩ := k W' xs' μ' Fc' G E S' nd own (fun a ha => ⟨(hE a ha).1, fun z => (hE a ha).2 (pm.mem_iff.mp z)⟩) mv
  obtain ⟨F3, S3, sub3⟩ := in_all (W' := W) S2 ha hp (by rw [← S'.len, List.length_map])
  have ndG := List.nodup_append.mp nd2
  exact ⟨F3, S3, List.nodup_append.mpr ⟨ndG.1, S3.nd, fun a ha b hb => ndG.2.2 a ha b (sub3 b hb)⟩, mv2.sub (fun a ha => (List.mem_append.mp ha).elim (List.mem_append_left _) fun z => List.mem_append_right _ (pm.mem_iff.mp z)) fun a ha => (List.mem_append.mp ha).elim (List.mem_append_left _) fun z => List.mem_append_right _ (sub3 a z)⟩
end
/-! ### what a def promises that changes something -/
abbrev RX := List D → List D → Option EO
def GoesF (K : PySem.W.Frag) (Q : VK) (E : XK) (vs : List V) (W : Wd) (F : List Addr) : EO → Prop
  | .ok d ds' μ' => ∀ v W' G F', R K W' d v G → Sta K W' (vs.map some) ds' μ' F' → (G ++ F').Nodup → (∀ a ∈ G, Own W' a) → Mv W W' F (G ++ F') → Q v W'.H
  | .ex c fs ds' μ' => ∀ dx W' F', ExAt K W' fs dx → Sta K W' (vs.map some) ds' μ' F' → Mv W W' F F' → E (.ref (He.ga K c)) dx W'.H
def spX (K : PySem.W.Frag) (n : Nat) (run : RX) : Sp := fun vs H Q E => ∃ (W : Wd) (ds μ : List D) (F : List Addr) (o : EO), W.H = H ∧ Sta K W (vs.map some) ds μ F ∧ ds.length = n ∧ run ds μ = some o ∧ GoesF K Q E vs W F o
def xPut (put : List D → Option (List D)) : EO → Option EO
  | .ok d ds' μ' => (put ds').map fun ρ' => .ok d ρ' μ'
  | .ex c fs ds' μ' => (put ds').map fun ρ' => .ex c fs ρ' μ'
theorem spX_of {K : PySem.W.Frag} {Wx : WX} {W : Wd} {σ : L2.St} {ρ μ ds : List D} {F : List Addr} {vs : List V} {put : List D → Option (List D)} {n : Nat} {run : RX} {o1 o : EO} {Q : VK} (fo : Foc K W σ ρ μ F (vs.map some) ds put) (hl : ds.length = n) (hr : run ds μ = some o1)
    (hp : xPut put o1 = some o) (h : GoesE K Wx Q σ W F o) : spX K n run vs W.H Q (WE Wx σ) := by
  obtain ⟨Fc, S, _, k⟩ := fo
  refine ⟨W, ds, μ, Fc, o1, rfl, S, hl, hr, ?_⟩
  cases o1 with
  | ok d ds' μ' =>
    obtain ⟨ρ', e1, z⟩ := map_some (show (put ds').map (fun ρ' => EO.ok d ρ' μ') = some o from hp)
    subst z
    intro v W' G F' r S' nd own mv
    obtain ⟨F2, S2, nd2, mv2⟩ := k W' ds' μ' F' G [] ρ' e1 S' nd own (fun _ hb => nomatch hb) mv
    exact h v W' G F2 r S2 nd2 own mv2
  | ex c fs ds' μ' =>
    obtain ⟨ρ', e1, z⟩ := map_some (show (put ds').map (fun ρ' => EO.ex c fs ρ' μ') = some o from hp)
    subst z
    intro dx W' F' r S' mv
    obtain ⟨F2, S2, nd2, mv2⟩ := k W' ds' μ' F' [] [] ρ' e1 S' S'.nd (fun _ hb => nomatch hb) (fun _ hb => nomatch hb) mv
    exact h dx W' F2 r S2 mv2
end Fw
/-! # defs, methods, makers: called and proved -/
namespace Fw
open PySem PySem.Spec PyProof.Rows L2
open Evl (Ex)
/-! ### a def's end: what was lent and kept goes back -/
def fin : List Bool → List D → List D → Option (List D)
  | [], [], _ => some []
  | true :: ks, _ :: ds, r :: ρ => if isUn r = true then none else (fin ks ds ρ).map fun l => r :: l
  | false :: ks, d :: ds, _ :: ρ => if fl d = true then (fin ks ds ρ).map fun l => d :: l else none
  | _, _, _ => none
theorem fin_rs {K : PySem.W.Frag} {W W' : Wd} (lt : Lt W W') : ∀ {ks : List Bool} {ds ρ ds' : List D} {vs : List V} {σ : L2.St} {F F1 : List Addr}, RS K W ds (vs.map some) F → RS K W' ρ σ F1 → (∀ (i : Nat) (v : V), ks[i]? = some true → vs[i]? = some v → σ[i]? = some (some v)) → fin ks ds ρ = some ds' →
    ∃ F', RS K W' ds' (vs.map some) F' ∧ F'.Sublist F1
  | [], [], ρ, ds', vs, σ, F, F1, h, g, hk, e => by
    cases e
    exact ⟨[], ⟨h.1, rfl⟩, List.nil_sublist _⟩
  | [], d :: ds, ρ, ds', vs, σ, F, F1, h, g, hk, e => by cases e
  | true :: ks, [], ρ, ds', vs, σ, F, F1, h, g, hk, e => by cases e
  | false :: ks, [], ρ, ds', vs, σ, F, F1, h, g, hk, e => by cases e
  | true :: ks, d :: ds, [], ds', vs, σ, F, F1, h, g, hk, e => by cases e
  | false :: ks, d :: ds, [], ds', vs, σ, F, F1, h, g, hk, e => by cases e
  | true :: ks, d :: ds, r :: ρ, ds', [], σ, F, F1, h, g, hk, e => by
    obtain ⟨o, σ', F2, F3, e1, _⟩ := h
    cases e1
  | false :: ks, d :: ds, r :: ρ, ds', [], σ, F, F1, h, g, hk, e => by
    obtain ⟨o, σ', F2, F3, e1, _⟩ := h
    cases e1
  | true :: ks, d :: ds, r :: ρ, ds', v :: vs, σ, F, F1, h, g, hk, e => by
    have e' : (if isUn r = true then none else (fin ks ds ρ).map fun l => r :: l) = some ds' := e
    by_cases hr : isUn r = true
    case pos => rw [if_pos hr] at e'; cases e'
    rw [if_neg hr] at e'
    obtain ⟨l, e2, rfl⟩ := map_some e'
    obtain ⟨o, τ, G1, G2, a1, a2, a3, a4⟩ := h
    injection a1 with a5 a6
    subst a5
    rw [← a6] at a3
    obtain ⟨o', σ', G3, G4, b1, b2, b3, b4⟩ := g
    subst b1
    subst b4
    have hv := hk 0 v rfl rfl
    have hv' : o' = some v := Option.some.inj hv
    subst hv'
    obtain ⟨F', c1, c2⟩ := fin_rs lt a3 b3 (fun i w p q => hk (i + 1) w (by simpa using p) (by simpa using q)) e2
    exact ⟨G3 ++ F', ⟨some v, vs.map some, G3, F', rfl, b2, c1, rfl⟩, List.Sublist.append (List.Sublist.refl G3) c2⟩
  | false :: ks, d :: ds, r :: ρ, ds', v :: vs, σ, F, F1, h, g, hk, e => by
    have e' : (if fl d = true then (fin ks ds ρ).map fun l => d :: l else none) = some ds' := e
    by_cases hd : fl d = true
    case neg => rw [if_neg hd] at e'; cases e'
    rw [if_pos hd] at e'
    obtain ⟨l, e2, rfl⟩ := map_some e'
    obtain ⟨o, τ, G1, G2, a1, a2, a3, a4⟩ := h
    injection a1 with a5 a6
    subst a5
    rw [← a6] at a3
    obtain ⟨o', σ', G3, G4, b1, b2, b3, b4⟩ := g
    subst b1
    subst b4
    obtain ⟨F', c1, c2⟩ := fin_rs lt a3 b3 (fun i w p q => hk (i + 1) w (by simpa using p) (by simpa using q)) e2
    have a7 : R1 K W' d (some v) [] := by
      rw [R1_iff] at a2 ⊢
      rcases a2 with ⟨z, _⟩ | ⟨w, q1, q2⟩
      · exact .inl ⟨z, rfl⟩
      · have z := R_fl hd q2
        subst z
        exact .inr ⟨w, q1, R_lt lt d q2⟩
    exact ⟨F', ⟨some v, vs.map some, [], F', rfl, a7, c1, rfl⟩, c2.trans (List.sublist_append_right G3 G4)⟩
def runX (N : Nat) (ks : List Bool) (f : FS) : RX := fun ds μ => (f (ds ++ List.replicate (N - ds.length) .un) μ).bind fun o => match o with
  | .rt d ρ' μ' => if isUn d = true then none else (fin ks ds ρ').map fun ds' => .ok d ds' μ'
  | .nx ρ' μ' => (fin ks ds ρ').map fun ds' => .ok .non ds' μ'
  | .ex c fs ρ' μ' => (fin ks ds ρ').map fun ds' => .ex c fs ds' μ'
  | _ => none
theorem sta_fin {K : PySem.W.Frag} {W W' : Wd} {ks : List Bool} {ds ds' ρ' μ μ' : List D} {vs : List V} {σ0 σ' : L2.St} {F G F' : List Addr} {ob : List Nat} (S : Sta K W (vs.map some) ds μ F) (S' : Sta K W' σ' ρ' μ' F') (ndG : (G ++ F').Nodup) (mv : Mv W W' F (G ++ F')) (kp : Kept ob σ0 σ')
    (h0 : ∀ (i : Nat) (v : V), vs[i]? = some v → σ0[i]? = some (some v)) (hob : ∀ i : Nat, ks[i]? = some true → i ∈ ob) (e : fin ks ds ρ' = some ds') : ∃ F'', Sta K W' (vs.map some) ds' μ' F'' ∧ (G ++ F'').Nodup ∧ Mv W W' F (G ++ F'') := by
  obtain ⟨F1, F2, a1, a2, a3⟩ := S.ex
  obtain ⟨⟨F3, F4, b1, b2, b3⟩, nd, own, ok⟩ := S'
  subst b3
  obtain ⟨F5, c1, c2⟩ := fin_rs (mv.lt S.own) a1 b1 (fun i v p q => by rw [kp i (hob i p)]; exact h0 i v q) e
  have sub : (F5 ++ F4).Sublist (F3 ++ F4) := List.Sublist.append c2 (List.Sublist.refl F4)
  have sub2 : (G ++ (F5 ++ F4)).Sublist (G ++ (F3 ++ F4)) := List.Sublist.append (List.Sublist.refl G) sub
  exact ⟨F5 ++ F4, ⟨⟨F5, F4, c1, b2, rfl⟩, nd.sublist sub, fun a ha => own a (sub.subset ha), ok⟩, ndG.sublist sub2, mv.sub (fun _ h => h) fun a ha => sub2.subset ha⟩
theorem RS_uns {K : PySem.W.Frag} {W : Wd} : ∀ (m : Nat), RS K W (List.replicate m .un) (List.replicate m none) []
  | 0 => ⟨rfl, rfl⟩
  | m + 1 => ⟨none, List.replicate m none, [], [], rfl, rfl, RS_uns m, rfl⟩
theorem fnx_def {P : Program} {w : World} {K : PySem.W.Frag} {mg : Str → Option Value} {base : Heap} {nm qual : Str} {params : Arguments} {body : List Stmt} {scope : Scope} {dvs0 : List V} {kws : List (Str × V)} {fa : Addr} {fd : FuncData} {N ps : List Str} {k n : Nat} {f : FS} {run : RX} {ks : List Bool} {ob : List Nat}
    (F : FunD K nm qual params body scope dvs0 kws fa fd) (Sc : FnScope N ps scope) (hn : ps.length = n) (hob : ∀ i : Nat, ks[i]? = some true → i ∈ ob)
    (h : ∀ (cdv : Value) (A : Around) (outer : List Env) (s : Shared) (H : Hp) (E : XK), Room k (A.deeper (envOfC qual scope s.heap.objs.size fa cdv)) → PSS (cxOf (L2.CX P w) P w K mg base N qual scope fa cdv A outer s H E) ob (fun cls dx _ H' => E cls dx H') body f)
    (hr : ∀ ds μ o, run ds μ = some o → runX N.length ks f ds μ = some o) : FnOk P w K mg base (L2.CX P w) (k + 1) fa fd ps (spX K n run) := by
  refine F.ok Sc (fun vs H Q E q => ?_) (fun cdv A outer s H vs Q E hroom q => ?_)
  · obtain ⟨W, ds, μ, F0, o, _, S, hl, _⟩ := q
    have := S.len
    rw [List.length_map] at this
    rw [this, hl, hn]
  · obtain ⟨W, ds, μ, F0, o, hH, S, hl, hrun, g⟩ := q
    subst hH
    obtain ⟨ts, p, kk⟩ := h cdv A outer s W.H E hroom
    refine ⟨ts, p, ?_⟩
    have lv : vs.length = ds.length := by
      have := S.len
      rw [List.length_map] at this
      exact this
    have e0 : L2.start N vs = vs.map some ++ List.replicate (N.length - ds.length) none := by
      unfold L2.start
      rw [lv]
    rw [e0]
    have S0 : Sta K W (vs.map some ++ List.replicate (N.length - ds.length) none) (ds ++ List.replicate (N.length - ds.length) .un) μ F0 := by
      obtain ⟨F1, F2, a1, a2, a3⟩ := S.ex
      have a4 := RS_app a1 (RS_uns (K := K) (W := W) (N.length - ds.length))
      rw [List.append_nil] at a4
      exact ⟨⟨F1, F2, a4, a2, a3⟩, S.nd, S.own, S.ok⟩
    have h0 : ∀ (i : Nat) (v : V), vs[i]? = some v → (vs.map some ++ List.replicate (N.length - ds.length) none : L2.St)[i]? = some (some v) := fun i v hv => by
      have hi := (List.getElem?_eq_some_iff.mp hv).1
      rw [List.getElem?_append_left (by rw [List.length_map]; exact hi), List.getElem?_map, hv]
      rfl
    have hq := hr ds μ o hrun
    unfold runX at hq
    obtain ⟨o1, e1, hq⟩ := bind_some hq
    refine kk _ _ W _ μ F0 S0 o1 e1 ?_
    cases o1 with
    | nx ρ' μ' =>
      obtain ⟨ds', e2, z⟩ := map_some (show (fin ks ds ρ').map (fun ds' => EO.ok .non ds' μ') = some o from hq)
      subst z
      intro σ' W' F' S' mv kp
      obtain ⟨F2, S2, nd2, mv2⟩ := sta_fin (G := []) S S' S'.nd mv kp h0 hob e2
      exact g .non W' [] F2 ⟨rfl, rfl⟩ S2 nd2 (fun _ hb => nomatch hb) mv2
    | rt d ρ' μ' =>
      have hq2 : (if isUn d = true then none else (fin ks ds ρ').map fun ds' => EO.ok d ds' μ') = some o := hq
      by_cases hd : isUn d = true
      case pos => rw [if_pos hd] at hq2; cases hq2
      rw [if_neg hd] at hq2
      obtain ⟨ds', e2, z⟩ := map_some hq2
      subst z
      intro v σ' W' G F' rv S' nd own mv kp
      obtain ⟨F2, S2, nd2, mv2⟩ := sta_fin S S' nd mv kp h0 hob e2
      exact g v W' G F2 rv S2 nd2 own mv2
    | ex c fs ρ' μ' =>
      obtain ⟨ds', e2, z⟩ := map_some (show (fin ks ds ρ').map (fun ds' => EO.ex c fs ds' μ') = some o from hq)
      subst z
      intro dx σ' W' F' r S' mv kp
      obtain ⟨F2, S2, nd2, mv2⟩ := sta_fin (G := []) S S' S'.nd mv kp h0 hob e2
      exact g dx W' F2 r S2 mv2
    | _ => cases hq
theorem takes_cx {P : Program} {w : World} {K : PySem.W.Frag} {mg : Str → Option Value} {base : Heap} {N : List Str} {qual : Str} {scope : Scope} {fa : Addr} {cdv : Value} {A : Around} {outer : List Env} {s : Shared} {H : Hp} {E : XK} :
    Takes (cxOf (L2.CX P w) P w K mg base N qual scope fa cdv A outer s H E) (fun cls dx _ H' => E cls dx H') := takes_of rfl rfl rfl rfl
/-! ### calls -/
def OkX (P : Program) (w : World) (K : PySem.W.Frag) (mg : Str → Option Value) (base : Heap) (x : Str) (k n : Nat) (dd : List D) (run : RX) : Prop :=
  ∃ (f : Addr) (fd : FuncData) (ps : List Str) (dvs : List V) (us : List Value), FnOk P w K mg base (L2.CX P w) k f fd ps (spX K n run) ∧ Binds K fd ps us ∧ Vals dvs us ∧ (∀ W : Wd, RL K W dd dvs []) ∧ mg x = some (.ref f) ∧ PySem.W.keepIn K (.ref f) = true
/-- a method m of the class c -/
def OkM (P : Program) (w : World) (K : PySem.W.Frag) (mg : Str → Option Value) (base : Heap) (c m : Str) (k n : Nat) (dd : List D) (run : RX) : Prop :=
  ∃ (f : Addr) (fd : FuncData) (ps : List Str) (dvs : List V) (us : List Value), FnOk P w K mg base (L2.CX P w) k f fd ps (spX K n run) ∧ Binds K fd ps us ∧ Vals dvs us ∧ (∀ W : Wd, RL K W dd dvs []) ∧ Cls K (He.ga K c) ∧ Meth K (He.ga K c) m f
/-- the maker of the class c -/
def OkK (P : Program) (w : World) (K : PySem.W.Frag) (mg : Str → Option Value) (base : Heap) (c : Str) (k n : Nat) (dd : List D) (run : RX) : Prop :=
  ∃ (f : Addr) (fd : FuncData) (ps : List Str) (dvs : List V) (us : List Value), FnOk P w K mg base (L2.CX P w) k f fd ps (spX K n run) ∧ Binds K fd ps us ∧ Vals dvs us ∧ (∀ W : Wd, RL K W dd dvs []) ∧ Mk K (He.ga K c) f ∧ mg c = some (.ref (He.ga K c))
def xRun (n : Nat) (dd : List D) (run : RX) (k : FXA) : FX := fun ρ μ => (k ρ μ).bind fun o => match o with
  | .ok as ρ1 μ1 => (mo as ρ1).bind fun z => if (z.1 ++ dd).length = n then (run (z.1 ++ dd) μ1).bind (xPut fun ys => mi as z.2 (ys.take z.1.length)) else none
  | .ex c fs ρ1 μ1 => some (.ex c fs ρ1 μ1)
section
variable {X : Cx} {Wx : WX} {e a b c o : Expr} {es : List Expr} {f g : FX} {p apos pos : Pos} {kf : FXA} {x m : Str} {k n : Nat} {dd : List D} {run : RX}
theorem px_call (O : OkX X.prog X.w X.K X.mg X.base x k n dd run) (hr : Room k X.A) (tk : Takes X Wx) (ha : PAX X Wx (e :: es) kf) (hg : Gl X x := by rfl) (hdb : (x == ("__debug__" : Str)) = false := by decide)
    (he : starEach (e :: es) X.env = (false, eval e X.env) :: starEach es X.env := by rfl) (hpl : (backTo pos (starEach es X.env)).any (·.1) = false := by rfl) : PX X Wx (.Call (.Name x p) (e :: es) [] pos) (xRun n dd run kf) := by
  obtain ⟨f, fd, ps, dvs, us, hF, hb, hv, hdd, hm, hk⟩ := O
  obtain ⟨t, pt, k1⟩ := ha
  refine ⟨_, pe_callSD hF hr hg hm hk hb hv (fun σ => passAt tk σ) pt hdb he hpl, fun σ W ρ μ F S o ho Q hQ => ?_⟩
  obtain ⟨o1, e1, ho⟩ := bind_some ho
  refine k1 σ W ρ μ F S o1 e1 _ ?_
  cases o1 with
  | ok as ρ1 μ1 =>
    intro vs W1 F1 r S1 mv
    obtain ⟨z, e2, ho⟩ := bind_some (show (mo as ρ1).bind (fun z => if (z.1 ++ dd).length = n then (run (z.1 ++ dd) μ1).bind (xPut fun ys => mi as z.2 (ys.take z.1.length)) else none) = some o from ho)
    obtain ⟨ds, ρr⟩ := z
    by_cases hl : (ds ++ dd).length = n
    case neg => rw [if_neg hl] at ho; cases ho
    rw [if_pos hl] at ho
    obtain ⟨o2, e3, ho⟩ := bind_some ho
    have fo := (foc_args S1 r e2).trans fun Fc Sc => foc_vals Sc (hdd W1)
    rw [← List.map_append] at fo
    exact spX_of fo hl e3 ho (hQ.after mv)
  | ex c fs ρ1 μ1 =>
    cases ho
    exact hQ
theorem px_call0 (O : OkX X.prog X.w X.K X.mg X.base x k n dd run) (hr : Room k X.A) (tk : Takes X Wx) (hg : Gl X x := by rfl) (hdb : (x == ("__debug__" : Str)) = false := by decide) : PX X Wx (.Call (.Name x p) [] [] pos) (xRun n dd run xaNil) := by
  obtain ⟨f, fd, ps, dvs, us, hF, hb, hv, hdd, hm, hk⟩ := O
  refine ⟨fun σ H Q => spX X.K n run ([] ++ dvs) H Q (WE Wx σ), ⟨fun pins s σ H Q I h => ?_⟩, fun σ W ρ μ F S o ho Q hQ => ?_⟩
  · refine wpAny_Call_Name_kw (ld_glob I hg hm ?_ hdb)
    exact PySem.W.callWith_K0 I.kIn hk (run_fnSD (us := []) hF hr hb hv (passAt tk σ) I .nil h)
  · obtain ⟨o1, e1, ho⟩ := bind_some ho
    cases e1
    obtain ⟨z, e2, ho⟩ := bind_some (show (mo [] ρ).bind (fun z => if (z.1 ++ dd).length = n then (run (z.1 ++ dd) μ).bind (xPut fun ys => mi [] z.2 (ys.take z.1.length)) else none) = some o from ho)
    cases e2
    by_cases hl : ([] ++ dd).length = n
    case neg => rw [if_neg hl] at ho; cases ho
    rw [if_pos hl] at ho
    obtain ⟨o2, e3, ho⟩ := bind_some ho
    have fo := (foc_args (as := []) (vs := []) S rfl rfl).trans fun Fc Sc => foc_vals Sc (hdd W)
    rw [← List.map_append] at fo
    exact spX_of fo hl e3 ho hQ
/-! ### methods -/
def tMX (X : Cx) (Wx : WX) (m : Str) (k : Nat) (ta : TE) (t : TA) : TE := fun σ H Q => ta σ H fun x H1 => ∃ (a C dx : Addr) (fs : List (Str × V)) (g : Addr) (fd : FuncData) (ps : List Str) (sp : Sp) (dvs : List V) (us : List Value), x = .ref a ∧ H1 a = some (.ins C dx fs) ∧ Cls X.K C ∧ Meth X.K C m g ∧ fs.lookup m = none ∧
  FnOk X.prog X.w X.K X.mg X.base (L2.CX X.prog X.w) k g fd ps sp ∧ Binds X.K fd ps us ∧ Vals dvs us ∧ t σ H1 fun vs H2 => sp (x :: (vs ++ dvs)) H2 Q (WE Wx σ)
theorem pe_mx {pl : Sem Bool} {ta : TE} {t : TA} (he : PE X o ta) (hr : Room k X.A) (tk : Takes X Wx) (ha : PA X (e :: es) t)
    (hst : starEach (e :: es) X.env = (false, eval e X.env) :: starEach es X.env := by rfl) (hpl : (backTo pos (starEach es X.env)).any (·.1) = false := by rfl)
    (ht : eval (.Call (.Attribute o m apos) (e :: es) [] pos) X.env = (do
      let ov ← eval o X.env
      standAt apos.atName
      let (f, first) ← holding [ov] (getMethod ov m pl)
      callWith pos f first (backTo pos (starEach (e :: es) X.env)) (backToKw pos (keywordEach [] X.env))) := by rfl) :
    PE X (.Call (.Attribute o m apos) (e :: es) [] pos) (tMX X Wx m k ta t) := by
  refine ⟨fun pins s σ H Q I h => ?_⟩
  refine PySem.W.methodCall_KW (pl := pl) (thn (he.run pins s σ H _ I h) fun u s1 ⟨x, H1, I1, rx, a, C, dx, fs, g, fd, ps, sp, dvs, us0, ex, ea, c, hm, l, F, hb, hd, q⟩ => ?_) ht
  subst ex
  obtain rfl : u = Value.ref a := rx
  refine getmeth_ok I1 ea c hm l ?_
  refine PySem.W.callWith_K (first := [.ref a]) (h₀ := X.base) I.ok.mod.kin hm.kp (thn (ha.run pos pins s1 σ H1 _ I1 q) fun us s2 ⟨vs, H2, I2, r, q2⟩ => ⟨I2.kIn, ?_⟩) hst hpl
  exact run_fnSD (us := .ref a :: us) (vs := .ref a :: vs) F hr hb hd (passAt tk σ) I2 (.cons rfl r) q2
theorem pe_mx0 {pl : Sem Bool} {ta : TE} (he : PE X o ta) (hr : Room k X.A) (tk : Takes X Wx)
    (ht : eval (.Call (.Attribute o m apos) [] [] pos) X.env = (do
      let ov ← eval o X.env
      standAt apos.atName
      let (f, first) ← holding [ov] (getMethod ov m pl)
      callWith pos f first (backTo pos (starEach [] X.env)) (backToKw pos (keywordEach [] X.env))) := by rfl) :
    PE X (.Call (.Attribute o m apos) [] [] pos) (tMX X Wx m k ta tNil) := by
  refine ⟨fun pins s σ H Q I h => ?_⟩
  refine PySem.W.methodCall_KW (pl := pl) (thn (he.run pins s σ H _ I h) fun u s1 ⟨x, H1, I1, rx, a, C, dx, fs, g, fd, ps, sp, dvs, us0, ex, ea, c, hm, l, F, hb, hd, q⟩ => ?_) ht
  subst ex
  obtain rfl : u = Value.ref a := rx
  refine getmeth_ok I1 ea c hm l ?_
  exact PySem.W.callWith_K0 (first := [.ref a]) I1.kIn hm.kp (run_fnSD (us := [.ref a]) (vs := [.ref a]) F hr hb hd (passAt tk σ) I1 (.cons rfl .nil) q)
/-- the methods' table -/
abbrev MT := Str → Option RX
def OkMT (X : Cx) (m : Str) (k n : Nat) (dd : List D) (runs : MT) : Prop := ∀ c run, runs c = some run → OkM X.prog X.w X.K X.mg X.base c m k n dd run
/-- o.m(..), o a slot: the arguments may change things -/
def xMethS (i : Nat) (m : Str) (n : Nat) (dd : List D) (runs : MT) (k : FXA) : FX := fun ρ μ => (ρ[i]?).bind fun t => match t with
  | .obj c ns _ => if fidx m ns = none then (runs c).bind fun run => (k ρ μ).bind fun o => match o with
    | .ok as ρ1 μ1 => (mo (.slot i :: as) ρ1).bind fun z => if (z.1 ++ dd).length = n then (run (z.1 ++ dd) μ1).bind (xPut fun ys => mi (.slot i :: as) z.2 (ys.take z.1.length)) else none
    | .ex c fs ρ1 μ1 => some (.ex c fs ρ1 μ1)
    else none
  | _ => none
theorem methS_run {i : Nat} {t : TA} {runs : MT} (OM : OkMT X m k n dd runs) (k1 : PAr X Wx t kf) {σ : L2.St} {W : Wd} {ρ μ : List D} {F : List Addr} (S : Sta X.K W σ ρ μ F) {o : EO} (ho : xMethS i m n dd runs kf ρ μ = some o) {Q : VK} (hQ : GoesE X.K Wx Q σ W F o) : tMX X Wx m k (tVar i) t σ W.H Q := by
  obtain ⟨t0, e0, ho⟩ := bind_some ho
  cases t0 with
  | obj c ns ds0 =>
    have ho2 : (if fidx m ns = none then (runs c).bind fun run => (kf ρ μ).bind fun o => match o with
      | .ok as ρ1 μ1 => (mo (.slot i :: as) ρ1).bind fun z => if (z.1 ++ dd).length = n then (run (z.1 ++ dd) μ1).bind (xPut fun ys => mi (.slot i :: as) z.2 (ys.take z.1.length)) else none
      | .ex c fs ρ1 μ1 => some (.ex c fs ρ1 μ1)
      else none) = some o := ho
    by_cases hf : fidx m ns = none
    case neg => rw [if_neg hf] at ho2; cases ho2
    rw [if_pos hf] at ho2
    obtain ⟨run, e1, ho2⟩ := bind_some ho2
    obtain ⟨o1, e2, ho2⟩ := bind_some ho2
    obtain ⟨g, fd, ps, dvs, us, hF, hb, hv, hdd, hc, hm⟩ := OM c run e1
    obtain ⟨F1, F2, q1, _, _⟩ := S.ex
    obtain ⟨v, G, hv2, r0⟩ := RS_get q1 e0 (fun z => nomatch z)
    obtain ⟨a, dx, vs0, F', rfl, hH, hn, hR, rfl⟩ := r0
    refine ⟨.ref a, hv2, a, _, dx, _, g, fd, ps, _, dvs, us, rfl, hH, hc, hm, fidx_none hf, hF, hb, hv, ?_⟩
    refine k1 σ W ρ μ F S o1 e2 _ ?_
    cases o1 with
    | ok as ρ1 μ1 =>
      intro vs W1 F1 r S1 mv
      obtain ⟨z, e3, ho3⟩ := bind_some (show (mo (.slot i :: as) ρ1).bind (fun z => if (z.1 ++ dd).length = n then (run (z.1 ++ dd) μ1).bind (xPut fun ys => mi (.slot i :: as) z.2 (ys.take z.1.length)) else none) = some o from ho2)
      obtain ⟨ds, ρr⟩ := z
      by_cases hl : (ds ++ dd).length = n
      case neg => rw [if_neg hl] at ho3; cases ho3
      rw [if_pos hl] at ho3
      obtain ⟨o2, e4, ho3⟩ := bind_some ho3
      have fo := (foc_args (as := .slot i :: as) (vs := .ref a :: vs) S1 ⟨.ref a, vs, rfl, hv2, r⟩ e3).trans fun Fc Sc => foc_vals Sc (hdd W1)
      rw [← List.map_append] at fo
      exact spX_of fo hl e4 ho3 (hQ.after mv)
    | ex c fs ρ1 μ1 =>
      cases ho2
      exact hQ
  | _ => cases ho
theorem px_methS {pl : Sem Bool} {i : Nat} {y : Str} {runs : MT} (OM : OkMT X m k n dd runs) (hp : PE X (.Name y p) (tVar i)) (hr : Room k X.A) (tk : Takes X Wx) (ha : PAX X Wx (e :: es) kf)
    (hst : starEach (e :: es) X.env = (false, eval e X.env) :: starEach es X.env := by rfl) (hpl : (backTo pos (starEach es X.env)).any (·.1) = false := by rfl)
    (ht : eval (.Call (.Attribute (.Name y p) m apos) (e :: es) [] pos) X.env = (do
      let ov ← eval (.Name y p) X.env
      standAt apos.atName
      let (f, first) ← holding [ov] (getMethod ov m pl)
      callWith pos f first (backTo pos (starEach (e :: es) X.env)) (backToKw pos (keywordEach [] X.env))) := by rfl) :
    PX X Wx (.Call (.Attribute (.Name y p) m apos) (e :: es) [] pos) (xMethS i m n dd runs kf) := by
  obtain ⟨t, pt, k1⟩ := ha
  exact ⟨_, pe_mx hp hr tk pt hst hpl ht, fun σ W ρ μ F S o ho Q hQ => methS_run OM k1 S ho hQ⟩
theorem px_methS0 {pl : Sem Bool} {i : Nat} {y : Str} {runs : MT} (OM : OkMT X m k n dd runs) (hp : PE X (.Name y p) (tVar i)) (hr : Room k X.A) (tk : Takes X Wx)
    (ht : eval (.Call (.Attribute (.Name y p) m apos) [] [] pos) X.env = (do
      let ov ← eval (.Name y p) X.env
      standAt apos.atName
      let (f, first) ← holding [ov] (getMethod ov m pl)
      callWith pos f first (backTo pos (starEach [] X.env)) (backToKw pos (keywordEach [] X.env))) := by rfl) :
    PX X Wx (.Call (.Attribute (.Name y p) m apos) [] [] pos) (xMethS i m n dd runs xaNil) := by
  refine ⟨_, pe_mx0 hp hr tk ht, fun σ W ρ μ F S o ho Q hQ => methS_run OM (t := tNil) (kf := xaNil) ?_ S ho hQ⟩
  intro σ W ρ μ F S o ho Q hQ
  cases ho
  exact hQ [] W F rfl S (Ext.refl S.ok).mvr
end
end Fw
/-! # methods by paths and of new instances; makers; what is shared -/
namespace Fw
open PySem PySem.Spec PyProof.Rows L2
open Evl (Ex)
theorem rdp_det {K : PySem.W.Frag} {H : Hp} : ∀ {p : List Str} {u v v' : V}, rdp K H u p v → rdp K H u p v' → v = v'
  | [], _, _, _, h, h' => h.symm.trans h'
  | y :: p, u, v, v', ⟨a, C, dx, fs, w, h1, h2, h3, h4, h5, h6⟩, ⟨a', C', dx', fs', w', g1, g2, g3, g4, g5, g6⟩ => by
    subst h1
    cases g1
    rw [h2] at g2
    cases g2
    rw [h5] at g5
    cases g5
    exact rdp_det h6 g6
theorem rdp_ex {K : PySem.W.Frag} {H H' : Hp} (x : Ex H H') : ∀ {p : List Str} {u v : V}, rdp K H u p v → rdp K H' u p v
  | [], _, _, h => h
  | y :: p, u, v, ⟨a, C, dx, fs, w, h1, h2, h3, h4, h5, h6⟩ => ⟨a, C, dx, fs, w, h1, x _ _ h2, h3, h4, h5, rdp_ex x h6⟩
/-- e is the path p from the slot i -/
def PPath (X : Cx) (e : Expr) (i : Nat) (p : List Str) : Prop := ∃ te : TE, PE X e te ∧ ∀ (σ : L2.St) (H : Hp) (Q : VK) (u v : V), σ[i]? = some (some u) → rdp X.K H u p v → Q v H → te σ H Q
def flL (ds : List D) : Bool := ds.all fl
theorem RL_fl {K : PySem.W.Frag} {W : Wd} : ∀ {ds : List D} {vs : List V} {F : List Addr}, flL ds = true → RL K W ds vs F → F = []
  | [], _, _, _, h => h.2
  | d :: ds, _, _, q, h => by
    obtain ⟨v, vs', F1, F2, h1, h2, h3, h4⟩ := h
    have q1 : (fl d && flL ds) = true := q
    obtain ⟨qa, qb⟩ := Bool.and_eq_true_iff.mp q1
    rw [h4, R_fl qa h2, RL_fl qb h3]
    rfl
section
variable {X : Cx} {Wx : WX} {e a b c o : Expr} {es : List Expr} {f g : FX} {p apos pos : Pos} {kq : FA} {kf : FXA} {x m : Str} {k n i : Nat} {dd : List D} {run : RX} {q : List Str} {ok : OkT} {runs : MT}
theorem pp_var {y : Str} (hp : PE X (.Name y pos) (tVar i)) : PPath X (.Name y pos) i [] := ⟨_, hp, fun σ H Q u v hu h hQ => ⟨u, hu, by
  have e : u = v := h
  rw [e]
  exact hQ⟩⟩
theorem pp_fld (h : PPath X e i q) (hb : attributeBase e x X.env (eval e X.env) = eval e X.env := by rfl) : PPath X (.Attribute e x pos) i (q ++ [x]) := by
  obtain ⟨te, p, k⟩ := h
  refine ⟨_, pe_fld p hb, fun σ H Q u v hu hr hQ => ?_⟩
  obtain ⟨w, h1, a, C, dx, fs, w', h2, h3, h4, h5, h6, h7⟩ := rdp_app hr
  refine k σ H _ u w hu h1 ⟨a, C, dx, fs, w', h2, h3, h4, h5, h6, ?_⟩
  have e : w' = v := h7
  rw [e]
  exact hQ
/-- by a path, the arguments quiet -/
def xMethQ (ok : OkT) (i : Nat) (q : List Str) (m : Str) (n : Nat) (dd : List D) (runs : MT) (k : FA) : FX := fun ρ μ => (ρ[i]?).bind fun r => (pget ok q r).bind fun t => match t with
  | .obj c ns _ => if fidx m ns = none then (runs c).bind fun run => (k ρ μ).bind fun as => if flL as = true ∧ (t :: (as ++ dd)).length = n then (run (t :: (as ++ dd)) μ).bind (xPut fun ys => (put1 fun t' => (pput q r t').map fun r' => ρ.set i r') (ys.take 1)) else none else none
  | .ref j => match μ[j]? with
    | some (.obj c ns _) => if fidx m ns = none then (runs c).bind fun run => (k ρ μ).bind fun as => if flL as = true ∧ (t :: (as ++ dd)).length = n then (run (t :: (as ++ dd)) μ).bind (xPut fun ys => some ρ) else none else none
    | _ => none
  | _ => none
theorem foc_nil {K : PySem.W.Frag} {W : Wd} {σ : L2.St} {ρ μ : List D} {F : List Addr} (S : Sta K W σ ρ μ F) : Foc K W σ ρ μ F [] [] fun ys => if ys = [] then some ρ else none := by
  obtain ⟨Fc, S2, sub, k⟩ := sta_frame (τ := []) (xs := []) S rfl
  refine ⟨Fc, S2, sub, fun W' xs' μ' Fc' G E ρ' hp S' nd own hE mv => ?_⟩
  by_cases e : xs' = []
  · subst e
    cases hp
    exact k W' [] μ' Fc' G E S' nd own hE mv
  · have hp2 : (if xs' = [] then some ρ else none) = some ρ' := hp
    rw [if_neg e] at hp2
    cases hp2
theorem methQ_run {te : TE} {t : TA} (T : CE X.K ok) (OM : OkMT X m k n dd runs) (h0 : ∀ (σ : L2.St) (H : Hp) (Q : VK) (u v : V), σ[i]? = some (some u) → rdp X.K H u q v → Q v H → te σ H Q)
    (k1 : ∀ (σ : L2.St) (W : Wd) (ρ μ : List D) (F : List Addr), Sta X.K W σ ρ μ F → ∀ ds, kq ρ μ = some ds → ∀ Q : List V → Hp → Prop, (∀ vs W' G, Ext W W' → RL X.K W' ds vs G → Q vs W'.H) → t σ W.H Q)
    {σ : L2.St} {W : Wd} {ρ μ : List D} {F : List Addr} (S : Sta X.K W σ ρ μ F) {o : EO} (ho : xMethQ ok i q m n dd runs kq ρ μ = some o) {Q : VK} (hQ : GoesE X.K Wx Q σ W F o) : tMX X Wx m k te t σ W.H Q := by
  obtain ⟨r, e0, ho⟩ := bind_some ho
  obtain ⟨t0, e1, ho⟩ := bind_some ho
  obtain ⟨u, v, hu, hr, Fc, Sc, _⟩ := foc_sp T S e0 e1
  refine h0 σ W.H _ u v hu hr ?_
  obtain ⟨G0, F0, r1, _, _⟩ := sta_tail Sc
  rw [R1_iff] at r1
  rcases r1 with ⟨z, _⟩ | ⟨v1, ev, r1⟩
  · have := (pget_ne e1).2
    rw [z] at this
    cases this
  injection ev with ev
  subst ev
  cases t0 with
  | obj c ns ds0 =>
    have ho2 : (if fidx m ns = none then (runs c).bind fun run => (kq ρ μ).bind fun as => if flL as = true ∧ (D.obj c ns ds0 :: (as ++ dd)).length = n then (run (D.obj c ns ds0 :: (as ++ dd)) μ).bind (xPut fun ys => (put1 fun t' => (pput q r t').map fun r' => ρ.set i r') (ys.take 1)) else none else none) = some o := ho
    by_cases hf : fidx m ns = none
    case neg => rw [if_neg hf] at ho2; cases ho2
    rw [if_pos hf] at ho2
    obtain ⟨run, e2, ho2⟩ := bind_some ho2
    obtain ⟨as, e3, ho2⟩ := bind_some ho2
    by_cases hl : flL as = true ∧ (D.obj c ns ds0 :: (as ++ dd)).length = n
    case neg => rw [if_neg hl] at ho2; cases ho2
    rw [if_pos hl] at ho2
    obtain ⟨o2, e4, ho2⟩ := bind_some ho2
    obtain ⟨gf, fd, ps, dvs, us, hF, hb, hv, hdd, hc, hm⟩ := OM c run e2
    obtain ⟨a, dx, vs0, F', rfl, hH, hn, hR, rfl⟩ := r1
    refine ⟨a, _, dx, _, gf, fd, ps, _, dvs, us, rfl, hH, hc, hm, fidx_none hf, hF, hb, hv, ?_⟩
    refine k1 σ W ρ μ F S as e3 _ fun vs W1 G x1 ra => ?_
    have z := RL_fl hl.1 ra
    subst z
    obtain ⟨u', v', hu', hr', fo⟩ := foc_sp T (S.ext x1) e0 e1
    rw [hu] at hu'
    cases hu'
    have ev : v' = .ref a := rdp_det hr' (rdp_ex x1.ex hr)
    subst ev
    have fo2 := fo.trans fun Fc Sc => foc_vals Sc (RL_app ra (hdd W1))
    exact spX_of (vs := .ref a :: (vs ++ dvs)) fo2 hl.2 e4 ho2 (hQ.after x1.mvr)
  | ref j =>
    have ho2 : (match μ[j]? with
      | some (.obj c ns _) => if fidx m ns = none then (runs c).bind fun run => (kq ρ μ).bind fun as => if flL as = true ∧ (D.ref j :: (as ++ dd)).length = n then (run (D.ref j :: (as ++ dd)) μ).bind (xPut fun ys => some ρ) else none else none
      | _ => none) = some o := ho
    cases e9 : μ[j]? with
    | none => rw [e9] at ho2; cases ho2
    | some t2 =>
      rw [e9] at ho2
      cases t2 with
      | obj c ns ds0 =>
        have ho3 : (if fidx m ns = none then (runs c).bind fun run => (kq ρ μ).bind fun as => if flL as = true ∧ (D.ref j :: (as ++ dd)).length = n then (run (D.ref j :: (as ++ dd)) μ).bind (xPut fun ys => some ρ) else none else none) = some o := ho2
        by_cases hf : fidx m ns = none
        case neg => rw [if_neg hf] at ho3; cases ho3
        rw [if_pos hf] at ho3
        obtain ⟨run, e2, ho3⟩ := bind_some ho3
        obtain ⟨as, e3, ho3⟩ := bind_some ho3
        by_cases hl : flL as = true ∧ (D.ref j :: (as ++ dd)).length = n
        case neg => rw [if_neg hl] at ho3; cases ho3
        rw [if_pos hl] at ho3
        obtain ⟨o2, e4, ho3⟩ := bind_some ho3
        obtain ⟨gf, fd, ps, dvs, us, hF, hb, hv, hdd, hc, hm⟩ := OM c run e2
        have rj := r1
        obtain ⟨a, rfl, h3, hG0⟩ := r1
        obtain ⟨F1, F2, _, h4, _⟩ := S.ex
        obtain ⟨a', G', h5, h6, _⟩ := RL_map_get h4 e9
        rw [h3] at h5
        cases h5
        obtain ⟨a2, dx, vs0, F', ea, hH, hn, hR, _⟩ := h6
        cases ea
        refine ⟨_, _, dx, _, gf, fd, ps, _, dvs, us, rfl, hH, hc, hm, fidx_none hf, hF, hb, hv, ?_⟩
        refine k1 σ W ρ μ F S as e3 _ fun vs W1 G x1 ra => ?_
        have z := RL_fl hl.1 ra
        subst z
        subst hG0
        have fo2 := (foc_nil (S.ext x1)).trans fun Fc Sc => foc_vals (ds := D.ref j :: (as ++ dd)) (vs := .ref a :: (vs ++ dvs)) Sc ⟨.ref a, vs ++ dvs, [], [], rfl, R_ext x1 _ rj, RL_app ra (hdd W1), rfl⟩
        exact spX_of (vs := .ref a :: (vs ++ dvs)) (fo2.put_imp (put' := fun ys => some ρ) fun ys zs hz => by
          cases hz
          show (if ys.take ([] : List D).length = [] then some ρ else none) = some ρ
          rw [List.length_nil, List.take_zero, if_pos rfl]) hl.2 e4 ho3 (hQ.after x1.mvr)
      | _ => cases ho2
  | _ => cases ho
theorem px_methQ {pl : Sem Bool} (T : CE X.K ok) (OM : OkMT X m k n dd runs) (hp : PPath X o i q) (hr : Room k X.A) (tk : Takes X Wx) (ha : PAQ X (e :: es) kq)
    (hst : starEach (e :: es) X.env = (false, eval e X.env) :: starEach es X.env := by rfl) (hpl : (backTo pos (starEach es X.env)).any (·.1) = false := by rfl)
    (ht : eval (.Call (.Attribute o m apos) (e :: es) [] pos) X.env = (do
      let ov ← eval o X.env
      standAt apos.atName
      let (f, first) ← holding [ov] (getMethod ov m pl)
      callWith pos f first (backTo pos (starEach (e :: es) X.env)) (backToKw pos (keywordEach [] X.env))) := by rfl) :
    PX X Wx (.Call (.Attribute o m apos) (e :: es) [] pos) (xMethQ ok i q m n dd runs kq) := by
  obtain ⟨t, pt, k1⟩ := ha
  obtain ⟨te, pe, k0⟩ := hp
  exact ⟨_, pe_mx pe hr tk pt hst hpl ht, fun σ W ρ μ F S o ho Q hQ => methQ_run T OM k0 k1 S ho hQ⟩
theorem px_methQ0 {pl : Sem Bool} (T : CE X.K ok) (OM : OkMT X m k n dd runs) (hp : PPath X o i q) (hr : Room k X.A) (tk : Takes X Wx)
    (ht : eval (.Call (.Attribute o m apos) [] [] pos) X.env = (do
      let ov ← eval o X.env
      standAt apos.atName
      let (f, first) ← holding [ov] (getMethod ov m pl)
      callWith pos f first (backTo pos (starEach [] X.env)) (backToKw pos (keywordEach [] X.env))) := by rfl) :
    PX X Wx (.Call (.Attribute o m apos) [] [] pos) (xMethQ ok i q m n dd runs aNil) := by
  obtain ⟨te, pe, k0⟩ := hp
  refine ⟨_, pe_mx0 pe hr tk ht, fun σ W ρ μ F S o ho Q hQ => methQ_run (kq := aNil) T OM k0 (t := tNil) (fun σ W ρ μ F S ds hd Q q => ?_) S ho hQ⟩
  cases hd
  exact q [] W [] (Ext.refl S.ok) ⟨rfl, rfl⟩
/-! ### what stands at the front is dropped behind -/
def consE (t : D) : EO → EO
  | .ok d ρ μ => .ok d (t :: ρ) μ
  | .ex c fs ρ μ => .ex c fs (t :: ρ) μ
theorem goes_drop {K : PySem.W.Frag} {Q : VK} {σ : L2.St} {W W0 : Wd} {F F0 : List Addr} {o : EO} {oo : Option V} {t : D} (hQ : GoesE K Wx Q σ W0 F0 o) (mv0 : Mv W0 W F0 F) : GoesE K (fun cls dx _ H => Wx cls dx σ H) Q (oo :: σ) W F (consE t o) := by
  cases o with
  | ok d ρ' μ' =>
    intro v W' G F' r S nd own mv
    obtain ⟨G1, F2, _, S2, e⟩ := sta_tail S
    subst e
    have sub : (G ++ F2).Sublist (G ++ (G1 ++ F2)) := List.Sublist.append (List.Sublist.refl G) (List.sublist_append_right G1 F2)
    exact hQ v W' G F2 r S2 (nd.sublist sub) own ((mv0.trans mv).sub (fun _ h => h) fun a ha => sub.subset ha)
  | ex c fs ρ' μ' =>
    intro dx W' F' r S mv
    obtain ⟨G1, F2, _, S2, e⟩ := sta_tail S
    subst e
    exact hQ dx W' F2 r S2 ((mv0.trans mv).sub (fun _ h => h) fun a ha => List.mem_append_right _ ha)
/-- a method of a new instance that nobody keeps -/
def xMethT (m : Str) (n : Nat) (dd : List D) (runs : MT) (g : FX) (k : FA) : FX := fun ρ μ => (g ρ μ).bind fun o => match o with
  | .ok t ρ1 μ1 => (match t with
    | .obj c ns _ => if fidx m ns = none then (runs c).bind fun run => (k ρ1 μ1).bind fun as => if flL as = true ∧ (t :: (as ++ dd)).length = n then (run (t :: (as ++ dd)) μ1).bind (xPut fun ys => (ys.head?).map fun _ => ρ1) else none else none
    | _ => none)
  | .ex c fs ρ1 μ1 => some (.ex c fs ρ1 μ1)
theorem front_put {run2 : EO} {ρ1 : List D} {o : EO} (h : xPut (fun ys => (ys.head?).map fun _ => ρ1) run2 = some o) : ∃ t', xPut (fun ys => (put1 fun d' => some (d' :: ρ1)) (ys.take 1)) run2 = some (consE t' o) := by
  cases run2 with
  | ok d ys μ' =>
    cases ys with
    | nil => cases h
    | cons y ys =>
      cases h
      exact ⟨y, rfl⟩
  | ex c fs ys μ' =>
    cases ys with
    | nil => cases h
    | cons y ys =>
      cases h
      exact ⟨y, rfl⟩
theorem methT_run {te : TE} {t : TA} (OM : OkMT X m k n dd runs) (h0 : PXr X Wx te g)
    (k1 : ∀ (σ : L2.St) (W : Wd) (ρ μ : List D) (F : List Addr), Sta X.K W σ ρ μ F → ∀ ds, kq ρ μ = some ds → ∀ Q : List V → Hp → Prop, (∀ vs W' G, Ext W W' → RL X.K W' ds vs G → Q vs W'.H) → t σ W.H Q) : PXr X Wx (tMX X Wx m k te t) (xMethT m n dd runs g kq) := by
  intro σ W ρ μ F S o ho Q hQ
  obtain ⟨o1, e1, ho⟩ := bind_some ho
  refine h0 σ W ρ μ F S o1 e1 _ ?_
  cases o1 with
  | ok t0 ρ1 μ1 =>
    intro v W1 G F1 r S1 nd own mv
    cases t0 with
    | obj c ns ds0 =>
      have ho2 : (if fidx m ns = none then (runs c).bind fun run => (kq ρ1 μ1).bind fun as => if flL as = true ∧ (D.obj c ns ds0 :: (as ++ dd)).length = n then (run (D.obj c ns ds0 :: (as ++ dd)) μ1).bind (xPut fun ys => (ys.head?).map fun _ => ρ1) else none else none) = some o := ho
      by_cases hf : fidx m ns = none
      case neg => rw [if_neg hf] at ho2; cases ho2
      rw [if_pos hf] at ho2
      obtain ⟨run, e2, ho2⟩ := bind_some ho2
      obtain ⟨as, e3, ho2⟩ := bind_some ho2
      by_cases hl : flL as = true ∧ (D.obj c ns ds0 :: (as ++ dd)).length = n
      case neg => rw [if_neg hl] at ho2; cases ho2
      rw [if_pos hl] at ho2
      obtain ⟨o2, e4, ho2⟩ := bind_some ho2
      obtain ⟨gf, fd, ps, dvs, us, hF, hb, hv, hdd, hc, hm⟩ := OM c run e2
      have rt := r
      obtain ⟨a, dx, vs0, F', rfl, hH, hn, hR, hG⟩ := r
      refine ⟨a, _, dx, _, gf, fd, ps, _, dvs, us, rfl, hH, hc, hm, fidx_none hf, hF, hb, hv, ?_⟩
      refine k1 σ W1 ρ1 μ1 F1 S1 as e3 _ fun vs W2 G2 x2 ra => ?_
      have z := RL_fl hl.1 ra
      subst z
      have Sf := sta_cons (o := some (.ref a)) (R1_of (R_ext x2 _ rt)) (S1.ext x2) nd fun b hb => (own b hb).ext x2
      have fo2 := (foc_front Sf).trans fun Fc Sc => foc_vals Sc (RL_app ra (hdd W2))
      obtain ⟨t', ht'⟩ := front_put ho2
      exact spX_of (Wx := fun cls dx _ H => Wx cls dx σ H) (vs := .ref a :: (vs ++ dvs)) fo2 hl.2 e4 ht' (goes_drop hQ (mv.trans x2.mvr))
    | _ => cases ho
  | ex c fs ρ1 μ1 =>
    cases ho
    exact hQ
theorem px_methT {pl : Sem Bool} (OM : OkMT X m k n dd runs) (hp : PX X Wx o g) (hr : Room k X.A) (tk : Takes X Wx) (ha : PAQ X (e :: es) kq)
    (hst : starEach (e :: es) X.env = (false, eval e X.env) :: starEach es X.env := by rfl) (hpl : (backTo pos (starEach es X.env)).any (·.1) = false := by rfl)
    (ht : eval (.Call (.Attribute o m apos) (e :: es) [] pos) X.env = (do
      let ov ← eval o X.env
      standAt apos.atName
      let (f, first) ← holding [ov] (getMethod ov m pl)
      callWith pos f first (backTo pos (starEach (e :: es) X.env)) (backToKw pos (keywordEach [] X.env))) := by rfl) :
    PX X Wx (.Call (.Attribute o m apos) (e :: es) [] pos) (xMethT m n dd runs g kq) := by
  obtain ⟨t, pt, k1⟩ := ha
  obtain ⟨te, pe, k0⟩ := hp
  exact ⟨_, pe_mx pe hr tk pt hst hpl ht, methT_run OM k0 k1⟩
theorem px_methT0 {pl : Sem Bool} (OM : OkMT X m k n dd runs) (hp : PX X Wx o g) (hr : Room k X.A) (tk : Takes X Wx)
    (ht : eval (.Call (.Attribute o m apos) [] [] pos) X.env = (do
      let ov ← eval o X.env
      standAt apos.atName
      let (f, first) ← holding [ov] (getMethod ov m pl)
      callWith pos f first (backTo pos (starEach [] X.env)) (backToKw pos (keywordEach [] X.env))) := by rfl) :
    PX X Wx (.Call (.Attribute o m apos) [] [] pos) (xMethT m n dd runs g aNil) := by
  obtain ⟨te, pe, k0⟩ := hp
  refine ⟨_, pe_mx0 pe hr tk ht, methT_run (kq := aNil) (t := tNil) OM k0 fun σ W ρ μ F S ds hd Q q => ?_⟩
  cases hd
  exact q [] W [] (Ext.refl S.ok) ⟨rfl, rfl⟩
/-! ### makers -/
def xMake (c : Str) (n : Nat) (dd : List D) (run : RX) (k : FXA) : FX := xA k fun ds ρ μ => if (D.obj c [] [] :: (ds ++ dd)).length = n then (run (D.obj c [] [] :: (ds ++ dd)) μ).bind fun o => match o with
  | .ok d (t :: _) μ' => (match d with
    | .non => if isUn t = true then none else some (.ok t ρ μ')
    | _ => none)
  | .ex cx fs (_ :: _) μ' => some (.ex cx fs ρ μ')
  | _ => none
  else none
theorem runM {pins : List (Addr × Obj)} {σ : L2.St} {H : Hp} {s : Shared} {Q : VK} {us : List Value} {vs dvs : List V} {ds : List Value} {C f : Addr} {fd : FuncData} {ps : List Str} {sp : Sp} (M : Mk X.K C f) (F : FnOk X.prog X.w X.K X.mg X.base (L2.CX X.prog X.w) k f fd ps sp) (hr : Room (k + 1) X.A) (hb : Binds X.K fd ps ds) (hd : Vals dvs ds)
    (tk : Takes X Wx) (I : Inv X pins σ H s) (r : Vals vs us)
    (h : ∀ x dx, H x = none → H dx = none → dx ≠ x → sp (.ref x :: (vs ++ dvs)) (upd (upd H dx (.own x)) x (.ins C dx [])) (fun v H2 => v = .non ∧ Q (.ref x) H2) (WE Wx σ)) :
    wpAny (model X.prog X.w) X.A (call (.ref C) us) (EP X pins σ Q) X.xe s := by
  have hq := h (s.heap.objs.size + 1) s.heap.objs.size (I.hok.fresh (Nat.le_succ _)) (I.hok.fresh (Nat.le_refl _)) (Nat.ne_of_lt (Nat.lt_succ_self _))
  have I2 := Inv.made (C := C) I
  have r2 : Vals (V.ref (s.heap.objs.size + 1) :: (vs ++ dvs)) (Value.ref (s.heap.objs.size + 1) :: (us ++ ds)) := .cons rfl (r.append hd)
  have hl : (Value.ref (s.heap.objs.size + 1) :: us ++ ds).length = ps.length := by
    have e := r2.length
    rw [F.len _ _ _ _ hq] at e
    exact e.symm
  refine wpAny_call (make_map (f := f) I.kIn M.makes M.init (beq_iff_eq.mp M.fn) (codeAny_mono (F.run _ X.stack _ _ ⟨Value.ref (s.heap.objs.size + 1) :: us, []⟩ (Value.ref (s.heap.objs.size + 1) :: (us ++ ds)) _ _ _ (hr.make C us [])
    (I2.env0.make C us []) (hb _ (Value.ref (s.heap.objs.size + 1) :: us) I2.kIn hl) r2 hq) fun r s' hq' => ?_))
  cases r with
  | error e => exact passAt tk σ pins _ _ e s' I2 hq'
  | ok fl =>
    cases fl with
    | ret u =>
      obtain ⟨v, H', I3, rv, ev, q3⟩ := I2.after hq'
      subst ev
      exact ⟨rv, ⟨V.ref (s.heap.objs.size + 1), H', I3, rfl, q3⟩⟩
    | next => exact False.elim hq'
    | brk => exact False.elim hq'
    | cont => exact False.elim hq'
def tMk (C : Addr) (sp : Sp) (dvs : List V) (Wx : WX) (t : TA) : TE := fun σ H Q => t σ H fun vs H1 => ∀ x dx, H1 x = none → H1 dx = none → dx ≠ x →
  sp (.ref x :: (vs ++ dvs)) (upd (upd H1 dx (.own x)) x (.ins C dx [])) (fun v H2 => v = .non ∧ Q (.ref x) H2) (WE Wx σ)
theorem make_run {c : Str} {t : TA} {dvs : List V} (hdd : ∀ W : Wd, RL X.K W dd dvs []) (k1 : PAr X Wx t kf) : PXr X Wx (tMk (He.ga X.K c) (spX X.K n run) dvs Wx t) (xMake c n dd run kf) := by
  intro σ W ρ μ F S o ho Q hQ
  refine runA_bind k1 S ho hQ fun ds vs W1 ρ1 μ1 F1 ra S1 mv ho1 x dx hx hdx ne => ?_
  by_cases hl : (D.obj c [] [] :: (ds ++ dd)).length = n
  case neg => rw [if_neg hl] at ho1; cases ho1
  rw [if_pos hl] at ho1
  obtain ⟨o2, e4, ho1⟩ := bind_some ho1
  have x1 : Ext W1 (W1.put dx (.own x)) := Ext.put S1.ok hdx
  have hx2 : (W1.put dx (.own x)).H x = none := by
    show upd W1.H dx _ x = none
    rw [upd_ne fun z => ne z.symm]
    exact hx
  have x2 : Ext W1 ((W1.put dx (.own x)).put x (.ins (He.ga X.K c) dx [])) := x1.trans (Ext.put x1.ok hx2)
  have rt : R X.K ((W1.put dx (.own x)).put x (.ins (He.ga X.K c) dx [])) (.obj c [] []) (.ref x) [x] := ⟨x, dx, [], [], rfl, upd_same, rfl, ⟨rfl, rfl⟩, rfl⟩
  have xF : x ∉ F1 := fun z => by
    obtain ⟨_, w⟩ := S1.own x z
    rcases w with ⟨xs, w⟩ | ⟨C, dx, fs, w⟩ <;> rw [hx] at w <;> cases w
  have nofr : ¬ W1.Fr x := fun z => S1.ok x z hx
  have Sf := sta_cons (o := some (.ref x)) (R1_of rt) (S1.ext x2) (List.nodup_cons.mpr ⟨xF, S1.nd⟩) fun b hb => by
    obtain rfl := List.mem_singleton.mp hb
    exact ⟨nofr, .inr ⟨_, dx, _, upd_same⟩⟩
  have mv2 : Mv W ((W1.put dx (.own x)).put x (.ins (He.ga X.K c) dx [])) F ([x] ++ F1) := mv.trans ⟨fun b o h _ => x2.ex b o h, x2.fr, fun b h => (x2.nf b h).elim .inl fun z => .inr (.inl z), fun b hb => (List.mem_cons.mp hb).elim (fun z => .inr (z ▸ hx)) .inl, ⟨[], (List.append_nil _).symm⟩⟩
  have fo2 := (foc_front Sf).trans fun Fc Sc => foc_vals Sc (RL_app (RL_ext x2 ds ra) (hdd _))
  cases o2 with
  | ok d ys μ' =>
    cases ys with
    | nil => cases ho1
    | cons t' ys =>
      cases d with
      | non =>
        have ho3 : (if isUn t' = true then none else some (EO.ok t' ρ1 μ')) = some o := ho1
        by_cases hu : isUn t' = true
        case pos => rw [if_pos hu] at ho3; cases ho3
        rw [if_neg hu] at ho3
        cases ho3
        refine spX_of (Wx := fun cls dx _ H => Wx cls dx σ H) (vs := .ref x :: (vs ++ dvs)) (o := .ok .non (t' :: ρ1) μ') fo2 hl e4 rfl ?_
        intro v W' G F' r S' nd own mv3
        obtain ⟨rfl, rfl⟩ := r
        obtain ⟨G1, F2, r1, S2, e⟩ := sta_tail S'
        subst e
        rw [R1_iff] at r1
        rcases r1 with ⟨z, _⟩ | ⟨v1, ev, r1⟩
        · rw [z] at hu
          exact absurd rfl hu
        injection ev with ev
        subst ev
        exact ⟨rfl, hQ (.ref x) W' G1 F2 r1 S2 nd (fun b hb => S'.own b (List.mem_append_left _ hb)) (mv2.trans mv3)⟩
      | _ => cases ho1
  | ex cx fs ys μ' =>
    cases ys with
    | nil => cases ho1
    | cons t' ys =>
      cases ho1
      exact spX_of (Wx := fun cls dx _ H => Wx cls dx σ H) (vs := .ref x :: (vs ++ dvs)) (o := .ex cx fs (t' :: ρ1) μ') fo2 hl e4 rfl (goes_drop (o := .ex cx fs ρ1 μ') (t := t') (Q := fun v H2 => v = .non ∧ Q (.ref x) H2) hQ mv2)
theorem px_make {c : Str} (O : OkK X.prog X.w X.K X.mg X.base c k n dd run) (hr : Room (k + 1) X.A) (tk : Takes X Wx) (ha : PAX X Wx (e :: es) kf) (hg : Gl X c := by rfl) (hdb : (c == ("__debug__" : Str)) = false := by decide)
    (he : starEach (e :: es) X.env = (false, eval e X.env) :: starEach es X.env := by rfl) (hpl : (backTo pos (starEach es X.env)).any (·.1) = false := by rfl) : PX X Wx (.Call (.Name c p) (e :: es) [] pos) (xMake c n dd run kf) := by
  obtain ⟨f, fd, ps, dvs, us, hF, hb, hv, hdd, M, hm⟩ := O
  obtain ⟨t, pt, k1⟩ := ha
  refine ⟨tMk (He.ga X.K c) (spX X.K n run) dvs Wx t, ⟨fun pins s σ H Q I h => ?_⟩, make_run hdd k1⟩
  refine wpAny_Call_Name_kw (ld_glob I hg hm ?_ hdb)
  refine PySem.W.callWith_K (h₀ := X.base) I.ok.mod.kin M.kp (thn (pt.run pos pins s σ H _ I h) fun us s1 ⟨vs, H1, I1, r, q⟩ => ⟨I1.kIn, ?_⟩) he hpl
  exact runM M hF hr hb hv tk I1 r q
theorem px_make0 {c : Str} (O : OkK X.prog X.w X.K X.mg X.base c k n dd run) (hr : Room (k + 1) X.A) (tk : Takes X Wx) (hg : Gl X c := by rfl) (hdb : (c == ("__debug__" : Str)) = false := by decide) : PX X Wx (.Call (.Name c p) [] [] pos) (xMake c n dd run xaNil) := by
  obtain ⟨f, fd, ps, dvs, us, hF, hb, hv, hdd, M, hm⟩ := O
  refine ⟨tMk (He.ga X.K c) (spX X.K n run) dvs Wx tNil, ⟨fun pins s σ H Q I h => ?_⟩, make_run hdd ?_⟩
  · refine wpAny_Call_Name_kw (ld_glob I hg hm ?_ hdb)
    exact PySem.W.callWith_K0 I.kIn M.kp (runM (us := []) M hF hr hb hv tk I .nil h)
  · intro σ W ρ μ F S o ho Q hQ
    cases ho
    exact hQ [] W F rfl S (Ext.refl S.ok).mvr
/-- a new instance that several will know -/
def xShare (g : FX) : FX := fun ρ μ => (g ρ μ).bind fun o => match o with
  | .ok d ρ1 μ1 => (match d with
    | .obj _ _ _ => some (.ok (.ref μ1.length) ρ1 (μ1 ++ [d]))
    | _ => none)
  | .ex c fs ρ1 μ1 => some (.ex c fs ρ1 μ1)
theorem px_share (h : PX X Wx e g) : PX X Wx e (xShare g) := by
  obtain ⟨te, p, k1⟩ := h
  refine ⟨te, p, fun σ W ρ μ F S o ho Q hQ => ?_⟩
  obtain ⟨o1, e1, ho⟩ := bind_some ho
  refine k1 σ W ρ μ F S o1 e1 _ ?_
  cases o1 with
  | ex c fs ρ1 μ1 =>
    cases ho
    exact hQ
  | ok d ρ1 μ1 =>
    cases d with
    | obj c ns ds =>
      cases ho
      intro v W' G F' r S' nd own mv
      have rt := r
      obtain ⟨a, dx, vs, F0, rfl, hH, hn, hR, hG⟩ := r
      have lt : Lt W' ⟨W'.H, W'.Fr, W'.m ++ [a]⟩ := ⟨fun _ _ z => z, fun _ _ z => z, fun _ _ _ _ z z' => ⟨z, z'⟩, fun k b z => by
        show (W'.m ++ [a])[k]? = some b
        rw [List.getElem?_append_left (List.getElem?_eq_some_iff.mp z).1]
        exact z⟩
      obtain ⟨⟨F1, F2, h1, h2, h3⟩, nd2, own2, ok2⟩ := S'
      subst h3
      have lm : μ1.length = W'.m.length := by
        have := RL_len h2
        rw [List.length_map] at this
        exact this.symm
      have pm : (F1 ++ (F2 ++ G)).Perm (G ++ (F1 ++ F2)) := by
        rw [← List.append_assoc]
        exact List.perm_append_comm
      have r2 : RL X.K ⟨W'.H, W'.Fr, W'.m ++ [a]⟩ (μ1 ++ [.obj c ns ds]) ((W'.m ++ [a]).map V.ref) (F2 ++ G) := by
        rw [List.map_append]
        exact RL_app (RL_same lt rfl μ1 h2) ⟨.ref a, [], G, [], rfl, R_same lt rfl _ rt, ⟨rfl, rfl⟩, (List.append_nil G).symm⟩
      refine hQ (.ref a) ⟨W'.H, W'.Fr, W'.m ++ [a]⟩ [] (F1 ++ (F2 ++ G)) ⟨a, rfl, ?_, rfl⟩ ⟨⟨F1, F2 ++ G, RS_same lt rfl h1, r2, rfl⟩, nodup_of_perm pm nd, fun b hb => ?_, ok2⟩ (nodup_of_perm pm nd) (fun _ hb => nomatch hb) ⟨mv.keep, mv.fr, mv.nf, fun b hb => mv.own b (pm.mem_iff.mp hb), ?_⟩
      · show (W'.m ++ [a])[μ1.length]? = some a
        rw [lm, List.getElem?_append_right (Nat.le_refl _), Nat.sub_self]
        rfl
      · rcases List.mem_append.mp (pm.mem_iff.mp hb) with z | z
        · exact own b z
        · exact own2 b z
      · obtain ⟨l, hl⟩ := mv.m
        exact ⟨l ++ [a], by show W'.m ++ [a] = _; rw [hl, List.append_assoc]⟩
    | _ => cases ho
end
end Fw
/-! # statements that change something -/
namespace Fw
open PySem PySem.Spec PyProof.Rows L2
open Evl (Ex)
/-- by a statement's own end -/
def xS (g : FX) (k : D → FS) : FS := fun ρ μ => (g ρ μ).bind fun o => match o with
  | .ok d ρ1 μ1 => k d ρ1 μ1
  | .ex c fs ρ1 μ1 => some (.ex c fs ρ1 μ1)
section
variable {X : Cx} {Wx : WX} {e a b c o : Expr} {es : List Expr} {f g : FX} {p apos pos pos' : Pos} {kq : FA} {kf : FXA} {x m : Str} {k n i : Nat} {q : List Str} {ok : OkT} {ob : List Nat} {ss ss' : List Stmt} {f1 f2 : FS}
theorem runS_bind {te : TE} {k : D → FS} (h1 : PXr X Wx te g) {E : Ends} {σ : L2.St} {W : Wd} {ρ μ : List D} {F : List Addr} (S : Sta X.K W σ ρ μ F) {o : SO} (ho : xS g k ρ μ = some o) (h : Goes X.K ob Wx E σ W F o) {Q : VK}
    (hk : ∀ d v W1 G ρ1 μ1 F1, R X.K W1 d v G → Sta X.K W1 σ ρ1 μ1 F1 → (G ++ F1).Nodup → (∀ a ∈ G, Own W1 a) → Mv W W1 F (G ++ F1) → k d ρ1 μ1 = some o → Q v W1.H) : te σ W.H Q := by
  obtain ⟨o1, e1, ho⟩ := bind_some ho
  refine h1 σ W ρ μ F S o1 e1 Q ?_
  cases o1 with
  | ok d ρ1 μ1 => exact fun v W1 G F1 r S1 nd own mv => hk d v W1 G ρ1 μ1 F1 r S1 nd own mv ho
  | ex c fs ρ1 μ1 =>
    cases ho
    exact fun dx W' F' r S' mv => h dx σ W' F' r S' mv Kept.refl
/-! ### a name is set, a value is dropped, returned, asked -/
def fSetX (i : Nat) (g : FX) : FS := xS g fun d ρ μ => if isUn d = true then none else some (.nx (ρ.set i d) μ)
theorem R_notun {K : PySem.W.Frag} {W : Wd} {d : D} {v : V} {G : List Addr} (r : R K W d v G) : isUn d = false := by
  cases d <;> first
    | rfl
    | exact r.elim
theorem sta_setG {K : PySem.W.Frag} {W : Wd} {σ : L2.St} {ρ μ : List D} {G F : List Addr} {d : D} {v : V} (r : R K W d v G) (S : Sta K W σ ρ μ F) (nd : (G ++ F).Nodup) (own : ∀ a ∈ G, Own W a) (i : Nat) : ∃ F', Sta K W (σ.set i (some v)) (ρ.set i d) μ F' ∧ ∀ a ∈ F', a ∈ G ++ F := by
  have hl := S.len
  by_cases hi : i < ρ.length
  · obtain ⟨F1, S1, sub1⟩ := S.set (i := i) (d := .un) (o := some v) (show R1 K W .un (some v) [] from rfl)
    have nd1 : (G ++ F1).Nodup := by
      have z := List.nodup_append.mp nd
      exact List.nodup_append.mpr ⟨z.1, S1.nd, fun a ha b hb => z.2.2 a ha b (sub1 b hb)⟩
    have Sf := sta_cons (o := some v) (R1_of r) S1 nd1 own
    obtain ⟨F2, S2, sub2⟩ := sta_in (m := i) Sf (by rw [List.getElem?_set_self (by omega)])
    rw [List.set_set] at S2
    exact ⟨F2, S2, fun a ha => (List.mem_append.mp (sub2 a ha)).elim (List.mem_append_left _) fun z => List.mem_append_right _ (sub1 a z)⟩
  · rw [List.set_eq_of_length_le (by omega), List.set_eq_of_length_le (by omega)]
    exact ⟨F, S, fun a ha => List.mem_append_right _ ha⟩
theorem ps1_setX {i : Nat} {y : Str} {py : Pos} (hN : X.N.Nodup) (hi : X.N[i]? = some y) (hx : Loc X.env.scope y) (he : PX X Wx e g) (hs : swapsWith e (some (.Name y py)) pos.line X.env = pure false := by rfl) (hf : X.fn y = true ∨ X.env.scope.names.lookup y = some .local := by first | exact .inl rfl | exact .inr rfl) (ho : i ∉ ob := by decide) :
    PS1 X ob Wx (.Assign [.Name y py] e pos) (fSetX i g) := by
  obtain ⟨te, p, k⟩ := he
  refine ⟨_, ps_set hN hi hx p hs hf, fun E σ W ρ μ F S o ho1 h => ?_⟩
  refine runS_bind k S ho1 h fun d v W1 G ρ1 μ1 F1 r S1 nd own mv hk => ?_
  rw [if_neg (by rw [R_notun r]; exact Bool.false_ne_true)] at hk
  cases hk
  obtain ⟨F2, S2, sub⟩ := sta_setG r S1 nd own i
  exact h _ W1 F2 S2 (mv.sub (fun _ h => h) sub) (Kept.set ho)
def fSetTX (gt : D → List D → Option (List D)) (g : FX) : FS := xS g fun d ρ μ => if data d = true then (gt d ρ).map fun ρ' => .nx ρ' μ else none
def fExX (g : FX) : FS := xS g fun _ ρ μ => some (.nx ρ μ)
theorem mv_drop {W W1 : Wd} {F G F1 : List Addr} (mv : Mv W W1 F (G ++ F1)) : Mv W W1 F F1 := mv.sub (fun _ h => h) fun a ha => List.mem_append_right _ ha
theorem ps1_exX (he : PX X Wx e g) (hsw : swapsWith e none pos.line X.env = pure false := by rfl) : PS1 X ob Wx (.Expr e pos) (fExX g) := by
  obtain ⟨te, p, k⟩ := he
  refine ⟨_, ps_expr p hsw, fun E σ W ρ μ F S o ho1 h => ?_⟩
  refine runS_bind k S ho1 h fun d v W1 G ρ1 μ1 F1 r S1 nd own mv hk => ?_
  cases hk
  exact h σ W1 F1 S1 (mv_drop mv) Kept.refl
def fRetX (g : FX) : FS := xS g fun d ρ μ => some (.rt d ρ μ)
theorem ps1_retX (he : PX X Wx e g) : PS1 X ob Wx (.Return (some e) pos) (fRetX g) := by
  obtain ⟨te, p, k⟩ := he
  refine ⟨_, ps_ret p, fun E σ W ρ μ F S o ho1 h => ?_⟩
  refine runS_bind k S ho1 h fun d v W1 G ρ1 μ1 F1 r S1 nd own mv hk => ?_
  cases hk
  exact h v σ W1 G F1 r S1 nd own mv Kept.refl
def fIfX (t : FX) (f g : FS) : FS := xS t fun d ρ μ => match d with
  | .bl b => if b = true then f ρ μ else g ρ μ
  | _ => none
theorem ps1_ifX (hc : PTX X Wx e g) (ha : PSS X ob Wx ss f1) (hb : PSS X ob Wx ss' f2) : PS1 X ob Wx (.If e ss ss' pos) (fIfX g f1 f2) := by
  obtain ⟨t0, p0, k0⟩ := hc
  obtain ⟨t1, p1, k1⟩ := ha
  obtain ⟨t2, p2, k2⟩ := hb
  refine ⟨_, ps_if p0 p1 p2, fun E σ W ρ μ F S o ho h => ?_⟩
  obtain ⟨o1, e1, ho⟩ := bind_some ho
  refine k0 σ W ρ μ F S o1 e1 _ ?_
  cases o1 with
  | ok d ρ1 μ1 =>
    cases d with
    | bl b =>
      intro W1 F1 S1 mv
      have ho2 : (if b = true then f1 ρ1 μ1 else f2 ρ1 μ1) = some o := ho
      cases b with
      | true =>
        rw [if_pos rfl] at ho2 ⊢
        exact k1 E σ W1 ρ1 μ1 F1 S1 o ho2 (h.after mv Kept.refl)
      | false =>
        rw [if_neg Bool.false_ne_true] at ho2 ⊢
        exact k2 E σ W1 ρ1 μ1 F1 S1 o ho2 (h.after mv Kept.refl)
    | _ => cases ho
  | ex c fs ρ1 μ1 =>
    cases ho
    exact fun dx W' F' r S' mv => h dx σ W' F' r S' mv Kept.refl
/-! ### a field is set -/
def fFldX (ok : OkT) (i : Nat) (q : List Str) (x : Str) (g : FX) : FS := xS g fun d ρ μ => (ρ[i]?).bind fun r => (pget ok q r).bind fun t => match t with
  | .obj c ns ds => if ok c x = true ∧ ns.length < 1000 then (pput q r (putD x d c ns ds)).map fun r' => .nx (ρ.set i r') μ else none
  | .ref j => match μ[j]? with
    | some (.obj c ns ds) => if ok c x = true ∧ ns.length < 1000 ∧ fl d = true then some (.nx ρ (μ.set j (putD x d c ns ds))) else none
    | _ => none
  | _ => none
theorem zip_len {ns : List Str} {vs : List V} (h : ns.length = vs.length) : (ns.zip vs).length = ns.length := by
  rw [List.length_zip, h, Nat.min_self]
theorem putD_ne {d : D} {c : Str} {ns : List Str} {ds : List D} : isUn (putD x d c ns ds) = false := by
  unfold putD
  cases fidx x ns <;> rfl
theorem fld_run {te : TE} (T : CE X.K ok) {E : Ends} {σ : L2.St} {W W1 : Wd} (h0 : ∀ (Q : VK) (u v : V), σ[i]? = some (some u) → rdp X.K W1.H u q v → Q v W1.H → te σ W1.H Q) {ρ1 μ1 : List D} {F F1 G : List Addr} {d : D} {y : V}
    (ry : R X.K W1 d y G) (S1 : Sta X.K W1 σ ρ1 μ1 F1) (nd : (G ++ F1).Nodup) (own : ∀ a ∈ G, Own W1 a) (mv : Mv W W1 F (G ++ F1)) {o : SO} (h : Goes X.K ob Wx E σ W F o)
    (hk : ((ρ1[i]?).bind fun r => (pget ok q r).bind fun t => match t with
      | .obj c ns ds => if ok c x = true ∧ ns.length < 1000 then (pput q r (putD x d c ns ds)).map fun r' => SO.nx (ρ1.set i r') μ1 else none
      | .ref j => match μ1[j]? with
        | some (.obj c ns ds) => if ok c x = true ∧ ns.length < 1000 ∧ fl d = true then some (.nx ρ1 (μ1.set j (putD x d c ns ds))) else none
        | _ => none
      | _ => none) = some o) :
    te σ W1.H fun z H2 => ∃ a C dx fs, z = .ref a ∧ H2 a = some (.ins C dx fs) ∧ Cls X.K C ∧ NoAttr X.K C x ∧ fs.length < 1000 ∧ E.nx σ (upd H2 a (.ins C dx (putF x y fs))) := by
  obtain ⟨r, e0, hk⟩ := bind_some hk
  obtain ⟨t0, e1, hk⟩ := bind_some hk
  obtain ⟨u, v, hu, hr, Fc, Sc, subc, put⟩ := foc_sp T S1 e0 e1
  refine h0 _ u v hu hr ?_
  obtain ⟨G0, F0, r1, S0, eF⟩ := sta_tail Sc
  rw [R1_iff] at r1
  rcases r1 with ⟨z, _⟩ | ⟨v1, ev, r1⟩
  · have := (pget_ne e1).2
    rw [z] at this
    cases this
  injection ev with ev
  subst ev
  cases t0 with
  | obj c ns ds =>
    have hk2 : (if ok c x = true ∧ ns.length < 1000 then (pput q r (putD x d c ns ds)).map fun r' => SO.nx (ρ1.set i r') μ1 else none) = some o := hk
    by_cases hc : ok c x = true ∧ ns.length < 1000
    case neg => rw [if_neg hc] at hk2; cases hk2
    rw [if_pos hc] at hk2
    obtain ⟨r', e2, z⟩ := map_some hk2
    subst z
    obtain ⟨a, dx, vs, F', rfl, hH, hn, hR, rfl⟩ := r1
    obtain ⟨cl, na⟩ := T c x hc.1
    have lv := RL_len hR
    refine ⟨a, _, dx, _, rfl, hH, cl, na, by rw [zip_len (by rw [hn, lv])]; exact hc.2, ?_⟩
    have nd0 := List.nodup_append.mp nd
    have ndFc := Sc.nd
    rw [eF] at ndFc
    have ndO := List.nodup_append.mp ndFc
    have inFc : ∀ b ∈ a :: F', b ∈ F1 := fun b hb => subc b (by rw [eF]; exact List.mem_append_left _ hb)
    have ndG : (G ++ (a :: F')).Nodup := List.nodup_append.mpr ⟨nd0.1, ndO.1, fun b hb b' hb' => nd0.2.2 b hb b' (inFc b' hb')⟩
    have oa : Own W1 a := S1.own a (inFc a (List.mem_cons_self ..))
    obtain ⟨F'', rn, nd2, sub2⟩ := R_put (x := x) hH hn hR ry ndG oa.1
    obtain ⟨⟨F3, F4, p1, p2, p3⟩, nd3, own3, ok3⟩ := S0
    obtain ⟨_, rfl⟩ := p1
    have e6 : F0 = F4 := p3
    subst e6
    have naF : a ∉ F0 := fun z => ndO.2.2 a (List.mem_cons_self ..) a z rfl
    have lt : Lt W1 ⟨upd W1.H a (.ins (He.ga X.K c) dx (putF x y (ns.zip vs))), W1.Fr, W1.m⟩ := Lt.upd_ins hH oa.1
    have hst : RL X.K ⟨upd W1.H a (.ins (He.ga X.K c) dx (putF x y (ns.zip vs))), W1.Fr, W1.m⟩ μ1 (W1.m.map V.ref) F0 := RL_keep lt μ1 (fun b hb => upd_ne fun z => naF (z ▸ hb)) p2
    have okW : WOk ⟨upd W1.H a (.ins (He.ga X.K c) dx (putF x y (ns.zip vs))), W1.Fr, W1.m⟩ := fun b hb => by
      show upd W1.H a _ b ≠ none
      by_cases z : b = a
      · rw [z, upd_same]
        exact fun z => nomatch z
      · rw [upd_ne z]
        exact S1.ok b hb
    have ownU : ∀ b, Own W1 b → Own ⟨upd W1.H a (.ins (He.ga X.K c) dx (putF x y (ns.zip vs))), W1.Fr, W1.m⟩ b := fun b hb => by
      refine ⟨hb.1, ?_⟩
      show (∃ xs, upd W1.H a _ b = _) ∨ ∃ C dx fs, upd W1.H a _ b = _
      by_cases z : b = a
      · rw [z, upd_same]
        exact .inr ⟨_, _, _, rfl⟩
      · rw [upd_ne z]
        exact hb.2
    have ndN : (F'' ++ F0).Nodup := List.nodup_append.mpr ⟨nd2, ndO.2.1, fun b hb b' hb' z => by
      subst z
      rcases List.mem_append.mp (sub2 b hb) with w | w
      · exact nd0.2.2 b w b (subc b (by rw [eF]; exact List.mem_append_right _ hb')) rfl
      · exact ndO.2.2 b w b hb' rfl⟩
    have ownN : ∀ b ∈ F'' ++ F0, Own W1 b := fun b hb => by
      rcases List.mem_append.mp hb with w | w
      · rcases List.mem_append.mp (sub2 b w) with w | w
        · exact own b w
        · exact S1.own b (inFc b w)
      · exact S1.own b (subc b (by rw [eF]; exact List.mem_append_right _ w))
    have mvU : Mv W1 ⟨upd W1.H a (.ins (He.ga X.K c) dx (putF x y (ns.zip vs))), W1.Fr, W1.m⟩ (G ++ Fc) ([] ++ (F'' ++ F0)) := ⟨fun b o hb nb => by
        show upd W1.H a _ b = some o
        rw [upd_ne fun z => nb (List.mem_append_right _ (by rw [z, eF]; exact List.mem_append_left _ (List.mem_cons_self ..)))]
        exact hb, fun _ h => h, fun _ h => .inl h, fun b hb => .inl (by
        rcases List.mem_append.mp hb with w | w
        · cases w
        · rcases List.mem_append.mp w with w | w
          · rcases List.mem_append.mp (sub2 b w) with w | w
            · exact List.mem_append_left _ w
            · exact List.mem_append_right _ (by rw [eF]; exact List.mem_append_left _ w)
          · exact List.mem_append_right _ (by rw [eF]; exact List.mem_append_right _ w)), ⟨[], (List.append_nil _).symm⟩⟩
    obtain ⟨F9, S9, _, mv9⟩ := put _ [putD x d c ns ds] μ1 (F'' ++ F0) [] G _ (by
        show (pput q r (putD x d c ns ds)).map (fun d' => ρ1.set i d') = some (ρ1.set i r')
        rw [e2]
        rfl) ⟨⟨F'', F0, ⟨some (.ref a), [], F'', [], rfl, R1_of rn, ⟨rfl, rfl⟩, (List.append_nil _).symm⟩, hst, rfl⟩, ndN, fun b hb => ownU b (ownN b hb), okW⟩ ndN (fun _ hb => nomatch hb) (fun b hb => ⟨own b hb, fun z => nd0.2.2 b hb b z rfl⟩) mvU
    exact h σ _ F9 S9 (mv.trans mv9) Kept.refl
  | ref j =>
    have hk2 : (match μ1[j]? with
      | some (.obj c ns ds) => if ok c x = true ∧ ns.length < 1000 ∧ fl d = true then some (SO.nx ρ1 (μ1.set j (putD x d c ns ds))) else none
      | _ => none) = some o := hk
    cases e9 : μ1[j]? with
    | none => rw [e9] at hk2; cases hk2
    | some t2 =>
      rw [e9] at hk2
      cases t2 with
      | obj c ns ds =>
        have hk3 : (if ok c x = true ∧ ns.length < 1000 ∧ fl d = true then some (SO.nx ρ1 (μ1.set j (putD x d c ns ds))) else none) = some o := hk2
        by_cases hc : ok c x = true ∧ ns.length < 1000 ∧ fl d = true
        case neg => rw [if_neg hc] at hk3; cases hk3
        rw [if_pos hc] at hk3
        cases hk3
        have z := R_fl hc.2.2 ry
        subst z
        obtain ⟨a, rfl, h3, hG0⟩ := r1
        obtain ⟨⟨FA, F2, p1, p2, p3⟩, nd3, own3, ok3⟩ := S1
        subst p3
        obtain ⟨v0, A, B, C, q1, q2, q3, q4⟩ := RL_lens p2 e9
        subst q2
        rw [List.getElem?_map, h3] at q1
        injection q1 with q1
        subst q1
        obtain ⟨a2, dx, vs, F', ea, hH, hn, hR, eB⟩ := q3
        injection ea with ea
        subst ea
        obtain ⟨cl, na⟩ := T c x hc.1
        have lv := RL_len hR
        refine ⟨a, _, dx, _, rfl, hH, cl, na, by rw [zip_len (by rw [hn, lv])]; exact hc.2.1, ?_⟩
        subst eB
        have ndAll := List.nodup_append.mp nd3
        have ndB := List.nodup_append.mp ndAll.2.1
        have ndB2 := List.nodup_append.mp ndB.2.1
        have oa : Own W1 a := own3 a (List.mem_append_right _ (List.mem_append_right _ (List.mem_append_left _ (List.mem_cons_self ..))))
        obtain ⟨F'', rn, nd2, sub2⟩ := R_put (x := x) (Gy := []) hH hn hR ry ndB2.1 oa.1
        have sub3 : ∀ b ∈ F'', b ∈ a :: F' := fun b hb => (List.mem_append.mp (sub2 b hb)).elim (fun z => nomatch z) id
        have lt : Lt W1 ⟨upd W1.H a (.ins (He.ga X.K c) dx (putF x y (ns.zip vs))), W1.Fr, W1.m⟩ := Lt.upd_ins hH oa.1
        have off : ∀ b, b ≠ a → (⟨upd W1.H a (.ins (He.ga X.K c) dx (putF x y (ns.zip vs))), W1.Fr, W1.m⟩ : Wd).H b = W1.H b := fun b hb => upd_ne hb
        have aFA : a ∉ FA := fun z => ndAll.2.2 a z a (List.mem_append_right _ (List.mem_append_left _ (List.mem_cons_self ..))) rfl
        have aAC : a ∉ A ++ C := fun z => by
          rcases List.mem_append.mp z with w | w
          · exact ndB.2.2 a w a (List.mem_append_left _ (List.mem_cons_self ..)) rfl
          · exact ndB2.2.2 a (List.mem_cons_self ..) a w rfl
        have rr := q4 _ (putD x d c ns ds) (.ref a) F'' lt (fun b hb => off b fun z => aAC (z ▸ hb)) rn
        have es : (W1.m.map V.ref).set j (.ref a) = W1.m.map V.ref := set_self (by rw [List.getElem?_map, h3]; rfl)
        rw [es] at rr
        have okW : WOk ⟨upd W1.H a (.ins (He.ga X.K c) dx (putF x y (ns.zip vs))), W1.Fr, W1.m⟩ := fun b hb => by
          show upd W1.H a _ b ≠ none
          by_cases z : b = a
          · rw [z, upd_same]
            exact fun z => nomatch z
          · rw [upd_ne z]
            exact ok3 b hb
        have subF : ∀ b ∈ FA ++ (A ++ (F'' ++ C)), b ∈ FA ++ (A ++ ((a :: F') ++ C)) := fun b hb => by
          rcases List.mem_append.mp hb with w | w
          · exact List.mem_append_left _ w
          · refine List.mem_append_right _ ?_
            rcases List.mem_append.mp w with w | w
            · exact List.mem_append_left _ w
            · refine List.mem_append_right _ ?_
              rcases List.mem_append.mp w with w | w
              · exact List.mem_append_left _ (sub3 b w)
              · exact List.mem_append_right _ w
        have ndN : (FA ++ (A ++ (F'' ++ C))).Nodup := List.nodup_append.mpr ⟨ndAll.1, List.nodup_append.mpr ⟨ndB.1, List.nodup_append.mpr ⟨nd2, ndB2.2.1, fun b hb b' hb' => ndB2.2.2 b (sub3 b hb) b' hb'⟩, fun b hb b' hb' => ndB.2.2 b hb b' ((List.mem_append.mp hb').elim (fun w => List.mem_append_left _ (sub3 b' w)) (List.mem_append_right _))⟩, fun b hb b' hb' => by
          have w := subF b' (List.mem_append_right _ hb')
          rcases List.mem_append.mp w with w | w
          · intro e
            subst e
            rcases List.mem_append.mp hb' with z | z
            · exact ndAll.2.2 b hb b (List.mem_append_left _ z) rfl
            · refine ndAll.2.2 b hb b (List.mem_append_right _ ?_) rfl
              rcases List.mem_append.mp z with z | z
              · exact List.mem_append_left _ (sub3 b z)
              · exact List.mem_append_right _ z
          · exact ndAll.2.2 b hb b' w⟩
        refine h σ ⟨upd W1.H a (.ins (He.ga X.K c) dx (putF x y (ns.zip vs))), W1.Fr, W1.m⟩ (FA ++ (A ++ (F'' ++ C))) ⟨⟨FA, _, RS_keep lt (fun b hb => off b fun z => aFA (z ▸ hb)) p1, rr, rfl⟩, ndN, fun b hb => ?_, okW⟩ (mv.trans ⟨fun b o hb nb => ?_, fun _ h => h, fun _ h => .inl h, fun b hb => .inl (List.mem_append_right _ (subF b hb)), ⟨[], (List.append_nil _).symm⟩⟩) Kept.refl
        · have hb1 := own3 b (subF b hb)
          refine ⟨hb1.1, ?_⟩
          show (∃ xs, upd W1.H a _ b = _) ∨ ∃ C dx fs, upd W1.H a _ b = _
          by_cases z : b = a
          · rw [z, upd_same]
            exact .inr ⟨_, _, _, rfl⟩
          · rw [upd_ne z]
            exact hb1.2
        · show upd W1.H a _ b = some o
          rw [upd_ne fun z => nb (List.mem_append_right _ (List.mem_append_right _ (List.mem_append_right _ (List.mem_append_left _ (by rw [z]; exact List.mem_cons_self ..)))))]
          exact hb
      | _ => cases hk2
  | _ => cases hk
theorem ps1_fldX {ep : Expr} (T : CE X.K ok) (hp : PPath X ep i q) (he : PX X Wx e g) (hs : swapsWith e (some (.Attribute ep x pos')) pos.line X.env = pure false := by rfl) : PS1 X ob Wx (.Assign [.Attribute ep x pos'] e pos) (fFldX ok i q x g) := by
  obtain ⟨tv, pv, kv⟩ := he
  obtain ⟨te, pe, k0⟩ := hp
  refine ⟨_, ps_fld pe pv hs, fun E σ W ρ μ F S o ho1 h => ?_⟩
  exact runS_bind kv S ho1 h fun d v W1 G ρ1 μ1 F1 r S1 nd own mv hk => fld_run T (fun Q u v => k0 σ _ Q u v) r S1 nd own mv h hk
/-! ### raise -/
def fRaise (c : Str) : FS := fun ρ μ => some (.ex c [] ρ μ)
theorem ps1_raise {c : Str} {t : L2.St → Hp → XK → Prop} (hc : X.calm = true) (tk : Takes X Wx) (he : PMk X e t) (ht : ∀ (σ : L2.St) (H : Hp) (Q : XK), Q (.ref (He.ga X.K c)) none H → t σ H Q) : PS1 X ob Wx (.Raise (some e) none pos) (fRaise c) :=
  ⟨_, ps_raise hc tk he, fun E σ W ρ μ F S o ho h => by
    cases ho
    exact ht σ W.H _ (h none σ W F (.inl ⟨rfl, rfl⟩) S (Ext.refl S.ok).mvr Kept.refl)⟩
end
end Fw
/-! # defs and methods that only look at what is lent -/
namespace Fw
open PySem PySem.Spec PyProof.Rows L2
open Evl (Ex)
mutual
/-- nothing of it is changed meanwhile -/
def fz : D → D
  | .tup ds => .tup (fzL ds)
  | .lst ds => .lst (fzL ds)
  | .ml ds => .lst (fzL ds)
  | .obj c ns ds => .fo c ns (fzL ds)
  | .fo c ns ds => .fo c ns (fzL ds)
  | d => d
def fzL : List D → List D
  | [] => []
  | d :: ds => fz d :: fzL ds
end
theorem fzL_len : ∀ ds : List D, (fzL ds).length = ds.length
  | [] => rfl
  | d :: ds => congrArg Nat.succ (fzL_len ds)
mutual
theorem fz_data : ∀ d : D, data d = true → fz d = d
  | .non, _ => rfl
  | .bl _, _ => rfl
  | .int _, _ => rfl
  | .str _, _ => rfl
  | .tup ds, h => congrArg D.tup (fzL_data ds h)
  | .lst ds, h => congrArg D.lst (fzL_data ds h)
  | .ml _, h => by cases h
  | .obj _ _ _, h => by cases h
  | .fo _ _ _, h => by cases h
  | .ref _, h => by cases h
  | .un, h => by cases h
theorem fzL_data : ∀ ds : List D, dataL ds = true → fzL ds = ds
  | [], _ => rfl
  | d :: ds, h => by
    obtain ⟨a, b⟩ := Bool.and_eq_true_iff.mp (show (data d && dataL ds) = true from h)
    show fz d :: fzL ds = d :: ds
    rw [fz_data d a, fzL_data ds b]
end
abbrev Wd.all (W : Wd) : Wd := ⟨W.H, fun a => W.H a ≠ none, W.m⟩
theorem Wd.all_ok {W : Wd} : WOk W.all := fun _ h => h
section
variable {K : PySem.W.Frag} {W : Wd}
mutual
theorem R_fz (ok : WOk W) : ∀ (d : D) {v : V} {F : List Addr}, R K W d v F → R K W.all (fz d) v []
  | .non, _, _, h => ⟨h.1, rfl⟩
  | .bl _, _, _, h => ⟨h.1, rfl⟩
  | .int _, _, _, h => ⟨h.1, rfl⟩
  | .str _, _, _, h => ⟨h.1, rfl⟩
  | .tup ds, _, _, h => by
    obtain ⟨a, vs, h1, h2, h3⟩ := h
    exact ⟨a, vs, h1, h2, RL_fz ok ds h3⟩
  | .lst ds, _, _, h => by
    obtain ⟨a, vs, h1, h2, h3, h4⟩ := h
    exact ⟨a, vs, h1, h2.imp (fun z => ⟨z.1, ok a z.2⟩) id, RL_fz ok ds h3, rfl⟩
  | .ml ds, _, _, h => by
    obtain ⟨a, vs, F', h1, h2, h3, h4⟩ := h
    exact ⟨a, vs, h1, .inl ⟨.inl h2, fun z => by rw [show W.H a = some (.lst vs) from h2] at z; cases z⟩, RL_fz ok ds h3, rfl⟩
  | .obj c ns ds, _, _, h => by
    obtain ⟨a, dx, vs, F', h1, h2, h3, h4, h5⟩ := h
    have nf : W.H a ≠ none := by
      rw [h2]
      exact fun z => nomatch z
    exact ⟨a, dx, vs, h1, h2, nf, by rw [fzL_len]; exact h3, RL_fz ok ds h4, rfl⟩
  | .fo c ns ds, _, _, h => by
    obtain ⟨a, dx, vs, h1, h2, h3, h4, h5, h6⟩ := h
    exact ⟨a, dx, vs, h1, h2, ok a h3, by rw [fzL_len]; exact h4, RL_fz ok ds h5, rfl⟩
  | .ref k, _, _, h => by
    obtain ⟨a, h1, h2, h3⟩ := h
    exact ⟨a, h1, h2, rfl⟩
  | .un, _, _, h => h.elim
theorem RL_fz (ok : WOk W) : ∀ (ds : List D) {vs : List V} {F : List Addr}, RL K W ds vs F → RL K W.all (fzL ds) vs []
  | [], _, _, h => ⟨h.1, rfl⟩
  | d :: ds, _, _, h => by
    obtain ⟨v, vs', F1, F2, h1, h2, h3, h4⟩ := h
    exact ⟨v, vs', [], [], h1, R_fz ok d h2, RL_fz ok ds h3, rfl⟩
end
mutual
/-- data without lists -/
def noL : D → Bool
  | .non => true
  | .bl _ => true
  | .int _ => true
  | .str _ => true
  | .tup ds => noLL ds
  | _ => false
def noLL : List D → Bool
  | [] => true
  | d :: ds => noL d && noLL ds
end
mutual
theorem R_noL {W' : Wd} (hH : W'.H = W.H) : ∀ (d : D) {v : V} {F : List Addr}, noL d = true → R K W d v F → R K W' d v []
  | .non, _, _, _, h => ⟨h.1, rfl⟩
  | .bl _, _, _, _, h => ⟨h.1, rfl⟩
  | .int _, _, _, _, h => ⟨h.1, rfl⟩
  | .str _, _, _, _, h => ⟨h.1, rfl⟩
  | .tup ds, _, _, q, h => by
    obtain ⟨a, vs, h1, h2, h3⟩ := h
    exact ⟨a, vs, h1, by rw [hH]; exact h2, RL_noL hH ds q h3⟩
  | .lst _, _, _, q, _ => by cases q
  | .ml _, _, _, q, _ => by cases q
  | .obj _ _ _, _, _, q, _ => by cases q
  | .fo _ _ _, _, _, q, _ => by cases q
  | .ref _, _, _, q, _ => by cases q
  | .un, _, _, q, _ => by cases q
theorem RL_noL {W' : Wd} (hH : W'.H = W.H) : ∀ (ds : List D) {vs : List V} {F : List Addr}, noLL ds = true → RL K W ds vs F → RL K W' ds vs []
  | [], _, _, _, h => ⟨h.1, rfl⟩
  | d :: ds, _, _, q, h => by
    obtain ⟨v, vs', F1, F2, h1, h2, h3, h4⟩ := h
    obtain ⟨qa, qb⟩ := Bool.and_eq_true_iff.mp (show (noL d && noLL ds) = true from q)
    exact ⟨v, vs', [], [], h1, R_noL hH d qa h2, RL_noL hH ds qb h3, rfl⟩
end
/-- what may come back -/
def resF : D → Option D
  | .ml ds => if noLL ds = true then some (.lst ds) else none
  | d => if noL d = true then some d else none
end
theorem resF_noL {d d' : D} (h : resF d = some d') (hn : ∀ ds, d ≠ .ml ds) : noL d = true ∧ d' = d := by
  unfold resF at h
  split at h
  · exact absurd rfl (hn _)
  · by_cases z : noL d = true
    · rw [if_pos z] at h
      exact ⟨z, (Option.some.inj h).symm⟩
    · rw [if_neg z] at h
      cases h
abbrev RF := List D → List D → Option D
def spF (K : PySem.W.Frag) (n : Nat) (run : RF) : Sp := fun vs H Q _ => ∃ (W : Wd) (ds μ : List D) (d : D), W.H = H ∧ WOk W ∧ RL K W ds vs [] ∧ RL K W μ (W.m.map V.ref) [] ∧ ds.length = n ∧ run ds μ = some d ∧
  ∀ v W' G, R K W' d v G → WOk W' → (∀ a ∈ G, Own W' a) → Mv W W' [] G → Q v W'.H
def runF (N : Nat) (f : FS) : RF := fun ds μ => match f (ds ++ List.replicate (N - ds.length) .un) μ with
  | some (.rt d _ _) => some d
  | some (.nx _ _) => some .non
  | _ => none
theorem fnf_def {P : Program} {w : World} {K : PySem.W.Frag} {mg : Str → Option Value} {base : Heap} {nm qual : Str} {params : Arguments} {body : List Stmt} {scope : Scope} {dvs0 : List V} {kws : List (Str × V)} {fa : Addr} {fd : FuncData} {N ps : List Str} {k n : Nat} {f : FS} {run : RF} {ob : List Nat}
    (F : FunD K nm qual params body scope dvs0 kws fa fd) (Sc : FnScope N ps scope) (hn : ps.length = n)
    (h : ∀ (cdv : Value) (A : Around) (outer : List Env) (s : Shared) (H : Hp) (E : XK), Room k (A.deeper (envOfC qual scope s.heap.objs.size fa cdv)) → PSS (cxOf (L2.CX P w) P w K mg base N qual scope fa cdv A outer s H E) ob (fun _ _ _ _ => False) body f)
    (hr : ∀ ds μ d, run ds μ = some d → runF N.length f ds μ = some d) : FnOk P w K mg base (L2.CX P w) (k + 1) fa fd ps (spF K n run) := by
  refine F.ok Sc (fun vs H Q E q => ?_) (fun cdv A outer s H vs Q E hroom q => ?_)
  · obtain ⟨W, ds, μ, d, _, _, r, _, hl, _⟩ := q
    rw [RL_len r, hl, hn]
  · obtain ⟨W, ds, μ, d, hH, okW, r, rm, hl, hrun, q⟩ := q
    subst hH
    obtain ⟨ts, p, kk⟩ := h cdv A outer s W.H E hroom
    refine ⟨ts, p, ?_⟩
    have lv : vs.length = ds.length := RL_len r
    have e0 : L2.start N vs = vs.map some ++ List.replicate (N.length - ds.length) none := by
      unfold L2.start
      rw [lv]
    rw [e0]
    have S : Sta K W (vs.map some ++ List.replicate (N.length - ds.length) none) (ds ++ List.replicate (N.length - ds.length) .un) μ [] := ⟨⟨[], [], RS_start _ r, rm, rfl⟩, List.nodup_nil, (fun _ h => nomatch h), okW⟩
    have hq := hr ds μ d hrun
    unfold runF at hq
    cases e1 : f (ds ++ List.replicate (N.length - ds.length) .un) μ with
    | none => rw [e1] at hq; cases hq
    | some o =>
      rw [e1] at hq
      refine kk _ _ W _ μ [] S o e1 ?_
      cases o with
      | nx ρ' μ' =>
        cases hq
        intro σ' W' F' S' mv kp
        exact q .non W' [] ⟨rfl, rfl⟩ S'.ok (fun _ hb => nomatch hb) (mv.sub (fun _ h => h) fun _ hb => nomatch hb)
      | rt d' ρ' μ' =>
        cases hq
        intro v σ' W' G F' rv S' nd own mv kp
        exact q v W' G rv S'.ok own (mv.sub (fun _ h => h) fun _ hb => List.mem_append_left _ hb)
      | _ => cases hq
def OkF (P : Program) (w : World) (K : PySem.W.Frag) (mg : Str → Option Value) (base : Heap) (x : Str) (k n : Nat) (dd : List D) (run : RF) : Prop :=
  ∃ (f : Addr) (fd : FuncData) (ps : List Str) (dvs : List V) (us : List Value), FnOk P w K mg base (L2.CX P w) k f fd ps (spF K n run) ∧ Binds K fd ps us ∧ Vals dvs us ∧ (∀ W : Wd, RL K W dd dvs []) ∧ mg x = some (.ref f) ∧ PySem.W.keepIn K (.ref f) = true
def OkFM (P : Program) (w : World) (K : PySem.W.Frag) (mg : Str → Option Value) (base : Heap) (c m : Str) (k n : Nat) (dd : List D) (run : RF) : Prop :=
  ∃ (f : Addr) (fd : FuncData) (ps : List Str) (dvs : List V) (us : List Value), FnOk P w K mg base (L2.CX P w) k f fd ps (spF K n run) ∧ Binds K fd ps us ∧ Vals dvs us ∧ (∀ W : Wd, RL K W dd dvs []) ∧ Cls K (He.ga K c) ∧ Meth K (He.ga K c) m f
/-- into a def that only looks, and back -/
theorem look_back {K : PySem.W.Frag} {n : Nat} {run : RF} {W : Wd} {σ : L2.St} {ρ μ ds : List D} {F : List Addr} {vs : List V} {d d' : D} {Q : VK} {E : XK} (S : Sta K W σ ρ μ F) (r : RL K W.all ds vs []) (hn : ds.length = n) (hr : run ds (fzL μ) = some d) (hd : resF d = some d')
    (q : ∀ v W', Ext W W' → R K W' d' v [] → Q v W'.H) : spF K n run vs W.H Q E := by
  obtain ⟨F1, F2, _, h2, _⟩ := S.ex
  refine ⟨W.all, ds, fzL μ, d, rfl, Wd.all_ok, r, RL_fz S.ok μ h2, hn, hr, fun v W2 G rv ok2 own mv => ?_⟩
  have hx : Ext W ⟨W2.H, fun a => W.Fr a ∨ ((W2.Fr a ∨ a ∈ G) ∧ W.H a = none), W.m⟩ := by
    refine ⟨fun a o e => mv.keep a o e (fun z => nomatch z), fun a h => .inl h, fun a h => ?_, rfl, fun a h => ?_⟩
    · rcases h with h | h
      · exact .inl h
      · exact .inr h.2
    · rcases h with h | ⟨h | h, _⟩
      · intro z
        cases e : W.H a with
        | none => exact S.ok a h e
        | some o =>
          have := mv.keep a o e (fun z => nomatch z)
          rw [show W2.H a = none from z] at this
          cases this
      · exact ok2 a h
      · obtain ⟨_, w⟩ := own a h
        intro z
        rcases w with ⟨xs, w⟩ | ⟨C, dx, fs, w⟩ <;> rw [show W2.H a = none from z] at w <;> cases w
  refine q v ⟨W2.H, fun a => W.Fr a ∨ ((W2.Fr a ∨ a ∈ G) ∧ W.H a = none), W.m⟩ hx ?_
  have hH : (⟨W2.H, fun a => W.Fr a ∨ ((W2.Fr a ∨ a ∈ G) ∧ W.H a = none), W.m⟩ : Wd).H = W2.H := rfl
  cases d with
  | ml es =>
    have hd2 : (if noLL es = true then some (D.lst es) else none) = some d' := hd
    by_cases hl : noLL es = true
    case neg => rw [if_neg hl] at hd2; cases hd2
    rw [if_pos hl] at hd2
    cases hd2
    obtain ⟨a, ws, F', h1, h3, h4, h5⟩ := rv
    have ha : a ∈ G := by
      rw [h5]
      exact List.mem_cons_self ..
    have hf : W.Fr a ∨ ((W2.Fr a ∨ a ∈ G) ∧ W.H a = none) := .inr ⟨.inr ha, (mv.own a ha).elim (fun z => nomatch z) id⟩
    exact ⟨a, ws, h1, .inl ⟨.inl h3, hf⟩, RL_noL hH es hl h4, rfl⟩
  | _ =>
    obtain ⟨hl, rfl⟩ := resF_noL hd fun _ z => nomatch z
    exact R_noL hH _ hl rv
def qRunF (n : Nat) (dd : List D) (run : RF) (k : FA) : FQ := fun ρ μ => (k ρ μ).bind fun as => if (fzL as ++ dd).length = n then (run (fzL as ++ dd) (fzL μ)).bind resF else none
section
variable {X : Cx} {Wx : WX} {e o : Expr} {es : List Expr} {p apos pos : Pos} {kq : FA} {x m : Str} {k n : Nat} {dd : List D} {run : RF} {f : FQ}
theorem pq_callF (O : OkF X.prog X.w X.K X.mg X.base x k n dd run) (hr : Room k X.A) (ha : PAQ X (e :: es) kq) (hg : Gl X x := by rfl) (hdb : (x == ("__debug__" : Str)) = false := by decide)
    (he : starEach (e :: es) X.env = (false, eval e X.env) :: starEach es X.env := by rfl) (hpl : (backTo pos (starEach es X.env)).any (·.1) = false := by rfl) : PQ X (.Call (.Name x p) (e :: es) [] pos) (qRunF n dd run kq) := by
  obtain ⟨f, fd, ps, dvs, us, hF, hb, hv, hdd, hm, hk⟩ := O
  obtain ⟨t, pt, k1⟩ := ha
  refine ⟨_, pe_call hF hr hg hm hk hb hv passL pt hdb he hpl, fun σ W ρ μ F S d hd Q q => ?_⟩
  obtain ⟨as, e1, hd⟩ := bind_some hd
  by_cases hl : (fzL as ++ dd).length = n
  case neg => rw [if_neg hl] at hd; cases hd
  rw [if_pos hl] at hd
  obtain ⟨d', e2, hd⟩ := bind_some hd
  refine k1 σ W ρ μ F S as e1 _ fun vs W1 G1 x1 r1 => ?_
  exact look_back (S.ext x1) (RL_app (RL_fz x1.ok as r1) (hdd _)) hl e2 hd fun v W2 x2 r2 => q v W2 [] (x1.trans x2) r2
abbrev MTF := Str → Option RF
def OkMTF (X : Cx) (m : Str) (k n : Nat) (dd : List D) (runs : MTF) : Prop := ∀ c run, runs c = some run → OkFM X.prog X.w X.K X.mg X.base c m k n dd run
def clsO : D → Option (Str × List Str)
  | .obj c ns _ => some (c, ns)
  | .fo c ns _ => some (c, ns)
  | _ => none
def clsOf (μ : List D) : D → Option (Str × List Str)
  | .ref j => (μ[j]?).bind clsO
  | d => clsO d
theorem R_cls {K : PySem.W.Frag} {W : Wd} {t : D} {v : V} {G : List Addr} {z : Str × List Str} (r : R K W t v G) (h : clsO t = some z) : ∃ a dx vs, v = .ref a ∧ W.H a = some (.ins (He.ga K z.1) dx (z.2.zip vs)) := by
  cases t with
  | obj c ns ds =>
    cases h
    obtain ⟨a, dx, vs, F', h1, h2, _⟩ := r
    exact ⟨a, dx, vs, h1, h2⟩
  | fo c ns ds =>
    cases h
    obtain ⟨a, dx, vs, h1, h2, _⟩ := r
    exact ⟨a, dx, vs, h1, h2⟩
  | _ => cases h
def qMethF (m : Str) (n : Nat) (dd : List D) (runs : MTF) (f : FQ) (k : FA) : FQ := fun ρ μ => (f ρ μ).bind fun t => (clsOf μ t).bind fun z => if fidx m z.2 = none then (runs z.1).bind fun run => (k ρ μ).bind fun as => if (fz t :: (fzL as ++ dd)).length = n then (run (fz t :: (fzL as ++ dd)) (fzL μ)).bind resF else none else none
theorem methF_run {te : TE} {t : TA} {runs : MTF} (OM : OkMTF X m k n dd runs) (h0 : ∀ (σ : L2.St) (W : Wd) (ρ μ : List D) (F : List Addr), Sta X.K W σ ρ μ F → ∀ d, f ρ μ = some d → ∀ Q : VK, (∀ v W' G, Ext W W' → R X.K W' d v G → Q v W'.H) → te σ W.H Q)
    (k1 : ∀ (σ : L2.St) (W : Wd) (ρ μ : List D) (F : List Addr), Sta X.K W σ ρ μ F → ∀ ds, kq ρ μ = some ds → ∀ Q : List V → Hp → Prop, (∀ vs W' G, Ext W W' → RL X.K W' ds vs G → Q vs W'.H) → t σ W.H Q)
    {σ : L2.St} {W : Wd} {ρ μ : List D} {F : List Addr} (S : Sta X.K W σ ρ μ F) {d : D} (hd : qMethF m n dd runs f kq ρ μ = some d) {Q : VK} (q : ∀ v W' G, Ext W W' → R X.K W' d v G → Q v W'.H) : tMX X (fun _ _ _ _ => False) m k te t σ W.H Q := by
  obtain ⟨t0, e0, hd⟩ := bind_some hd
  obtain ⟨z, e1, hd⟩ := bind_some hd
  by_cases hf : fidx m z.2 = none
  case neg => rw [if_neg hf] at hd; cases hd
  rw [if_pos hf] at hd
  obtain ⟨run, e2, hd⟩ := bind_some hd
  obtain ⟨as, e3, hd⟩ := bind_some hd
  by_cases hl : (fz t0 :: (fzL as ++ dd)).length = n
  case neg => rw [if_neg hl] at hd; cases hd
  rw [if_pos hl] at hd
  obtain ⟨d', e4, hd⟩ := bind_some hd
  obtain ⟨g, fd, ps, dvs, us, hF, hb, hv, hdd, hc, hm⟩ := OM z.1 run e2
  refine h0 σ W ρ μ F S t0 e0 _ fun v W1 G1 x1 r1 => ?_
  have S1 := S.ext x1
  have hv2 : ∃ a dx vs, v = .ref a ∧ W1.H a = some (.ins (He.ga X.K z.1) dx (z.2.zip vs)) := by
    cases t0 with
    | ref j =>
      obtain ⟨t2, e5, e6⟩ := bind_some (show (μ[j]?).bind clsO = some z from e1)
      obtain ⟨a, rfl, h3, _⟩ := r1
      obtain ⟨F1, F2, _, h4, _⟩ := S1.ex
      obtain ⟨a', G', h5, h6, _⟩ := RL_map_get h4 e5
      rw [h3] at h5
      cases h5
      exact R_cls h6 e6
    | _ => exact R_cls r1 e1
  obtain ⟨a, dx, vs0, rfl, hH⟩ := hv2
  refine ⟨a, _, dx, _, g, fd, ps, _, dvs, us, rfl, hH, hc, hm, fidx_none hf, hF, hb, hv, ?_⟩
  refine k1 σ W1 ρ μ F S1 as e3 _ fun vs W2 G2 x2 r2 => ?_
  exact look_back (ds := fz t0 :: (fzL as ++ dd)) (vs := .ref a :: (vs ++ dvs)) (S1.ext x2) ⟨.ref a, vs ++ dvs, [], [], rfl, R_fz x2.ok t0 (R_ext x2 t0 r1), RL_app (RL_fz x2.ok as r2) (hdd _), rfl⟩ hl e4 hd fun v W3 x3 r3 => q v W3 [] ((x1.trans x2).trans x3) r3
theorem pq_methF {pl : Sem Bool} {runs : MTF} (OM : OkMTF X m k n dd runs) (hp : PQ X o f) (hr : Room k X.A) (ha : PAQ X (e :: es) kq)
    (hst : starEach (e :: es) X.env = (false, eval e X.env) :: starEach es X.env := by rfl) (hpl : (backTo pos (starEach es X.env)).any (·.1) = false := by rfl)
    (ht : eval (.Call (.Attribute o m apos) (e :: es) [] pos) X.env = (do
      let ov ← eval o X.env
      standAt apos.atName
      let (f, first) ← holding [ov] (getMethod ov m pl)
      callWith pos f first (backTo pos (starEach (e :: es) X.env)) (backToKw pos (keywordEach [] X.env))) := by rfl) :
    PQ X (.Call (.Attribute o m apos) (e :: es) [] pos) (qMethF m n dd runs f kq) := by
  obtain ⟨t, pt, k1⟩ := ha
  obtain ⟨te, pe, k0⟩ := hp
  exact ⟨_, pe_mx pe hr takes0 pt hst hpl ht, fun σ W ρ μ F S d hd Q q => methF_run OM k0 k1 S hd q⟩
theorem pq_methF0 {pl : Sem Bool} {runs : MTF} (OM : OkMTF X m k n dd runs) (hp : PQ X o f) (hr : Room k X.A)
    (ht : eval (.Call (.Attribute o m apos) [] [] pos) X.env = (do
      let ov ← eval o X.env
      standAt apos.atName
      let (f, first) ← holding [ov] (getMethod ov m pl)
      callWith pos f first (backTo pos (starEach [] X.env)) (backToKw pos (keywordEach [] X.env))) := by rfl) :
    PQ X (.Call (.Attribute o m apos) [] [] pos) (qMethF m n dd runs f aNil) := by
  obtain ⟨te, pe, k0⟩ := hp
  refine ⟨_, pe_mx0 pe hr takes0 ht, fun σ W ρ μ F S d hd Q q => methF_run (kq := aNil) (t := tNil) OM k0 (fun σ W ρ μ F S ds hd Q q => ?_) S hd q⟩
  cases hd
  exact q [] W [] (Ext.refl S.ok) ⟨rfl, rfl⟩
end
end Fw
/-! # more statements; tables -/
namespace Fw
open PySem PySem.Spec PyProof.Rows L2
open Evl (Ex)
section
variable {X : Cx} {Wx : WX} {e a b c o ep : Expr} {es : List Expr} {f g : FX} {p apos pos pos' tpos : Pos} {kq : FA} {kf : FXA} {x m : Str} {k n i : Nat} {q : List Str} {ok : OkT} {ob : List Nat} {qq : FQ}
/-! ### o.x += e, o.x -= e of whole numbers -/
def iAdd : D → D → Option D
  | .int a, .int b => some (.int (a + b))
  | _, _ => none
def iSub : D → D → Option D
  | .int a, .int b => some (.int (a - b))
  | _, _ => none
def xAug (ok : OkT) (i : Nat) (q : List Str) (x : Str) (op : D → D → Option D) (f : FQ) : FX := fun ρ μ => (ρ[i]?).bind fun r => (pget ok q r).bind fun t => (dFld ok x μ t).bind fun a => (f ρ μ).bind fun b => (op a b).map fun d => .ok d ρ μ
def fFldAug (ok : OkT) (i : Nat) (q : List Str) (x : Str) (op : D → D → Option D) (f : FQ) : FS := fFldX ok i q x (xAug ok i q x op f)
theorem ps1_fldaug {op : Operator} {o2 : D → D → Option D} {rd : V → V → Hp → VK → Prop} (T : CE X.K ok) (hop : InOp X op rd) (h2 : ∀ u v d (W : Wd), o2 u v = some d → ∃ z, fl d = true ∧ R X.K W d z [] ∧ ∀ u' v' F G, R X.K W u u' F → R X.K W v v' G → ∀ Q : VK, Q z W.H → rd u' v' W.H Q) (hp : PPath X ep i q) (he : PQ X e qq) :
    PS1 X ob Wx (.AugAssign (.Attribute ep x tpos) op e pos) (fFldAug ok i q x o2 qq) := by
  obtain ⟨tv, pv, kv⟩ := he
  obtain ⟨te, pe, k0⟩ := hp
  refine ⟨_, ps_fldaug pe pv hop, fun E σ W ρ μ F S o ho h => ?_⟩
  obtain ⟨o1, e1, ho⟩ := bind_some ho
  obtain ⟨r, e2, e1⟩ := bind_some e1
  obtain ⟨t, e3, e1⟩ := bind_some e1
  obtain ⟨a, e4, e1⟩ := bind_some e1
  obtain ⟨b, e5, e1⟩ := bind_some e1
  obtain ⟨d, e6, z⟩ := map_some e1
  subst z
  -- the field, read
  have rdq : ∀ (W1 : Wd) (S1 : Sta X.K W1 σ ρ μ F), ∃ u v ad C dx fs w G, σ[i]? = some (some u) ∧ rdp X.K W1.H u q v ∧ v = .ref ad ∧ W1.H ad = some (.ins C dx fs) ∧ Cls X.K C ∧ NoAttr X.K C x ∧ fs.lookup x = some w ∧ R X.K W1 a w G := by
    intro W1 S1
    obtain ⟨u, v, hu, hr, Fc, Sc, _, _⟩ := foc_sp T S1 e2 e3
    obtain ⟨G0, F0, r1, _, _⟩ := sta_tail Sc
    rw [R1_iff] at r1
    rcases r1 with ⟨z, _⟩ | ⟨v1, ev, r1⟩
    · have := (pget_ne e3).2
      rw [z] at this
      cases this
    injection ev with ev
    subst ev
    have main : ∀ (t : D) (G : List Addr) (u : V), R X.K W1 t u G → dFo ok x t = some a → ∃ ad C dx fs w G, u = .ref ad ∧ W1.H ad = some (.ins C dx fs) ∧ Cls X.K C ∧ NoAttr X.K C x ∧ fs.lookup x = some w ∧ R X.K W1 a w G := by
      intro t G u r he
      cases t with
      | obj c ns ds =>
        have he2 : (if ok c x = true then (fidx x ns).bind fun i => ds[i]? else none) = some a := he
        by_cases hk : ok c x = true
        case neg => rw [if_neg hk] at he2; cases he2
        rw [if_pos hk] at he2
        obtain ⟨j, h1, h2⟩ := bind_some he2
        obtain ⟨ad, dx, vs, F', rfl, hH, hn, hR, rfl⟩ := r
        obtain ⟨w, G1, q1, q2, _⟩ := RL_get hR h2
        obtain ⟨cl, na⟩ := T c x hk
        exact ⟨ad, _, dx, _, w, G1, rfl, hH, cl, na, by rw [fidx_lookup h1 (by rw [hn, RL_len hR])]; exact q1, q2⟩
      | fo c ns ds =>
        have he2 : (if ok c x = true then (fidx x ns).bind fun i => ds[i]? else none) = some a := he
        by_cases hk : ok c x = true
        case neg => rw [if_neg hk] at he2; cases he2
        rw [if_pos hk] at he2
        obtain ⟨j, h1, h2⟩ := bind_some he2
        obtain ⟨ad, dx, vs, rfl, hH, _, hn, hR, rfl⟩ := r
        obtain ⟨w, G1, q1, q2, _⟩ := RL_get hR h2
        obtain ⟨cl, na⟩ := T c x hk
        exact ⟨ad, _, dx, _, w, G1, rfl, hH, cl, na, by rw [fidx_lookup h1 (by rw [hn, RL_len hR])]; exact q1, q2⟩
      | _ => cases he
    cases t with
    | ref j =>
      obtain ⟨t2, e7, e8⟩ := bind_some (show (μ[j]?).bind (dFo ok x) = some a from e4)
      obtain ⟨ad, rfl, h3, _⟩ := r1
      obtain ⟨F1, F2, _, h4, _⟩ := S1.ex
      obtain ⟨ad', G', h5, h6, _⟩ := RL_map_get h4 e7
      rw [h3] at h5
      cases h5
      obtain ⟨ad2, C, dx, fs, w, G2, z1, z2⟩ := main t2 G' _ h6 e8
      exact ⟨u, _, ad2, C, dx, fs, w, G2, hu, hr, z1, z2⟩
    | _ =>
      obtain ⟨ad2, C, dx, fs, w, G2, z1, z2⟩ := main _ _ _ r1 e4
      exact ⟨u, _, ad2, C, dx, fs, w, G2, hu, hr, z1, z2⟩
  obtain ⟨u, v, ad, C, dx, fs, w, G, hu, hr, rfl, hH, cl, na, hl, rw_⟩ := rdq W S
  refine k0 σ W.H _ u _ hu hr ⟨ad, C, dx, fs, w, rfl, hH, cl, na, hl, ?_⟩
  refine kv σ W ρ μ F S b e5 _ fun y W1 G1 x1 r1 => ?_
  obtain ⟨z, hfl, rz, hrd⟩ := h2 a b d W1 e6
  refine hrd w y G G1 (R_ext x1 a rw_) r1 _ ?_
  have S1 := S.ext x1
  have run := fld_run (te := fun _ H Q => Q (.ref ad) H) (E := E) (F := F) (G := []) (x := x) (q := q) (ok := ok) (i := i) (d := d) (y := z) (ob := ob) (Wx := Wx) T (fun Q u' v' hu' hr' hQ => by
    rw [hu] at hu'
    cases hu'
    have ev : v' = .ref ad := rdp_det hr' (rdp_ex x1.ex hr)
    rw [ev] at hQ
    exact hQ) rz S1 S1.nd (fun _ hb => nomatch hb) x1.mvr h (by
      show ((ρ[i]?).bind fun r => (pget ok q r).bind _) = _
      exact ho)
  obtain ⟨a2, C2, dx2, fs2, ea, h3, _, _, h4, h5⟩ := run
  cases ea
  have e := h3
  rw [x1.ex _ _ hH] at e
  cases e
  exact ⟨_, _, h3, h4, h5⟩
theorem aug_add (W : Wd) (u v d : D) (h : iAdd u v = some d) : ∃ z, fl d = true ∧ R X.K W d z [] ∧ ∀ u' v' F G, R X.K W u u' F → R X.K W v v' G → ∀ Q : VK, Q z W.H → rAdd u' v' W.H Q := by
  cases u with
  | int a =>
    cases v with
    | int b =>
      cases h
      refine ⟨.int (a + b), rfl, ⟨rfl, rfl⟩, fun u' v' F G r1 r2 Q hQ => ?_⟩
      obtain ⟨rfl, _⟩ := r1
      obtain ⟨rfl, _⟩ := r2
      exact ⟨a, b, rfl, rfl, hQ⟩
    | _ => cases h
  | _ => cases h
theorem aug_sub (W : Wd) (u v d : D) (h : iSub u v = some d) : ∃ z, fl d = true ∧ R X.K W d z [] ∧ ∀ u' v' F G, R X.K W u u' F → R X.K W v v' G → ∀ Q : VK, Q z W.H → rSub u' v' W.H Q := by
  cases u with
  | int a =>
    cases v with
    | int b =>
      cases h
      refine ⟨.int (a - b), rfl, ⟨rfl, rfl⟩, fun u' v' F G r1 r2 Q hQ => ?_⟩
      obtain ⟨rfl, _⟩ := r1
      obtain ⟨rfl, _⟩ := r2
      exact ⟨a, b, rfl, rfl, hQ⟩
    | _ => cases h
  | _ => cases h
theorem ps1_fldadd (T : CE X.K ok) (hp : PPath X ep i q) (he : PQ X e qq) : PS1 X ob Wx (.AugAssign (.Attribute ep x tpos) .Add e pos) (fFldAug ok i q x iAdd qq) := ps1_fldaug T in_add (fun u v d W h => aug_add W u v d h) hp he
theorem ps1_fldsub (T : CE X.K ok) (hp : PPath X ep i q) (he : PQ X e qq) : PS1 X ob Wx (.AugAssign (.Attribute ep x tpos) .Sub e pos) (fFldAug ok i q x iSub qq) := ps1_fldaug T in_sub (fun u v d W h => aug_sub W u v d h) hp he
/-! ### o.xs.append(e) -/
def fAppF (ok : OkT) (i : Nat) (q : List Str) (f : FQ) : FS := fun ρ μ => (ρ[i]?).bind fun r => (pget ok q r).bind fun t => match t with
  | .ml ds => (f ρ μ).bind fun d => if data d = true ∧ ds.length ≤ LIM then (pput q r (.ml (ds ++ [d]))).map fun r' => .nx (ρ.set i r') μ else none
  | _ => none
theorem ps1_appF (T : CE X.K ok) (hp : PPath X ep i q) (hcall : ∀ (to te : TE), PE X ep to → PE X e te → PE X (.Call (.Attribute ep "append" apos) [e] [] p) (tBM X.K "list" rAppend to (tCons te tNil))) (he : PQ X e qq)
    (hsw : swapsWith (.Call (.Attribute ep "append" apos) [e] [] p) none pos.line X.env = pure false := by rfl) : PS1 X ob Wx (.Expr (.Call (.Attribute ep "append" apos) [e] [] p) pos) (fAppF ok i q qq) := by
  obtain ⟨te, pe, kv⟩ := he
  obtain ⟨to, po, k0⟩ := hp
  refine ⟨_, ps_expr (hcall to te po pe) hsw, fun E σ W ρ μ F S o ho h => ?_⟩
  obtain ⟨r, e2, ho⟩ := bind_some ho
  obtain ⟨t, e3, ho⟩ := bind_some ho
  cases t with
  | ml ds =>
    obtain ⟨d, e1, ho⟩ := bind_some (show (qq ρ μ).bind (fun d => if data d = true ∧ ds.length ≤ LIM then (pput q r (.ml (ds ++ [d]))).map fun r' => SO.nx (ρ.set i r') μ else none) = some o from ho)
    by_cases hd : data d = true ∧ ds.length ≤ LIM
    case neg => rw [if_neg hd] at ho; cases ho
    rw [if_pos hd] at ho
    obtain ⟨r', e4, z⟩ := map_some ho
    subst z
    obtain ⟨u, v, hu, hr, Fc, Sc, _, _⟩ := foc_sp T S e2 e3
    obtain ⟨G0, F0, r1, _, _⟩ := sta_tail Sc
    rw [R1_iff] at r1
    rcases r1 with ⟨z, _⟩ | ⟨v1, ev, r1⟩
    · cases z
    injection ev with ev
    subst ev
    obtain ⟨ad, vs, F', rfl, h2, h3, hB⟩ := r1
    refine k0 σ W.H _ u _ hu hr ⟨.inl ⟨rfl, vs, Evl.sq_of h2⟩, ?_⟩
    refine kv σ W ρ μ F S d e1 _ fun y W1 G x1 r1 => ?_
    have z := R_data d hd.1 r1
    subst z
    have S1 := S.ext x1
    obtain ⟨u', v', hu', hr', Fc, Sc, subc, put⟩ := foc_sp T S1 e2 e3
    rw [hu] at hu'
    cases hu'
    have ev : v' = .ref ad := rdp_det hr' (rdp_ex x1.ex hr)
    subst ev
    obtain ⟨G0, F0, r2, S0, eF⟩ := sta_tail Sc
    rw [R1_iff] at r2
    rcases r2 with ⟨z, _⟩ | ⟨v1, ev, r2⟩
    · cases z
    injection ev with ev
    subst ev
    obtain ⟨a2, vs2, F2, ea, h4, h5, hB2⟩ := r2
    cases ea
    rw [x1.ex _ _ h2] at h4
    cases h4
    subst hB2
    have lv : vs.length = ds.length := RL_len h5
    obtain ⟨⟨F3, F4, p1, p2, p3⟩, nd3, own3, ok3⟩ := S0
    obtain ⟨_, rfl⟩ := p1
    have e6 : F0 = F4 := p3
    subst e6
    have ndFc := Sc.nd
    rw [eF] at ndFc
    have ndO := List.nodup_append.mp ndFc
    have nd2 := List.nodup_cons.mp ndO.1
    have ha : Own W1 ad := S1.own ad (subc ad (by rw [eF]; exact List.mem_append_left _ (List.mem_cons_self ..)))
    have lt : Lt W1 ⟨upd W1.H ad (.lst (vs ++ [y])), W1.Fr, W1.m⟩ := Lt.upd_lst (x1.ex _ _ h2) ha.1
    have off : ∀ b, b ≠ ad → (⟨upd W1.H ad (.lst (vs ++ [y])), W1.Fr, W1.m⟩ : Wd).H b = W1.H b := fun b hb => upd_ne hb
    have naF : ad ∉ F0 := fun z => ndO.2.2 ad (List.mem_cons_self ..) ad z rfl
    have rn : R X.K ⟨upd W1.H ad (.lst (vs ++ [y])), W1.Fr, W1.m⟩ (.ml (ds ++ [d])) (.ref ad) (ad :: F2) := ⟨ad, vs ++ [y], F2, rfl, upd_same, by
      have k1 : RL X.K ⟨upd W1.H ad (.lst (vs ++ [y])), W1.Fr, W1.m⟩ ds vs F2 := RL_keep lt ds (fun b hb => off b fun z => nd2.1 (z ▸ hb)) h5
      have k2 : RL X.K ⟨upd W1.H ad (.lst (vs ++ [y])), W1.Fr, W1.m⟩ [d] [y] [] := ⟨y, [], [], [], rfl, R_lt lt d r1, ⟨rfl, rfl⟩, rfl⟩
      have z := RL_app k1 k2
      rw [List.append_nil] at z
      exact z, rfl⟩
    have hst : RL X.K ⟨upd W1.H ad (.lst (vs ++ [y])), W1.Fr, W1.m⟩ μ (W1.m.map V.ref) F0 := RL_keep lt μ (fun b hb => off b fun z => naF (z ▸ hb)) p2
    obtain ⟨F9, S9, _, mv9⟩ := put ⟨upd W1.H ad (.lst (vs ++ [y])), W1.Fr, W1.m⟩ [.ml (ds ++ [d])] μ ((ad :: F2) ++ F0) [] [] _ (by
        show (pput q r (.ml (ds ++ [d]))).map (fun d' => ρ.set i d') = some (ρ.set i r')
        rw [e4]
        rfl) ⟨⟨ad :: F2, F0, ⟨some (.ref ad), [], ad :: F2, [], rfl, R1_of rn, ⟨rfl, rfl⟩, (List.append_nil _).symm⟩, hst, rfl⟩, ndFc, fun b hb => by
          have hb1 := Sc.own b (by rw [eF]; exact hb)
          refine ⟨hb1.1, ?_⟩
          show (∃ xs, upd W1.H ad _ b = _) ∨ ∃ C dx fs, upd W1.H ad _ b = _
          by_cases z : b = ad
          · rw [z, upd_same]
            exact .inl ⟨_, rfl⟩
          · rw [upd_ne z]
            exact hb1.2, fun b hb => by
          show upd W1.H ad _ b ≠ none
          by_cases z : b = ad
          · rw [z, upd_same]
            exact fun z => nomatch z
          · rw [upd_ne z]
            exact x1.ok b hb⟩ ndFc (fun _ hb => nomatch hb) (fun _ hb => nomatch hb) ⟨fun b o hb nb => by
        show upd W1.H ad _ b = some o
        rw [upd_ne fun z => nb (by rw [z, eF]; exact List.mem_append_right _ (List.mem_append_left _ (List.mem_cons_self ..)))]
        exact hb, fun _ h => h, fun _ h => .inl h, fun b hb => .inl (by rw [eF]; exact hb), ⟨[], (List.append_nil _).symm⟩⟩
    exact ⟨ad, vs, y, rfl, rfl, x1.ex _ _ h2, lim_lt (by omega), h σ _ F9 S9 (x1.mvr.trans mv9) Kept.refl⟩
  | _ => cases ho
/-! ### list(e) -/
def qListOf (f : FQ) : FA := fun ρ μ => (f ρ μ).bind fun d => (seqD d).bind fun ds => if dataL ds = true then some ds else none
theorem pn_list {px : Pos} (he : PQ X e qq) (hm : X.mg "list" = none) (hg : Gl X "list" := by rfl) (hv : bootBuiltins "list" = some (.type "list") := by decide +kernel) (hs : starEach [e] X.env = (false, eval e X.env) :: starEach [] X.env := by rfl) (hpl : (backTo pos (starEach [] X.env)).any (·.1) = false := by rfl) :
    PN X (.Call (.Name "list" px) [e] [] pos) (qListOf qq) := by
  obtain ⟨te, pe, kv⟩ := he
  refine ⟨_, pe_callTy call_list_of hg hm hv (pa_cons pe pa_nil hs) (by decide) (by decide) hs hpl, fun σ W ρ μ F S ds hd Q q => ?_⟩
  obtain ⟨d, e1, hd⟩ := bind_some hd
  obtain ⟨es, e2, hd⟩ := bind_some hd
  by_cases hl : dataL es = true
  case neg => rw [if_neg hl] at hd; cases hd
  rw [if_pos hl] at hd
  cases hd
  refine kv σ W ρ μ F S d e1 _ fun y W1 G x1 r1 => ?_
  obtain ⟨a, vs, G', rfl, h2, h3⟩ := R_seq e2 r1
  have z := RL_data _ hl h3
  subst z
  refine ⟨a, vs, rfl, h2, fun l hl2 => ?_⟩
  have x2 : Ext W1 (W1.put l (.lst vs)) := Ext.put x1.ok hl2
  exact q l (W1.put l (.lst vs)) ⟨x1.trans x2, Evl.fresh_back x1.ex hl2, fun z => x1.ok l z hl2, vs, upd_same, RL_ext x2 _ h3⟩
end
/-! ### tables -/
def okT (L : List (Str × Str)) : OkT := fun c x => L.any fun p => decide (p.1 = c ∧ p.2 = x)
theorem ce_of {K : PySem.W.Frag} {L : List (Str × Str)} (h : ∀ p ∈ L, Cls K (He.ga K p.1) ∧ NoAttr K (He.ga K p.1) p.2) : CE K (okT L) := fun c x hk => by
  obtain ⟨p, hp, h2⟩ := List.any_eq_true.mp hk
  obtain ⟨rfl, rfl⟩ := of_decide_eq_true h2
  exact h p hp
section
variable {P : Program} {w : World} {K : PySem.W.Frag} {mg : Str → Option Value} {base : Heap} {x c m : Str} {j k n : Nat} {dd : List D}
theorem OkQ.mono {run : List D → Option D} (h : OkQ P w K mg base x j n dd run) (hk : j ≤ k) : OkQ P w K mg base x k n dd run := by
  obtain ⟨f, fd, ps, dvs, us, a1, a2⟩ := h
  exact ⟨f, fd, ps, dvs, us, a1.mono hk, a2⟩
theorem OkX.mono {run : RX} (h : OkX P w K mg base x j n dd run) (hk : j ≤ k) : OkX P w K mg base x k n dd run := by
  obtain ⟨f, fd, ps, dvs, us, a1, a2⟩ := h
  exact ⟨f, fd, ps, dvs, us, a1.mono hk, a2⟩
theorem OkM.mono {run : RX} (h : OkM P w K mg base c m j n dd run) (hk : j ≤ k) : OkM P w K mg base c m k n dd run := by
  obtain ⟨f, fd, ps, dvs, us, a1, a2⟩ := h
  exact ⟨f, fd, ps, dvs, us, a1.mono hk, a2⟩
theorem OkK.mono {run : RX} (h : OkK P w K mg base c j n dd run) (hk : j ≤ k) : OkK P w K mg base c k n dd run := by
  obtain ⟨f, fd, ps, dvs, us, a1, a2⟩ := h
  exact ⟨f, fd, ps, dvs, us, a1.mono hk, a2⟩
theorem OkF.mono {run : RF} (h : OkF P w K mg base x j n dd run) (hk : j ≤ k) : OkF P w K mg base x k n dd run := by
  obtain ⟨f, fd, ps, dvs, us, a1, a2⟩ := h
  exact ⟨f, fd, ps, dvs, us, a1.mono hk, a2⟩
theorem OkFM.mono {run : RF} (h : OkFM P w K mg base c m j n dd run) (hk : j ≤ k) : OkFM P w K mg base c m k n dd run := by
  obtain ⟨f, fd, ps, dvs, us, a1, a2⟩ := h
  exact ⟨f, fd, ps, dvs, us, a1.mono hk, a2⟩
end
/-- a table by the class's name -/
def tbl {α : Type} (L : List (Str × α)) : Str → Option α := fun c => match L with
  | [] => none
  | (d, a) :: L => if d = c then some a else tbl L c
theorem tbl_ok {α : Type} {p : Str → α → Prop} : ∀ {L : List (Str × α)}, (∀ z ∈ L, p z.1 z.2) → ∀ c a, tbl L c = some a → p c a
  | [], _, c, a, h => by cases h
  | (d, b) :: L, hp, c, a, h => by
    have h2 : (if d = c then some b else tbl L c) = some a := h
    by_cases e : d = c
    · rw [if_pos e] at h2
      cases h2
      exact e ▸ hp _ (List.mem_cons_self ..)
    · rw [if_neg e] at h2
      exact tbl_ok (fun z hz => hp z (List.mem_cons_of_mem _ hz)) c a h2
end Fw
/-! # the law that looks; quiet defs within what changes; reckoning -/
namespace Fw
open PySem PySem.Spec PyProof.Rows L2
open Evl (Ex)
theorem hob_of {ks : List Bool} {ob : List Nat} (h : ((List.range ks.length).all fun i => !(ks.getD i false) || ob.contains i) = true) : ∀ i : Nat, ks[i]? = some true → i ∈ ob := fun i hi => by
  have hl := (List.getElem?_eq_some_iff.mp hi).1
  have := List.all_eq_true.mp h i (List.mem_range.mpr hl)
  rw [List.getD_eq_getElem?_getD, hi] at this
  simpa using this
theorem law_spF {K : PySem.W.Frag} {run : RF} {H : Hp} {a : Addr} {ns : List Int} {E : XK} (hS : SqL K H a (ns.map V.int)) (hr : run [.lst (ns.map D.int)] [] = some (.bl true)) : spF K 1 run [.ref a] H (fun v _ => v = .bl true) E := by
  have rl : ∀ (W : Wd) (l : List Int), RL K W (l.map D.int) (l.map V.int) [] := fun W l => by
    induction l with
    | nil => exact ⟨rfl, rfl⟩
    | cons i l ih => exact rl_int ih
  refine ⟨⟨H, fun b => H b ≠ none, []⟩, [.lst (ns.map D.int)], [], .bl true, rfl, fun b h => h, ⟨.ref a, [], [], [], rfl, ⟨a, _, rfl, ?_, rl _ ns, rfl⟩, ⟨rfl, rfl⟩, rfl⟩, ⟨rfl, rfl⟩, rfl, hr, fun v W' G r _ _ _ => r.1⟩
  rcases hS with h | h
  · refine .inl ⟨h, ?_⟩
    rcases h with h | ⟨o, h⟩
    · show H a ≠ none
      rw [h]
      exact fun z => nomatch z
    · show H a ≠ none
      rw [h]
      exact fun z => nomatch z
  · exact .inr (.inr h)
section
variable {X : Cx} {Wx : WX} {e a b c o : Expr} {es : List Expr} {f g : FX} {p apos pos : Pos} {kf : FXA} {x m : Str} {k n i : Nat} {dd : List D} {ob : List Nat}
def xPB (t : FB) : FX := fun ρ μ => (t ρ μ).map fun b => .ok (.bl b) ρ μ
theorem ptx_b {t : FB} (h : PB X a t) : PTX X Wx a (xPB t) := ptx_q h
theorem ps1_setTX {tg : Expr} {vs : List Nat} {gt : D → List D → Option (List D)} (he : PX X Wx e g) (hg : PGD X tg vs gt) (hs : swapsWithSole [tg] e pos.line X.env = pure false := by rfl) (hw : swappedStores [tg] e X.env = pure none := by rfl)
    (h1 : (assignEach [tg] X.env).map (·.2) = [assign tg X.env] := by rfl) (hv : ∀ i ∈ ob, i ∉ vs := by decide) : PS1 X ob Wx (.Assign [tg] e pos) (fSetTX gt g) := by
  obtain ⟨te, p, k⟩ := he
  obtain ⟨tgt, p1, k1⟩ := hg
  refine ⟨_, ps_asg p p1 hs hw h1, fun E σ W ρ μ F S o ho h => ?_⟩
  refine runS_bind k S ho h fun d v W1 G ρ1 μ1 F1 r S1 nd own mv hk => ?_
  by_cases hd : data d = true
  case neg => rw [if_neg hd] at hk; cases hk
  rw [if_pos hd] at hk
  obtain ⟨ρ', e2, z⟩ := map_some hk
  subst z
  have z := R_data d hd r
  subst z
  exact k1 σ W1 ρ1 μ1 F1 d v S1 r ρ' e2 _ fun σ' F' S' sub hw => h σ' W1 F' S' (mv.sub (fun _ h => h) fun a ha => sub a ha) (Kept.of_wipe hw hv)
/-- a quiet def, the arguments of any sort -/
def xRunQ (n : Nat) (dd : List D) (run : List D → Option D) (k : FXA) : FX := xA k fun ds ρ μ => if dataL ds = true ∧ (ds ++ dd).length = n then (run (ds ++ dd)).bind fun d => if data d = true then some (.ok d ρ μ) else none else none
theorem px_callQ {run : List D → Option D} (O : OkQ X.prog X.w X.K X.mg X.base x k n dd run) (hr : Room k X.A) (ha : PAX X Wx (e :: es) kf) (hg : Gl X x := by rfl) (hdb : (x == ("__debug__" : Str)) = false := by decide)
    (he : starEach (e :: es) X.env = (false, eval e X.env) :: starEach es X.env := by rfl) (hpl : (backTo pos (starEach es X.env)).any (·.1) = false := by rfl) : PX X Wx (.Call (.Name x p) (e :: es) [] pos) (xRunQ n dd run kf) := by
  obtain ⟨f, fd, ps, dvs, us, hF, hb, hv, hdd, hdt, hm, hk⟩ := O
  obtain ⟨t, pt, k1⟩ := ha
  refine ⟨_, pe_call hF hr hg hm hk hb hv passL pt hdb he hpl, fun σ W ρ μ F S o ho Q hQ => ?_⟩
  refine runA_bind k1 S ho hQ fun ds vs W1 ρ1 μ1 F1 r S1 mv ho1 => ?_
  by_cases hl : dataL ds = true ∧ (ds ++ dd).length = n
  case neg => rw [if_neg hl] at ho1; cases ho1
  rw [if_pos hl] at ho1
  obtain ⟨d', e2, ho1⟩ := bind_some ho1
  by_cases hd : data d' = true
  case neg => rw [if_neg hd] at ho1; cases ho1
  rw [if_pos hd] at ho1
  cases ho1
  exact call_back hl.1 hdt S1.ok (RL_app r (hdd W1)) hl.2 e2 hd fun v W2 x2 r2 => hQ v W2 [] F1 r2 (S1.ext x2) S1.nd (fun _ hb => nomatch hb) (mv.trans x2.mvr)
end
/-! ### reckoning -/
section
variable {x0 : D} {ρ μ : List D}
def eB (o : Option EO) (k : D → FX) : Option EO := match o with
  | some (.ok d ρ' μ') => if fl d = true then k d ρ' μ' else none
  | some (.ex c fs ρ' μ') => some (.ex c fs ρ' μ')
  | none => none
theorem xB_eq (f : FX) (k : D → FX) : xB f k (x0 :: ρ) μ = eB (f (x0 :: ρ) μ) k := by
  unfold xB eB
  cases f (x0 :: ρ) μ with
  | none => rfl
  | some o => cases o <;> rfl
theorem eB_ok (d : D) (ρ' μ' : List D) (k : D → FX) : eB (some (.ok d ρ' μ')) k = if fl d = true then k d ρ' μ' else none := rfl
theorem eB_ex (c : Str) (fs : List (Str × D)) (ρ' μ' : List D) (k : D → FX) : eB (some (.ex c fs ρ' μ')) k = some (.ex c fs ρ' μ') := rfl
def eT (o : Option EO) (k : Bool → FX) : Option EO := match o with
  | some (.ok d ρ' μ') => (match d with
    | .bl b => k b ρ' μ'
    | _ => none)
  | some (.ex c fs ρ' μ') => some (.ex c fs ρ' μ')
  | none => none
theorem xT_eq (f : FX) (k : Bool → FX) : xT f k (x0 :: ρ) μ = eT (f (x0 :: ρ) μ) k := by
  unfold xT eT
  cases f (x0 :: ρ) μ with
  | none => rfl
  | some o => cases o <;> rfl
theorem eT_bl (b : Bool) (ρ' μ' : List D) (k : Bool → FX) : eT (some (.ok (.bl b) ρ' μ')) k = k b ρ' μ' := rfl
theorem eT_ex (c : Str) (fs : List (Str × D)) (ρ' μ' : List D) (k : Bool → FX) : eT (some (.ex c fs ρ' μ')) k = some (.ex c fs ρ' μ') := rfl
def eS (o : Option EO) (k : D → FS) : Option SO := match o with
  | some (.ok d ρ' μ') => k d ρ' μ'
  | some (.ex c fs ρ' μ') => some (.ex c fs ρ' μ')
  | none => none
theorem xS_eq (f : FX) (k : D → FS) : xS f k (x0 :: ρ) μ = eS (f (x0 :: ρ) μ) k := by
  unfold xS eS
  cases f (x0 :: ρ) μ with
  | none => rfl
  | some o => cases o <;> rfl
theorem eS_ok (d : D) (ρ' μ' : List D) (k : D → FS) : eS (some (.ok d ρ' μ')) k = k d ρ' μ' := rfl
theorem eS_ex (c : Str) (fs : List (Str × D)) (ρ' μ' : List D) (k : D → FS) : eS (some (.ex c fs ρ' μ')) k = some (.ex c fs ρ' μ') := rfl
theorem xQ_eq (q : FQ) : xQ q (x0 :: ρ) μ = (q (x0 :: ρ) μ).bind fun d => if fl d = true then some (.ok d (x0 :: ρ) μ) else none := rfl
theorem xN_eq (k : FA) : xN k (x0 :: ρ) μ = (k (x0 :: ρ) μ).map fun ds => .ok (.ml ds) (x0 :: ρ) μ := rfl
theorem xMove_eq (i : Nat) : xMove i (x0 :: ρ) μ = ((x0 :: ρ)[i]?).bind fun d => if isUn d = true then none else some (.ok d ((x0 :: ρ).set i .un) μ) := rfl
theorem xOp_eq (o : D → D → Option D) (f g : FX) : xOp o f g (x0 :: ρ) μ = eB (f (x0 :: ρ) μ) fun x => xB g fun y => fun ρ μ => (o x y).bind fun d => if data d = true then some (.ok d ρ μ) else none := xB_eq _ _
theorem xNot_eq (f : FX) : xNot f (x0 :: ρ) μ = eT (f (x0 :: ρ) μ) fun b ρ μ => some (.ok (.bl (!b)) ρ μ) := xT_eq _ _
theorem xAnd_eq (f g : FX) : xAnd f g (x0 :: ρ) μ = eT (f (x0 :: ρ) μ) fun b ρ μ => if b = true then g ρ μ else some (.ok (.bl false) ρ μ) := xT_eq _ _
theorem xOr_eq (f g : FX) : xOr f g (x0 :: ρ) μ = eT (f (x0 :: ρ) μ) fun b ρ μ => if b = true then some (.ok (.bl true) ρ μ) else g ρ μ := xT_eq _ _
theorem xPB_eq (t : FB) : xPB t (x0 :: ρ) μ = (t (x0 :: ρ) μ).map fun b => .ok (.bl b) (x0 :: ρ) μ := rfl
theorem xIsi_eq (T : String) (f : FX) : xIsi T f (x0 :: ρ) μ = eB (f (x0 :: ρ) μ) fun d ρ μ => (tyN d).bind fun n => (kitB n T).map fun b => .ok (.bl b) ρ μ := xB_eq _ _
def aB (o : Option AO) (k : List AV → List D → List D → Option EO) : Option EO := match o with
  | some (.ok as ρ' μ') => k as ρ' μ'
  | some (.ex c fs ρ' μ') => some (.ex c fs ρ' μ')
  | none => none
theorem aB_ok (as : List AV) (ρ' μ' : List D) (k : List AV → List D → List D → Option EO) : aB (some (.ok as ρ' μ')) k = k as ρ' μ' := rfl
theorem aB_ex (c : Str) (fs : List (Str × D)) (ρ' μ' : List D) (k : List AV → List D → List D → Option EO) : aB (some (.ex c fs ρ' μ')) k = some (.ex c fs ρ' μ') := rfl
theorem xA_eq (k : FXA) (g : List D → FX) : xA k g (x0 :: ρ) μ = aB (k (x0 :: ρ) μ) fun as ρ1 μ1 => (avals as).bind fun ds => g ds ρ1 μ1 := by
  unfold xA aB
  cases k (x0 :: ρ) μ with
  | none => rfl
  | some o => cases o <;> rfl
theorem xaNil_eq : xaNil (x0 :: ρ) μ = some (.ok [] (x0 :: ρ) μ) := rfl
def eA (o : Option EO) (k : D → List D → List D → Option AO) : Option AO := match o with
  | some (.ok d ρ' μ') => k d ρ' μ'
  | some (.ex c fs ρ' μ') => some (.ex c fs ρ' μ')
  | none => none
theorem eA_ok (d : D) (ρ' μ' : List D) (k : D → List D → List D → Option AO) : eA (some (.ok d ρ' μ')) k = k d ρ' μ' := rfl
theorem eA_ex (c : Str) (fs : List (Str × D)) (ρ' μ' : List D) (k : D → List D → List D → Option AO) : eA (some (.ex c fs ρ' μ')) k = some (.ex c fs ρ' μ') := rfl
theorem xaCons_eq (f : FX) (k : FXA) : xaCons f k (x0 :: ρ) μ = eA (f (x0 :: ρ) μ) fun d ρ1 μ1 => if fl d = true then aoCons (.val d) (k ρ1 μ1) else none := by
  unfold xaCons eA
  cases f (x0 :: ρ) μ with
  | none => rfl
  | some o => cases o <;> rfl
theorem aoCons_ok (a : AV) (as : List AV) (ρ μ : List D) : aoCons a (some (.ok as ρ μ)) = some (.ok (a :: as) ρ μ) := rfl
theorem aoCons_ex (a : AV) (c : Str) (fs : List (Str × D)) (ρ μ : List D) : aoCons a (some (.ex c fs ρ μ)) = some (.ex c fs ρ μ) := rfl
theorem xaSlot_eq (j : Nat) (k : FXA) : xaSlot j k (x0 :: ρ) μ = ((x0 :: ρ)[j]?).bind fun d => if isUn d = true then none else aoCons (.slot j) (k (x0 :: ρ) μ) := rfl
theorem avals_nil : avals [] = some [] := rfl
theorem avals_val (d : D) (as : List AV) : avals (.val d :: as) = (avals as).map fun ds => d :: ds := rfl
theorem xTup_eq (k : FXA) : xTup k (x0 :: ρ) μ = aB (k (x0 :: ρ) μ) fun as ρ1 μ1 => (avals as).bind fun ds => if ds.length ≤ 100 ∧ dataL ds = true then some (.ok (.tup ds) ρ1 μ1) else none := xA_eq _ _
theorem xCall_eq (o : List D → Option D) (k : FXA) : xCall o k (x0 :: ρ) μ = aB (k (x0 :: ρ) μ) fun as ρ1 μ1 => (avals as).bind fun ds => (o ds).bind fun d => if data d = true then some (.ok d ρ1 μ1) else none := xA_eq _ _
theorem xRunQ_eq (n : Nat) (dd : List D) (run : List D → Option D) (k : FXA) : xRunQ n dd run k (x0 :: ρ) μ = aB (k (x0 :: ρ) μ) fun as ρ1 μ1 => (avals as).bind fun ds => if dataL ds = true ∧ (ds ++ dd).length = n then (run (ds ++ dd)).bind fun d => if data d = true then some (.ok d ρ1 μ1) else none else none := xA_eq _ _
theorem xRun_eq (n : Nat) (dd : List D) (run : RX) (k : FXA) : xRun n dd run k (x0 :: ρ) μ = aB (k (x0 :: ρ) μ) fun as ρ1 μ1 => (mo as ρ1).bind fun z => if (z.1 ++ dd).length = n then (run (z.1 ++ dd) μ1).bind (xPut fun ys => mi as z.2 (ys.take z.1.length)) else none := by
  unfold xRun aB
  cases k (x0 :: ρ) μ with
  | none => rfl
  | some o => cases o <;> rfl
theorem xPut_ok (put : List D → Option (List D)) (d : D) (ds μ : List D) : xPut put (.ok d ds μ) = (put ds).map fun ρ' => .ok d ρ' μ := rfl
theorem xPut_ex (put : List D → Option (List D)) (c : Str) (fs : List (Str × D)) (ds μ : List D) : xPut put (.ex c fs ds μ) = (put ds).map fun ρ' => .ex c fs ρ' μ := rfl
theorem mo_nil : mo [] ρ = some ([], ρ) := rfl
theorem mo_val (d : D) (as : List AV) : mo (.val d :: as) ρ = (mo as ρ).map fun z => (d :: z.1, z.2) := rfl
theorem mo_slot (j : Nat) (as : List AV) : mo (.slot j :: as) ρ = (mo as ρ).bind fun z => (z.2[j]?).bind fun d => if isUn d = true then none else some (d :: z.1, z.2.set j .un) := rfl
theorem mi_nil : mi [] ρ [] = some ρ := by unfold mi; rfl
theorem mi_val (d d' : D) (as : List AV) (ds : List D) : mi (.val d :: as) ρ (d' :: ds) = mi as ρ ds := by rw [mi]
theorem mi_slot (j : Nat) (d' : D) (as : List AV) (ds : List D) : mi (.slot j :: as) ρ (d' :: ds) = mi as (ρ.set j d') ds := by rw [mi]
/-- methods of a slot -/
def mSK (i : Nat) (m : Str) (n : Nat) (dd : List D) (runs : MT) (o : Option AO) (t : Option D) : Option EO := match t with
  | some (.obj c ns _) => if fidx m ns = none then (runs c).bind fun run => aB o fun as ρ1 μ1 => (mo (.slot i :: as) ρ1).bind fun z => if (z.1 ++ dd).length = n then (run (z.1 ++ dd) μ1).bind (xPut fun ys => mi (.slot i :: as) z.2 (ys.take z.1.length)) else none else none
  | _ => none
theorem xMethS_eq (i : Nat) (m : Str) (n : Nat) (dd : List D) (runs : MT) (k : FXA) : xMethS i m n dd runs k (x0 :: ρ) μ = mSK i m n dd runs (k (x0 :: ρ) μ) ((x0 :: ρ)[i]?) := by
  unfold xMethS mSK
  cases (x0 :: ρ)[i]? with
  | none => rfl
  | some t =>
    cases t with
    | obj c ns ds =>
      show (if fidx m ns = none then _ else none) = (if fidx m ns = none then _ else none)
      by_cases h : fidx m ns = none
      · rw [if_pos h, if_pos h]
        cases runs c with
        | none => rfl
        | some run =>
          unfold aB
          cases k (x0 :: ρ) μ with
          | none => rfl
          | some o => cases o <;> rfl
      · rw [if_neg h, if_neg h]
    | _ => rfl
theorem mSK_obj (i : Nat) (m : Str) (n : Nat) (dd : List D) (runs : MT) (o : Option AO) (c : Str) (ns : List Str) (ds : List D) : mSK i m n dd runs o (some (.obj c ns ds)) = if fidx m ns = none then (runs c).bind fun run => aB o fun as ρ1 μ1 => (mo (.slot i :: as) ρ1).bind fun z => if (z.1 ++ dd).length = n then (run (z.1 ++ dd) μ1).bind (xPut fun ys => mi (.slot i :: as) z.2 (ys.take z.1.length)) else none else none := rfl
/-- methods by a path -/
def mQK (q : List Str) (m : Str) (n : Nat) (dd : List D) (runs : MT) (ρ μ : List D) (i : Nat) (r : D) (o : Option (List D)) (t : Option D) : Option EO := match t with
  | some (.obj c ns ds) => if fidx m ns = none then (runs c).bind fun run => o.bind fun as => if flL as = true ∧ (D.obj c ns ds :: (as ++ dd)).length = n then (run (D.obj c ns ds :: (as ++ dd)) μ).bind (xPut fun ys => (put1 fun t' => (pput q r t').map fun r' => ρ.set i r') (ys.take 1)) else none else none
  | some (.ref j) => (match μ[j]? with
    | some (.obj c ns _) => if fidx m ns = none then (runs c).bind fun run => o.bind fun as => if flL as = true ∧ (D.ref j :: (as ++ dd)).length = n then (run (D.ref j :: (as ++ dd)) μ).bind (xPut fun ys => some ρ) else none else none
    | _ => none)
  | _ => none
theorem xMethQ_eq (ok : OkT) (i : Nat) (q : List Str) (m : Str) (n : Nat) (dd : List D) (runs : MT) (k : FA) : xMethQ ok i q m n dd runs k (x0 :: ρ) μ = ((x0 :: ρ)[i]?).bind fun r => mQK q m n dd runs (x0 :: ρ) μ i r (k (x0 :: ρ) μ) (pget ok q r) := by
  unfold xMethQ mQK
  cases (x0 :: ρ)[i]? with
  | none => rfl
  | some r =>
    simp only [Option.bind_some]
    generalize pget ok q r = t
    cases t with
    | none => rfl
    | some t => cases t <;> rfl
theorem mQK_obj (q : List Str) (m : Str) (n : Nat) (dd : List D) (runs : MT) (ρ μ : List D) (i : Nat) (r : D) (o : Option (List D)) (c : Str) (ns : List Str) (ds : List D) : mQK q m n dd runs ρ μ i r o (some (.obj c ns ds)) = if fidx m ns = none then (runs c).bind fun run => o.bind fun as => if flL as = true ∧ (D.obj c ns ds :: (as ++ dd)).length = n then (run (D.obj c ns ds :: (as ++ dd)) μ).bind (xPut fun ys => (put1 fun t' => (pput q r t').map fun r' => ρ.set i r') (ys.take 1)) else none else none := rfl
theorem put1_one (g : D → Option (List D)) (d : D) : put1 g [d] = g d := rfl
theorem pget_nil (ok : OkT) (d : D) : pget ok [] d = if isUn d = true then none else some d := by rw [pget]
theorem pget_cons (ok : OkT) (x : Str) (p : List Str) (c : Str) (ns : List Str) (ds : List D) : pget ok (x :: p) (.obj c ns ds) = if ok c x = true then (fidx x ns).bind fun i => (ds[i]?).bind (pget ok p) else none := by rw [pget]
theorem pput_nil (d e : D) : pput [] d e = if isUn e = true then none else some e := by rw [pput]
theorem pput_cons (x : Str) (p : List Str) (c : Str) (ns : List Str) (ds : List D) (e : D) : pput (x :: p) (.obj c ns ds) e = (fidx x ns).bind fun i => (ds[i]?).bind fun d => (pput p d e).map fun d' => .obj c ns (ds.set i d') := by rw [pput]
theorem qFld_eq (ok : OkT) (x : Str) (f : FQ) : qFld ok x f (x0 :: ρ) μ = (f (x0 :: ρ) μ).bind (dFld ok x μ) := rfl
theorem dFld_obj (ok : OkT) (x : Str) (c : Str) (ns : List Str) (ds : List D) : dFld ok x μ (.obj c ns ds) = if ok c x = true then (fidx x ns).bind fun i => ds[i]? else none := rfl
theorem dFld_fo (ok : OkT) (x : Str) (c : Str) (ns : List Str) (ds : List D) : dFld ok x μ (.fo c ns ds) = if ok c x = true then (fidx x ns).bind fun i => ds[i]? else none := rfl
theorem dFld_ref (ok : OkT) (x : Str) (k : Nat) : dFld ok x μ (.ref k) = (μ[k]?).bind (dFo ok x) := rfl
theorem dFo_obj (ok : OkT) (x : Str) (c : Str) (ns : List Str) (ds : List D) : dFo ok x (.obj c ns ds) = if ok c x = true then (fidx x ns).bind fun i => ds[i]? else none := rfl
theorem dFo_fo (ok : OkT) (x : Str) (c : Str) (ns : List Str) (ds : List D) : dFo ok x (.fo c ns ds) = if ok c x = true then (fidx x ns).bind fun i => ds[i]? else none := rfl
theorem varK_obj (c : Str) (ns : List Str) (ds : List D) : varK (some (.obj c ns ds)) = some (.obj c ns ds) := rfl
theorem varK_fo (c : Str) (ns : List Str) (ds : List D) : varK (some (.fo c ns ds)) = some (.fo c ns ds) := rfl
theorem varK_ref (k : Nat) : varK (some (.ref k)) = some (.ref k) := rfl
theorem qRunF_eq (n : Nat) (dd : List D) (run : RF) (k : FA) : qRunF n dd run k (x0 :: ρ) μ = (k (x0 :: ρ) μ).bind fun as => if (fzL as ++ dd).length = n then (run (fzL as ++ dd) (fzL μ)).bind resF else none := rfl
theorem qMethF_eq (m : Str) (n : Nat) (dd : List D) (runs : MTF) (f : FQ) (k : FA) : qMethF m n dd runs f k (x0 :: ρ) μ = (f (x0 :: ρ) μ).bind fun t => (clsOf μ t).bind fun z => if fidx m z.2 = none then (runs z.1).bind fun run => (k (x0 :: ρ) μ).bind fun as => if (fz t :: (fzL as ++ dd)).length = n then (run (fz t :: (fzL as ++ dd)) (fzL μ)).bind resF else none else none := rfl
theorem clsOf_obj (c : Str) (ns : List Str) (ds : List D) : clsOf μ (.obj c ns ds) = some (c, ns) := rfl
theorem clsOf_fo (c : Str) (ns : List Str) (ds : List D) : clsOf μ (.fo c ns ds) = some (c, ns) := rfl
theorem clsOf_ref (k : Nat) : clsOf μ (.ref k) = (μ[k]?).bind clsO := rfl
theorem xMake_eq (c : Str) (n : Nat) (dd : List D) (run : RX) (k : FXA) : xMake c n dd run k (x0 :: ρ) μ = aB (k (x0 :: ρ) μ) fun as ρ1 μ1 => (avals as).bind fun ds => if (D.obj c [] [] :: (ds ++ dd)).length = n then (run (D.obj c [] [] :: (ds ++ dd)) μ1).bind fun o => match o with
  | .ok d (t :: _) μ' => (match d with
    | .non => if isUn t = true then none else some (.ok t ρ1 μ')
    | _ => none)
  | .ex cx fs (_ :: _) μ' => some (.ex cx fs ρ1 μ')
  | _ => none
  else none := xA_eq _ _
theorem fSetX_eq (i : Nat) (g : FX) : fSetX i g (x0 :: ρ) μ = eS (g (x0 :: ρ) μ) fun d ρ μ => if isUn d = true then none else some (.nx (ρ.set i d) μ) := xS_eq _ _
theorem fSetTX_eq (gt : D → List D → Option (List D)) (g : FX) : fSetTX gt g (x0 :: ρ) μ = eS (g (x0 :: ρ) μ) fun d ρ μ => if data d = true then (gt d ρ).map fun ρ' => .nx ρ' μ else none := xS_eq _ _
theorem fExX_eq (g : FX) : fExX g (x0 :: ρ) μ = eS (g (x0 :: ρ) μ) fun _ ρ μ => some (.nx ρ μ) := xS_eq _ _
theorem fRetX_eq (g : FX) : fRetX g (x0 :: ρ) μ = eS (g (x0 :: ρ) μ) fun d ρ μ => some (.rt d ρ μ) := xS_eq _ _
def ifK (f g : FS) (d : D) (ρ μ : List D) : Option SO := match d with
  | .bl b => if b = true then f ρ μ else g ρ μ
  | _ => none
theorem ifK_bl (f g : FS) (b : Bool) : ifK f g (.bl b) ρ μ = if b = true then f ρ μ else g ρ μ := rfl
theorem fIfX_eq (t : FX) (f g : FS) : fIfX t f g (x0 :: ρ) μ = eS (t (x0 :: ρ) μ) (ifK f g) := xS_eq _ _
def fldK (ok : OkT) (i : Nat) (q : List Str) (x : Str) (d : D) (ρ μ : List D) (r : D) (t : Option D) : Option SO := match t with
  | some (.obj c ns ds) => if ok c x = true ∧ ns.length < 1000 then (pput q r (putD x d c ns ds)).map fun r' => .nx (ρ.set i r') μ else none
  | some (.ref j) => (match μ[j]? with
    | some (.obj c ns ds) => if ok c x = true ∧ ns.length < 1000 ∧ fl d = true then some (.nx ρ (μ.set j (putD x d c ns ds))) else none
    | _ => none)
  | _ => none
theorem fFldX_eq (ok : OkT) (i : Nat) (q : List Str) (x : Str) (g : FX) : fFldX ok i q x g (x0 :: ρ) μ = eS (g (x0 :: ρ) μ) fun d ρ μ => (ρ[i]?).bind fun r => fldK ok i q x d ρ μ r (pget ok q r) := by
  unfold fFldX
  rw [xS_eq]
  unfold eS
  cases g (x0 :: ρ) μ with
  | none => rfl
  | some o =>
    cases o with
    | ex c fs ρ' μ' => rfl
    | ok d ρ' μ' =>
      simp only
      cases ρ'[i]? with
      | none => rfl
      | some r =>
        simp only [Option.bind_some]
        unfold fldK
        generalize pget ok q r = t
        cases t with
        | none => rfl
        | some t => cases t <;> rfl
theorem fldK_obj (ok : OkT) (i : Nat) (q : List Str) (x : Str) (d : D) (ρ μ : List D) (r : D) (c : Str) (ns : List Str) (ds : List D) : fldK ok i q x d ρ μ r (some (.obj c ns ds)) = if ok c x = true ∧ ns.length < 1000 then (pput q r (putD x d c ns ds)).map fun r' => .nx (ρ.set i r') μ else none := rfl
theorem fFldAug_eq (ok : OkT) (i : Nat) (q : List Str) (x : Str) (op : D → D → Option D) (f : FQ) : fFldAug ok i q x op f (x0 :: ρ) μ = fFldX ok i q x (xAug ok i q x op f) (x0 :: ρ) μ := rfl
theorem xAug_eq (ok : OkT) (i : Nat) (q : List Str) (x : Str) (op : D → D → Option D) (f : FQ) : xAug ok i q x op f (x0 :: ρ) μ = ((x0 :: ρ)[i]?).bind fun r => (pget ok q r).bind fun t => (dFld ok x μ t).bind fun a => (f (x0 :: ρ) μ).bind fun b => (op a b).map fun d => .ok d (x0 :: ρ) μ := rfl
theorem iAdd_int (a b : Int) : iAdd (.int a) (.int b) = some (.int (a + b)) := rfl
theorem iSub_int (a b : Int) : iSub (.int a) (.int b) = some (.int (a - b)) := rfl
theorem fRaise_eq (c : Str) : fRaise c (x0 :: ρ) μ = some (.ex c [] (x0 :: ρ) μ) := rfl
theorem putD_some {x : Str} {ns : List Str} {i : Nat} (h : fidx x ns = some i) (d : D) (c : Str) (ds : List D) : putD x d c ns ds = .obj c ns (ds.set i d) := by
  unfold putD
  rw [h]
theorem isUn_obj (c : Str) (ns : List Str) (ds : List D) : isUn (.obj c ns ds) = false := rfl
theorem isUn_fo (c : Str) (ns : List Str) (ds : List D) : isUn (.fo c ns ds) = false := rfl
theorem isUn_ml (ds : List D) : isUn (.ml ds) = false := rfl
theorem isUn_lst (ds : List D) : isUn (.lst ds) = false := rfl
theorem isUn_tup (ds : List D) : isUn (.tup ds) = false := rfl
theorem isUn_int (i : Int) : isUn (.int i) = false := rfl
theorem isUn_str (i : List Nat) : isUn (.str i) = false := rfl
theorem isUn_bl (i : Bool) : isUn (.bl i) = false := rfl
theorem isUn_non : isUn .non = false := rfl
theorem isUn_ref (i : Nat) : isUn (.ref i) = false := rfl
theorem fl_int (i : Int) : fl (.int i) = true := rfl
theorem fl_str (i : List Nat) : fl (.str i) = true := rfl
theorem fl_bl (i : Bool) : fl (.bl i) = true := rfl
theorem fl_non : fl .non = true := rfl
theorem fl_ref (i : Nat) : fl (.ref i) = true := rfl
theorem fl_tup (ds : List D) : fl (.tup ds) = dataL ds := rfl
theorem fl_lst (ds : List D) : fl (.lst ds) = dataL ds := rfl
theorem flL_nil : flL [] = true := rfl
theorem flL_cons (d : D) (ds : List D) : flL (d :: ds) = (fl d && flL ds) := rfl
theorem resF_bl (b : Bool) : resF (.bl b) = some (.bl b) := rfl
theorem resF_int (b : Int) : resF (.int b) = some (.int b) := rfl
theorem resF_str (b : List Nat) : resF (.str b) = some (.str b) := rfl
theorem resF_non : resF .non = some .non := rfl
theorem resF_tup (ds : List D) : resF (.tup ds) = if noLL ds = true then some (.tup ds) else none := rfl
theorem resF_ml (ds : List D) : resF (.ml ds) = if noLL ds = true then some (.lst ds) else none := rfl
theorem fzL_nil : fzL [] = [] := rfl
theorem fzL_cons (d : D) (ds : List D) : fzL (d :: ds) = fz d :: fzL ds := rfl
theorem fz_int (i : Int) : fz (.int i) = .int i := rfl
theorem fz_str (i : List Nat) : fz (.str i) = .str i := rfl
theorem fz_bl (i : Bool) : fz (.bl i) = .bl i := rfl
theorem fz_non : fz .non = .non := rfl
theorem fz_ref (i : Nat) : fz (.ref i) = .ref i := rfl
theorem fz_tup (ds : List D) : fz (.tup ds) = .tup (fzL ds) := rfl
theorem fz_lst (ds : List D) : fz (.lst ds) = .lst (fzL ds) := rfl
theorem fz_ml (ds : List D) : fz (.ml ds) = .lst (fzL ds) := rfl
theorem fz_obj (c : Str) (ns : List Str) (ds : List D) : fz (.obj c ns ds) = .fo c ns (fzL ds) := rfl
theorem fz_fo (c : Str) (ns : List Str) (ds : List D) : fz (.fo c ns ds) = .fo c ns (fzL ds) := rfl
def rF (o : Option SO) : Option D := match o with
  | some (.rt d _ _) => some d
  | some (.nx _ _) => some .non
  | _ => none
theorem runF_eq (N : Nat) (f : FS) (ds : List D) : runF N f ds μ = rF (f (ds ++ List.replicate (N - ds.length) .un) μ) := rfl
theorem rF_rt (d : D) (ρ μ : List D) : rF (some (.rt d ρ μ)) = some d := rfl
theorem rF_nx (ρ μ : List D) : rF (some (.nx ρ μ)) = some .non := rfl
def rX (ks : List Bool) (ds : List D) (o : Option SO) : Option EO := o.bind fun o => match o with
  | .rt d ρ' μ' => if isUn d = true then none else (fin ks ds ρ').map fun ds' => .ok d ds' μ'
  | .nx ρ' μ' => (fin ks ds ρ').map fun ds' => .ok .non ds' μ'
  | .ex c fs ρ' μ' => (fin ks ds ρ').map fun ds' => .ex c fs ds' μ'
  | _ => none
theorem runX_eq (N : Nat) (ks : List Bool) (f : FS) (ds : List D) : runX N ks f ds μ = rX ks ds (f (ds ++ List.replicate (N - ds.length) .un) μ) := rfl
theorem rX_rt (ks : List Bool) (ds : List D) (d : D) (ρ' μ' : List D) : rX ks ds (some (.rt d ρ' μ')) = if isUn d = true then none else (fin ks ds ρ').map fun ds' => .ok d ds' μ' := rfl
theorem rX_nx (ks : List Bool) (ds : List D) (ρ' μ' : List D) : rX ks ds (some (.nx ρ' μ')) = (fin ks ds ρ').map fun ds' => .ok .non ds' μ' := rfl
theorem rX_ex (ks : List Bool) (ds : List D) (c : Str) (fs : List (Str × D)) (ρ' μ' : List D) : rX ks ds (some (.ex c fs ρ' μ')) = (fin ks ds ρ').map fun ds' => .ex c fs ds' μ' := rfl
theorem fin_nil : fin [] [] ρ = some [] := by rw [fin]
theorem fin_t (ks : List Bool) (d r : D) (ds : List D) : fin (true :: ks) (d :: ds) (r :: ρ) = if isUn r = true then none else (fin ks ds ρ).map fun l => r :: l := by rw [fin]
theorem fin_f (ks : List Bool) (d r : D) (ds : List D) : fin (false :: ks) (d :: ds) (r :: ρ) = if fl d = true then (fin ks ds ρ).map fun l => d :: l else none := by rw [fin]
end
end Fw
/-! # range with a step; index of a text -/
namespace Fw
open PySem PySem.Spec PyProof.Rows L2
open Evl (Ex)
def rangeS (i j c : Int) : List D := (List.range (Builtin.Range.rangeSize i j c).toNat).map fun (k : Nat) => .int (i + (k : Int) * c)
def rg3K (x y z : D) : Option (List D) := match x, y, z with
  | .int i, .int j, .int c => if (0 < c ∧ c < 1073741824) ∧ Builtin.Range.small i j c = true then some (rangeS i j c) else none
  | _, _, _ => none
def aR3 (f g h : FQ) : FA := fun ρ μ => (f ρ μ).bind fun x => (g ρ μ).bind fun y => (h ρ μ).bind fun z => rg3K x y z
theorem it_rangeS {K : PySem.W.Frag} {W0 : Wd} {Rel : Wd → Wd → Prop} {i j c : Int} : ItD K (Itc i c (Builtin.Range.rangeSize i j c).toNat) W0 (rangeS i j c) Rel where
  go := fun k W r h => by
    unfold rangeS at h
    rw [List.length_map, List.length_range] at h
    exact h
  st := fun k W r h => by
    unfold rangeS at h
    rw [List.length_map, List.length_range] at h
    exact h
  yl := fun k W x H' r ok h y => by
    obtain ⟨e, rfl⟩ := y
    unfold rangeS at h ⊢
    rw [List.length_map, List.length_range] at h
    exact ⟨W, .int (i + (k : Int) * c), e.symm, by rw [List.getElem?_map, List.getElem?_range h]; rfl, Ext.refl ok, rfl, rfl⟩
theorem rs_nonneg {i j c : Int} (hc : 0 < c) : 0 ≤ Builtin.Range.rangeSize i j c := by
  unfold Builtin.Range.rangeSize
  rw [if_pos hc]
  by_cases h : i < j
  · rw [if_pos h]
    have := Int.ediv_nonneg (a := j - i - 1) (b := c) (by omega) (by omega)
    omega
  · rw [if_neg h]
    exact Int.le_refl _
section
variable {X : Cx} {tg a b c : Expr} {f g h : FQ}
theorem pif_range3 {p pos : Pos} (ha : PQ X a f) (hb : PQ X b g) (hc : PQ X c h) (hm : X.mg "range" = none) (hg : Gl X "range" := by rfl) (hs : starEach [a, b, c] X.env = (false, eval a X.env) :: starEach [b, c] X.env := by rfl)
    (hs2 : starEach [b, c] X.env = (false, eval b X.env) :: starEach [c] X.env := by rfl) (hs3 : starEach [c] X.env = (false, eval c X.env) :: starEach [] X.env := by rfl) (hpl : (backTo pos (starEach [b, c] X.env)).any (·.1) = false := by rfl) :
    PIF X tg (.Call (.Name "range" p) [a, b, c] [] pos) (aR3 f g h) := by
  obtain ⟨t1, p1, k1⟩ := ha
  obtain ⟨t2, p2, k2⟩ := hb
  obtain ⟨t3, p3, k3⟩ := hc
  refine ⟨_, pi_range3 hg hm (pa_cons p1 (pa_cons p2 (pa_cons p3 pa_nil hs3) hs2) hs) hs hpl, fun σ W ρ μ F S ds hd Q q => ?_⟩
  obtain ⟨x, e1, hd⟩ := bind_some hd
  obtain ⟨y, e2, hd⟩ := bind_some hd
  obtain ⟨z, e3, hd⟩ := bind_some hd
  refine k1 σ W ρ μ F S x e1 _ fun v W1 G1 x1 r1 => ?_
  refine k2 σ W1 ρ μ F (S.ext x1) y e2 _ fun v' W2 G2 x2 r2 => ?_
  refine k3 σ W2 ρ μ F ((S.ext x1).ext x2) z e3 _ fun v'' W3 G3 x3 r3 => ?_
  cases x with
  | int i =>
    cases y with
    | int j =>
      cases z with
      | int c =>
        have hd2 : (if (0 < c ∧ c < 1073741824) ∧ Builtin.Range.small i j c = true then some (rangeS i j c) else none) = some ds := hd
        by_cases hl : (0 < c ∧ c < 1073741824) ∧ Builtin.Range.small i j c = true
        · rw [if_pos hl] at hd2
          cases hd2
          obtain ⟨rfl, _⟩ := r1
          obtain ⟨rfl, _⟩ := r2
          obtain ⟨rfl, _⟩ := r3
          exact ⟨i, j, c, (Builtin.Range.rangeSize i j c).toNat, rfl, ⟨by omega, by omega, hl.2, (Int.toNat_of_nonneg (rs_nonneg hl.1.1)).symm⟩, q _ W3 ((x1.trans x2).trans x3) it_rangeS⟩
        · rw [if_neg hl] at hd2
          cases hd2
      | _ => cases hd
    | _ => cases hd
  | _ => cases hd
theorem aR3_eq (x0 : D) (ρ μ : List D) : aR3 f g h (x0 :: ρ) μ = (f (x0 :: ρ) μ).bind fun x => (g (x0 :: ρ) μ).bind fun y => (h (x0 :: ρ) μ).bind fun z => rg3K x y z := rfl
theorem rg3K_int (i j c : Int) : rg3K (.int i) (.int j) (.int c) = if (0 < c ∧ c < 1073741824) ∧ Builtin.Range.small i j c = true then some (rangeS i j c) else none := rfl
end
/-! ### s.index(t) -/
def oIndex (s : List Nat) : List D → Option D
  | [.str t] => match Builtin.Str.occurrences (tr s) (tr t) 0 (tr s).length 1 with
    | i :: _ => some (.int (i : Nat))
    | [] => none
  | _ => none
theorem mtd_index {X : Cx} : MtD X "str.index" oIndex := by
  refine ⟨_, mt_sindex, fun W s ds vs G ok rl d hd Q q => ?_⟩
  match ds, hd with
  | [.str t], hd =>
    obtain ⟨v, rfl, r1⟩ := RL_one rl
    obtain ⟨rfl, _⟩ := r1
    have hd2 : (match Builtin.Str.occurrences (tr s) (tr t) 0 (tr s).length 1 with
      | i :: _ => some (D.int (i : Nat))
      | [] => none) = some d := hd
    cases e : Builtin.Str.occurrences (tr s) (tr t) 0 (tr s).length 1 with
    | nil => rw [e] at hd2; cases hd2
    | cons i rest =>
      rw [e] at hd2
      cases hd2
      exact ⟨tr s, tr t, i, rest, rfl, rfl, e, q _ W [] (Ext.refl ok) ⟨rfl, rfl⟩⟩
/-! ### names for what built-ins tell -/
def dMin (x y : D) : Option D := match x, y with | .int i, .int j => some (.int (if j < i then j else i)) | _, _ => none
def dMax (x y : D) : Option D := match x, y with | .int i, .int j => some (.int (if j > i then j else i)) | _, _ => none
def dStrI (x : D) : Option D := match x with | .int i => if i.natAbs.log2 < 1920 then some (.str (ofS (toString i))) else none | _ => none
theorem dMin_int (i j : Int) : dMin (.int i) (.int j) = some (.int (if j < i then j else i)) := rfl
theorem dMax_int (i j : Int) : dMax (.int i) (.int j) = some (.int (if j > i then j else i)) := rfl
theorem dStrI_int (i : Int) : dStrI (.int i) = if i.natAbs.log2 < 1920 then some (.str (ofS (toString i))) else none := rfl
end Fw
/-! # plain laws of the mirrors' operators -/
namespace Fw
open PySem PySem.Spec PyProof.Rows L2
theorem eqV_str (a b : List Nat) : eqV (.str (tr a)) (.str (tr b)) = decide (a = b) := by
  by_cases h : a = b
  · subst h
    simp [eqV]
  · have h2 : tr a ≠ tr b := fun z => h (tr_inj z)
    simp [eqV, h, h2]
theorem atoms_strs : ∀ es : List (List Nat), atoms (es.map D.str) = some ((es.map tr).map V.str)
  | [] => rfl
  | e :: es => by
    show ((some (V.str (tr e))).bind fun u => (atoms (es.map D.str)).map fun us => u :: us) = _
    rw [atoms_strs es]
    rfl
theorem inV_strs (t : List Nat) : ∀ es : List (List Nat), inV (.str (tr t)) ((es.map tr).map V.str) = decide (t ∈ es)
  | [] => by
    unfold inV
    simp
  | e :: es => by
    have ih := inV_strs t es
    unfold inV at ih ⊢
    rw [List.map_cons, List.map_cons, List.any_cons, ih, eqV_str]
    by_cases h : e = t
    · simp [h]
    · have h2 : ¬ t = e := fun z => h z.symm
      simp [h, h2]
theorem inDB_tup (t : List Nat) (ds : List D) : inDB (.str t) (.tup ds) = inSeq (.str t) (.tup ds) := by
  cases t with
  | nil => rfl
  | cons c t => cases t <;> rfl
theorem inDB_lst (t : List Nat) (ds : List D) : inDB (.str t) (.lst ds) = inSeq (.str t) (.lst ds) := by
  cases t with
  | nil => rfl
  | cons c t => cases t <;> rfl
theorem dIn_tup (t : List Nat) (es : List (List Nat)) : dIn (.str t) (.tup (es.map D.str)) = some (.bl (decide (t ∈ es))) := by
  unfold dIn
  rw [inDB_tup]
  unfold inSeq
  show Option.map D.bl ((some (es.map D.str)).bind fun ds => (some (V.str (tr t))).bind fun u => (atoms ds).map fun us => inV u us) = _
  rw [Option.bind_some, Option.bind_some, atoms_strs]
  show some (D.bl (inV (.str (tr t)) ((es.map tr).map V.str))) = _
  rw [inV_strs]
theorem dIn_lst (t : List Nat) (es : List (List Nat)) : dIn (.str t) (.lst (es.map D.str)) = some (.bl (decide (t ∈ es))) := by
  unfold dIn
  rw [inDB_lst]
  unfold inSeq
  show Option.map D.bl ((some (es.map D.str)).bind fun ds => (some (V.str (tr t))).bind fun u => (atoms ds).map fun us => inV u us) = _
  rw [Option.bind_some, Option.bind_some, atoms_strs]
  show some (D.bl (inV (.str (tr t)) ((es.map tr).map V.str))) = _
  rw [inV_strs]
theorem dNotIn_tup (t : List Nat) (es : List (List Nat)) : dNotIn (.str t) (.tup (es.map D.str)) = some (.bl (!decide (t ∈ es))) := by
  have h := dIn_tup t es
  unfold dIn at h
  obtain ⟨b, h1, h2⟩ := map_some h
  unfold dNotIn
  rw [h1]
  injection h2 with h2
  rw [← h2]
  rfl
theorem dNotIn_lst (t : List Nat) (es : List (List Nat)) : dNotIn (.str t) (.lst (es.map D.str)) = some (.bl (!decide (t ∈ es))) := by
  have h := dIn_lst t es
  unfold dIn at h
  obtain ⟨b, h1, h2⟩ := map_some h
  unfold dNotIn
  rw [h1]
  injection h2 with h2
  rw [← h2]
  rfl
theorem dIn_sign (c : Nat) (z : List Nat) : dIn (.str [c]) (.str z) = some (.bl (decide (c ∈ z))) := rfl
theorem dNotIn_sign (c : Nat) (z : List Nat) : dNotIn (.str [c]) (.str z) = some (.bl (!decide (c ∈ z))) := rfl
theorem boolsD_map : ∀ bs : List Bool, boolsD (bs.map D.bl) = some bs
  | [] => rfl
  | b :: bs => by
    show (boolsD (bs.map D.bl)).map (fun bs => b :: bs) = _
    rw [boolsD_map bs]
    rfl
theorem starts_take (e t : List Nat) : Txt.startswith (tr e) (tr t) = decide (e.take t.length = t) := by
  unfold Txt.startswith Builtin.Str.subAt
  rw [tr_length, tr_length, Nat.zero_add]
  show (decide (t.length ≤ e.length) && ((e.toArray.extract 0 t.length) == t.toArray)) = _
  rw [List.extract_toArray]
  have h1 : e.extract 0 t.length = e.take t.length := by
    rw [List.extract_eq_take_drop, List.drop_zero, Nat.sub_zero]
  rw [h1]
  by_cases h : e.take t.length = t
  · have hl : t.length ≤ e.length := by
      have := congrArg List.length h
      rw [List.length_take] at this
      omega
    rw [decide_eq_true h, decide_eq_true hl, h]
    simp
  · rw [decide_eq_false h]
    have h2 : ((e.take t.length).toArray == t.toArray) = false := by
      apply beq_eq_false_iff_ne.mpr
      intro z
      exact h (by simpa using z)
    rw [h2, Bool.and_false]
/-! ### equal trees -/
def cok (s : List Nat) : Bool := s.all fun c => decide (c < 1114112)
mutual
/-- trees without truths and instances, at most h deep, of signs -/
def pl : Nat → D → Bool
  | _, .non => true
  | _, .int _ => true
  | _, .str s => cok s
  | h + 1, .tup ds => plL h ds
  | h + 1, .lst ds => plL h ds
  | _, _ => false
def plL : Nat → List D → Bool
  | _, [] => true
  | h, d :: ds => pl h d && plL h ds
end
theorem strOk_tr {s : List Nat} (h : cok s = true) : PyData.canLay0 (.str (tr s)) = true := by
  show (tr s).cps.all (· < 0x110000) = true
  unfold cok at h
  rw [List.all_eq_true] at h
  rw [Array.all_eq_true]
  intro i hi
  have : s[i]'(by simpa using hi) ∈ s := List.getElem_mem _
  have := h _ this
  simpa using this
mutual
theorem pl_toP : ∀ (h : Nat) (d : D), pl h d = true → ∃ p, toP d = some p ∧ p.canLay0 = true ∧ p.depth ≤ h
  | _, .non, _ => ⟨_, rfl, rfl, by unfold PyData.depth; exact Nat.zero_le _⟩
  | _, .int i, _ => ⟨_, rfl, rfl, by unfold PyData.depth; exact Nat.zero_le _⟩
  | h, .str s, e => ⟨_, rfl, strOk_tr (by cases h <;> exact e), by unfold PyData.depth; exact Nat.zero_le _⟩
  | 0, .tup ds, e => by cases e
  | 0, .lst ds, e => by cases e
  | h + 1, .tup ds, e => by
    obtain ⟨ps, h1, h2, h3⟩ := plL_toP h ds e
    refine ⟨.tuple ps, ?_, ?_, ?_⟩
    · show (toPL ds).map PyData.tuple = _
      rw [h1]
      rfl
    · unfold PyData.canLay0
      exact h2
    · unfold PyData.depth
      omega
  | h + 1, .lst ds, e => by
    obtain ⟨ps, h1, h2, h3⟩ := plL_toP h ds e
    refine ⟨.list ps, ?_, ?_, ?_⟩
    · show (toPL ds).map PyData.list = _
      rw [h1]
      rfl
    · unfold PyData.canLay0
      exact h2
    · unfold PyData.depth
      omega
  | h, .bl _, e => by cases h <;> cases e
  | h, .ml _, e => by cases h <;> cases e
  | h, .obj _ _ _, e => by cases h <;> cases e
  | h, .fo _ _ _, e => by cases h <;> cases e
  | h, .ref _, e => by cases h <;> cases e
  | h, .un, e => by cases h <;> cases e
theorem plL_toP : ∀ (h : Nat) (ds : List D), plL h ds = true → ∃ ps, toPL ds = some ps ∧ PyData.canLayAll0 ps = true ∧ PyData.depthAll ps ≤ h
  | _, [], _ => ⟨[], rfl, rfl, by unfold PyData.depthAll; exact Nat.zero_le _⟩
  | h, d :: ds, e => by
    obtain ⟨a, b⟩ := Bool.and_eq_true_iff.mp (show (pl h d && plL h ds) = true by unfold plL at e; exact e)
    obtain ⟨p, h1, h2, h3⟩ := pl_toP h d a
    obtain ⟨ps, h4, h5, h6⟩ := plL_toP h ds b
    refine ⟨p :: ps, ?_, ?_, ?_⟩
    · show ((toP d).bind fun p => (toPL ds).map fun ps => p :: ps) = _
      rw [h1, h4]
      rfl
    · unfold PyData.canLayAll0
      rw [h2, h5]
      rfl
    · unfold PyData.depthAll
      omega
end
mutual
theorem eqv_pl : ∀ (x y : D) (h h' : Nat) (p q : PyData), pl h x = true → pl h' y = true → toP x = some p → toP y = some q → (PyData.eqv p q = true ↔ x = y)
  | .non, y, h, h', p, q, hx, hy, e1, e2 => by
    cases e1
    cases y <;> first
      | (cases h' <;> cases hy; done)
      | (cases e2; simp [PyData.eqv]; done)
      | (obtain ⟨z, _, rfl⟩ := map_some e2; simp [PyData.eqv])
  | .int i, y, h, h', p, q, hx, hy, e1, e2 => by
    cases e1
    cases y <;> first
      | (cases h' <;> cases hy; done)
      | (cases e2; simp [PyData.eqv]; done)
      | (obtain ⟨z, _, rfl⟩ := map_some e2; simp [PyData.eqv])
  | .str s, y, h, h', p, q, hx, hy, e1, e2 => by
    cases e1
    cases y <;> first
      | (cases h' <;> cases hy; done)
      | (cases e2
         simp only [PyData.eqv, beq_iff_eq, D.str.injEq]
         exact ⟨tr_inj, fun z => by rw [z]⟩)
      | (cases e2; simp [PyData.eqv]; done)
      | (obtain ⟨z, _, rfl⟩ := map_some e2; simp [PyData.eqv])
  | .tup xs, y, h, h', p, q, hx, hy, e1, e2 => by
    obtain ⟨ps, e3, rfl⟩ := map_some e1
    cases h with
    | zero => cases hx
    | succ h =>
      cases y with
      | tup ys =>
        cases h' with
        | zero => cases hy
        | succ h' =>
          obtain ⟨qs, e4, rfl⟩ := map_some e2
          have := eqvL_pl xs ys h h' ps qs hx hy e3 e4
          simp only [PyData.eqv, D.tup.injEq]
          exact this
      | lst ys =>
        obtain ⟨qs, e4, rfl⟩ := map_some e2
        simp [PyData.eqv]
      | non => cases e2; simp [PyData.eqv]
      | int i => cases e2; simp [PyData.eqv]
      | str s => cases e2; simp [PyData.eqv]
      | _ => cases h' <;> cases hy
  | .lst xs, y, h, h', p, q, hx, hy, e1, e2 => by
    obtain ⟨ps, e3, rfl⟩ := map_some e1
    cases h with
    | zero => cases hx
    | succ h =>
      cases y with
      | lst ys =>
        cases h' with
        | zero => cases hy
        | succ h' =>
          obtain ⟨qs, e4, rfl⟩ := map_some e2
          have := eqvL_pl xs ys h h' ps qs hx hy e3 e4
          simp only [PyData.eqv, D.lst.injEq]
          exact this
      | tup ys =>
        obtain ⟨qs, e4, rfl⟩ := map_some e2
        simp [PyData.eqv]
      | non => cases e2; simp [PyData.eqv]
      | int i => cases e2; simp [PyData.eqv]
      | str s => cases e2; simp [PyData.eqv]
      | _ => cases h' <;> cases hy
  | .bl _, _, h, _, _, _, hx, _, _, _ => by cases h <;> cases hx
  | .ml _, _, h, _, _, _, hx, _, _, _ => by cases h <;> cases hx
  | .obj _ _ _, _, h, _, _, _, hx, _, _, _ => by cases h <;> cases hx
  | .fo _ _ _, _, h, _, _, _, hx, _, _, _ => by cases h <;> cases hx
  | .ref _, _, h, _, _, _, hx, _, _, _ => by cases h <;> cases hx
  | .un, _, h, _, _, _, hx, _, _, _ => by cases h <;> cases hx
theorem eqvL_pl : ∀ (xs ys : List D) (h h' : Nat) (ps qs : List PyData), plL h xs = true → plL h' ys = true → toPL xs = some ps → toPL ys = some qs → (PyData.eqvAll ps qs = true ↔ xs = ys)
  | [], [], _, _, _, _, _, _, e1, e2 => by
    cases e1
    cases e2
    simp [PyData.eqvAll]
  | [], y :: ys, _, _, _, _, _, _, e1, e2 => by
    cases e1
    obtain ⟨p, _, e2⟩ := bind_some e2
    obtain ⟨ps, _, rfl⟩ := map_some e2
    simp [PyData.eqvAll]
  | x :: xs, [], _, _, _, _, _, _, e1, e2 => by
    cases e2
    obtain ⟨p, _, e1⟩ := bind_some e1
    obtain ⟨ps, _, rfl⟩ := map_some e1
    simp [PyData.eqvAll]
  | x :: xs, y :: ys, h, h', _, _, hx, hy, e1, e2 => by
    unfold plL at hx hy
    obtain ⟨a1, b1⟩ := Bool.and_eq_true_iff.mp hx
    obtain ⟨a2, b2⟩ := Bool.and_eq_true_iff.mp hy
    obtain ⟨p, p1, e1⟩ := bind_some e1
    obtain ⟨ps, p2, rfl⟩ := map_some e1
    obtain ⟨q, q1, e2⟩ := bind_some e2
    obtain ⟨qs, q2, rfl⟩ := map_some e2
    have h1 := eqv_pl x y h h' p q a1 a2 p1 q1
    have h2 := eqvL_pl xs ys h h' ps qs b1 b2 p2 q2
    simp only [PyData.eqvAll, Bool.and_eq_true, List.cons.injEq, h1, h2]
end
/-- equality of plain trees -/
theorem eqDB_pl {x y : D} {h h' : Nat} (hx : pl h x = true) (hy : pl h' y = true) (hh : h ≤ 60) (hh' : h' ≤ 60) : ∃ b, eqDB x y = some b ∧ (b = true ↔ x = y) := by
  obtain ⟨p, p1, p2, p3⟩ := pl_toP h x hx
  obtain ⟨q, q1, q2, q3⟩ := pl_toP h' y hy
  have gen : ∀ u v, atom x = some u → atom y = some v → ∃ b, (if scal u v = true then some (decide (u = v)) else none) = some b ∧ (b = true ↔ x = y) := by
    intro u v e1 e2
    cases x <;> first
      | (cases h <;> cases hx; done)
      | (cases e1; done)
      | (cases e1
         cases y <;> first
          | (cases h' <;> cases hy; done)
          | (cases e2; done)
          | (cases e2
             refine ⟨_, if_pos rfl, ?_⟩
             rw [decide_eq_true_iff]
             constructor
             · intro z
               first
                | rfl
                | (cases z; done)
                | (injection z with z; rw [z]; done)
                | (injection z with z; rw [tr_inj z])
             · intro z
               first
                | rfl
                | (cases z; done)
                | (injection z with z; rw [z])))
  unfold eqDB
  have sh : ∀ {p : PyData} {h : Nat}, p.canLay0 = true → p.depth ≤ h → h ≤ 60 → SeqAt.shaped p = true := fun h1 h2 h3 => Bool.and_eq_true_iff.mpr ⟨h1, decide_eq_true (by omega)⟩
  have rest : ∃ b, ((toP x).bind fun p => (toP y).bind fun q => if SeqAt.shaped p = true ∧ SeqAt.shaped q = true then some (PyData.eqv p q) else none) = some b ∧ (b = true ↔ x = y) := by
    rw [p1, q1, Option.bind_some, Option.bind_some, if_pos ⟨sh p2 p3 hh, sh q2 q3 hh'⟩]
    exact ⟨_, rfl, eqv_pl x y h h' p q hx hy p1 q1⟩
  cases e1 : atom x with
  | none => exact rest
  | some u =>
    cases e2 : atom y with
    | none => exact rest
    | some v => exact gen u v e1 e2
theorem dEq_pl {x y : D} {h h' : Nat} (hx : pl h x = true) (hy : pl h' y = true) (hh : h ≤ 60) (hh' : h' ≤ 60) : ∃ b, dEq x y = some (.bl b) ∧ (b = true ↔ x = y) := by
  obtain ⟨b, h1, h2⟩ := eqDB_pl hx hy hh hh'
  exact ⟨b, by unfold dEq; rw [h1]; rfl, h2⟩
theorem dNe_pl {x y : D} {h h' : Nat} (hx : pl h x = true) (hy : pl h' y = true) (hh : h ≤ 60) (hh' : h' ≤ 60) : ∃ b, dNe x y = some (.bl (!b)) ∧ (b = true ↔ x = y) := by
  obtain ⟨b, h1, h2⟩ := eqDB_pl hx hy hh hh'
  exact ⟨b, by unfold dNe; rw [h1]; rfl, h2⟩
theorem dEq_of {x y : D} {h h' : Nat} (hx : pl h x = true) (hy : pl h' y = true) (hh : h ≤ 60) (hh' : h' ≤ 60) (e : x = y) : dEq x y = some (.bl true) := by
  obtain ⟨b, h1, h2⟩ := dEq_pl hx hy hh hh'
  rw [h1, h2.mpr e]
theorem dNe_of {x y : D} {h h' : Nat} (hx : pl h x = true) (hy : pl h' y = true) (hh : h ≤ 60) (hh' : h' ≤ 60) (e : x = y) : dNe x y = some (.bl false) := by
  obtain ⟨b, h1, h2⟩ := dNe_pl hx hy hh hh'
  rw [h1, h2.mpr e]
  rfl
/-! ### comprehensions -/
section
variable {g : D → List D → Option (List D)} {t : FB} {f : FQ} {ρ μ : List D}
theorem lcL_map {α : Type} (A : α → D) (T : α → Bool) (Y : α → D) : ∀ (as : List α), (∀ a ∈ as, ∃ ρ', g (A a) ρ = some ρ' ∧ t ρ' μ = some (T a) ∧ (T a = true → f ρ' μ = some (Y a) ∧ data (Y a) = true)) → lcL g t f ρ μ (as.map A) = some ((as.filter T).map Y)
  | [], _ => rfl
  | a :: as, h => by
    obtain ⟨ρ', h1, h2, h3⟩ := h a (List.mem_cons_self ..)
    have ih := lcL_map A T Y as fun b hb => h b (List.mem_cons_of_mem _ hb)
    rw [List.map_cons]
    unfold lcL
    rw [h1, Option.bind_some, h2, Option.bind_some]
    by_cases ht : T a = true
    · obtain ⟨h4, h5⟩ := h3 ht
      rw [if_pos ht, h4, Option.bind_some, if_pos h5, ih, List.filter_cons_of_pos ht]
      rfl
    · rw [if_neg ht, ih, List.filter_cons_of_neg ht]
end
theorem qLc_eq (it : FA) (g : D → List D → Option (List D)) (vs : List Nat) (t : FB) (f : FQ) (x0 : D) (ρ μ : List D) : qLc it g vs t f (x0 :: ρ) μ = (it (x0 :: ρ) μ).bind fun ds => if ds.length ≤ LIM then lcL g t f (wipeD (x0 :: ρ) vs) μ ds else none := rfl
theorem wipeD_nil (ρ : List D) : wipeD ρ [] = ρ := rfl
theorem wipeD_cons (ρ : List D) (v : Nat) (vs : List Nat) : wipeD ρ (v :: vs) = (wipeD ρ vs).set v .un := rfl
theorem bYes_eq (x0 : D) (ρ μ : List D) : bYes (x0 :: ρ) μ = some true := rfl
theorem itemsQ_ml (ds : List D) : itemsQ (.ml ds) = if dataL ds = true then some ds else none := rfl
theorem itemsQ_lst (ds : List D) : itemsQ (.lst ds) = some ds := rfl
theorem itemsQ_tup (ds : List D) : itemsQ (.tup ds) = if dataL ds = true then some ds else none := rfl
theorem itemsQ_str (s : List Nat) : itemsQ (.str s) = some (s.map fun c => .str [c]) := rfl
theorem dIs_bl (a b : Bool) : dIs (.bl a) (.bl b) = some (.bl (decide (a = b))) := rfl
theorem dIsNot_bl (a b : Bool) : dIsNot (.bl a) (.bl b) = some (.bl (!decide (a = b))) := rfl
theorem dIs_nn : dIs .non .non = some (.bl true) := rfl
theorem dIsNot_nn : dIsNot .non .non = some (.bl false) := rfl
theorem asL_lst (ds : List D) : asL (.lst ds) = some ds := rfl
theorem noLL_nil : noLL [] = true := rfl
theorem noLL_cons (d : D) (ds : List D) : noLL (d :: ds) = (noL d && noLL ds) := rfl
theorem noL_str (s : List Nat) : noL (.str s) = true := rfl
theorem noL_int (s : Int) : noL (.int s) = true := rfl
theorem noL_bl (s : Bool) : noL (.bl s) = true := rfl
theorem noL_non : noL .non = true := rfl
theorem noL_tup (ds : List D) : noL (.tup ds) = noLL ds := rfl
theorem fzL_strs : ∀ es : List (List Nat), fzL (es.map D.str) = es.map D.str
  | [] => rfl
  | e :: es => congrArg (D.str e :: ·) (fzL_strs es)
theorem fzL_ints : ∀ es : List Int, fzL (es.map D.int) = es.map D.int
  | [] => rfl
  | e :: es => congrArg (D.int e :: ·) (fzL_ints es)
end Fw
namespace G
open PySem PySem.Spec PyProof.Rows L2 Fw
def top (i : Nat) : Stmt := PySem.Challenge.pw_framepost_k21_a_number_read.main.body.getD i (.Pass ⟨0, 0, 0, 0⟩)
def mstm (s : Stmt) (j : Nat) : Stmt := match s with
  | .ClassDef _ _ _ body _ _ _ _ _ _ _ => body.getD j (.Pass ⟨0, 0, 0, 0⟩)
  | s => s
def g_FIGURES : D := .str (ofS "0123456789abcdef")
def okL : List (Str × Str) := [("Number", "base"), ("Number", "figures"), ("Number", "most"), ("Number", "number")]
def okF : OkT := okT okL
theorem okf_Number_base : okF "Number" "base" = true := by decide +kernel
theorem okf_Number_figures : okF "Number" "figures" = true := by decide +kernel
theorem okf_Number_most : okF "Number" "most" = true := by decide +kernel
theorem okf_Number_number : okF "Number" "number" = true := by decide +kernel
def sh_Number : List Str := ["base", "most", "figures", "number"]
theorem ix_Number_awaited : fidx "awaited" sh_Number = none := by decide +kernel
theorem ix_Number_base : fidx "base" sh_Number = some 0 := by decide +kernel
theorem ix_Number_fed : fidx "fed" sh_Number = none := by decide +kernel
theorem ix_Number_figures : fidx "figures" sh_Number = some 2 := by decide +kernel
theorem ix_Number_good : fidx "good" sh_Number = none := by decide +kernel
theorem ix_Number_most : fidx "most" sh_Number = some 1 := by decide +kernel
theorem ix_Number_number : fidx "number" sh_Number = some 3 := by decide +kernel
theorem ix_Number_told : fidx "told" sh_Number = none := by decide +kernel
theorem ln_Number : sh_Number.length = 4 := rfl
abbrev s__law_cell_at : Stmt := top 4
abbrev s_Number___init__ : Stmt := mstm (top 2) 0
abbrev s_Number_awaited : Stmt := mstm (top 2) 3
abbrev s_Number_good : Stmt := mstm (top 2) 2
abbrev s_Number_fed : Stmt := mstm (top 2) 1
abbrev s_Number_told : Stmt := mstm (top 2) 4
abbrev s__law_value : Stmt := top 7
abbrev s__law_right : Stmt := top 9
abbrev s__law_stream : Stmt := top 5
abbrev s__law_sign : Stmt := top 6
abbrev s__law_may : Stmt := top 8
abbrev s_law : Stmt := top 10
abbrev D__law_cell_at : He.DefD := ⟨("_law_cell_at", none), "_law_cell_at", "_law_cell_at", defArgs s__law_cell_at, defBody s__law_cell_at, defScope s__law_cell_at, [], []⟩
abbrev D__law_value : He.DefD := ⟨("_law_value", none), "_law_value", "_law_value", defArgs s__law_value, defBody s__law_value, defScope s__law_value, [], []⟩
abbrev D__law_right : He.DefD := ⟨("_law_right", none), "_law_right", "_law_right", defArgs s__law_right, defBody s__law_right, defScope s__law_right, [], []⟩
abbrev D__law_stream : He.DefD := ⟨("_law_stream", none), "_law_stream", "_law_stream", defArgs s__law_stream, defBody s__law_stream, defScope s__law_stream, [], []⟩
abbrev D__law_sign : He.DefD := ⟨("_law_sign", none), "_law_sign", "_law_sign", defArgs s__law_sign, defBody s__law_sign, defScope s__law_sign, [], []⟩
abbrev D__law_may : He.DefD := ⟨("_law_may", none), "_law_may", "_law_may", defArgs s__law_may, defBody s__law_may, defScope s__law_may, [], []⟩
abbrev D_law : He.DefD := ⟨("law", none), "law", "law", defArgs s_law, defBody s_law, defScope s_law, [], []⟩
abbrev DM_Number_good : He.DefD := ⟨("Number", some "good"), "good", "Number.good", defArgs s_Number_good, defBody s_Number_good, defScope s_Number_good, [], []⟩
abbrev DM_Number_told : He.DefD := ⟨("Number", some "told"), "told", "Number.told", defArgs s_Number_told, defBody s_Number_told, defScope s_Number_told, [], []⟩
abbrev DM_Number_awaited : He.DefD := ⟨("Number", some "awaited"), "awaited", "Number.awaited", defArgs s_Number_awaited, defBody s_Number_awaited, defScope s_Number_awaited, [], []⟩
abbrev DM_Number_fed : He.DefD := ⟨("Number", some "fed"), "fed", "Number.fed", defArgs s_Number_fed, defBody s_Number_fed, defScope s_Number_fed, [], []⟩
abbrev DM_Number___init__ : He.DefD := ⟨("Number", some "__init__"), "__init__", "Number.__init__", defArgs s_Number___init__, defBody s_Number___init__, defScope s_Number___init__, [], []⟩
def f__law_cell_at : FS :=
  fSeq (fIf (qB (q2 dLt (qVar 1) (qCall (o1 dLen) (aCons (qVar 0) (aNil))))) (fRet (q2 dIx (qVar 0) (qVar 1))) (fNext))
    (fRet (qC (.int 0)))
def r__law_cell_at : List D → Option D := runQ 2 2 f__law_cell_at
def f_Number___init__ : FS :=
  fSeq (fFldX okF 0 [] "base" (xQ (qVar 1)))
    (fSeq (fFldX okF 0 [] "most" (xQ (qVar 2)))
    (fSeq (fFldX okF 0 [] "figures" (xQ (qC (.str (ofS "")))))
    (fFldX okF 0 [] "number" (xQ (qC (.int 0))))))
def r_Number___init__ : RX := runX 3 [true, false, false] f_Number___init__
def f_Number_awaited : FS :=
  fSeq (fIf (qB (q2 dEq (qFld okF "figures" (qVar 0)) (qC (.str (ofS ""))))) (fRet (qC (.str (ofS "0")))) (fNext))
    (fRet (qC (.str (ofS ""))))
def r_Number_awaited : RF := runF 1 f_Number_awaited
def mt2_awaited : MTF := tbl [("Number", r_Number_awaited)]
theorem mt2_awaited_Number : mt2_awaited "Number" = some r_Number_awaited := by rfl
def f_Number_good : FS :=
  fRet (q2 dNe (qFld okF "figures" (qVar 0)) (qC (.str (ofS ""))))
def r_Number_good : RF := runF 1 f_Number_good
def mt0_good : MTF := tbl [("Number", r_Number_good)]
theorem mt0_good_Number : mt0_good "Number" = some r_Number_good := by rfl
def f_Number_fed : FS :=
  fSeq (fIf (bOr (qB (q2 dNe (qCall (o1 dLen) (aCons (qVar 1) (aNil))) (qC (.int 1)))) (bOr (qB (q2 dNotIn (qVar 1) (qSl (qC g_FIGURES) oNone (oSome (qFld okF "base" (qVar 0)))))) (qB (q2 dEq (qFld okF "figures" (qVar 0)) (qC (.str (ofS "0"))))))) (fRet (qC (.bl false))) (fNext))
    (fSeq (fSet 2 (q2 dAdd (q2 dMul (qFld okF "number" (qVar 0)) (qFld okF "base" (qVar 0))) (qM1 oIndex (qC g_FIGURES) (qVar 1))))
    (fSeq (fIf (qB (q2 dGt (qVar 2) (qFld okF "most" (qVar 0)))) (fRet (qC (.bl false))) (fNext))
    (fSeq (fFldX okF 0 [] "figures" (xQ (q2 dAdd (qFld okF "figures" (qVar 0)) (qVar 1))))
    (fSeq (fFldX okF 0 [] "number" (xQ (qVar 2)))
    (fRet (qC (.bl true)))))))
def r_Number_fed : RX := runX 3 [true, false] f_Number_fed
def mt3_fed : MT := tbl [("Number", r_Number_fed)]
theorem mt3_fed_Number : mt3_fed "Number" = some r_Number_fed := by rfl
def f_Number_told : FS :=
  fRet (qFld okF "number" (qVar 0))
def r_Number_told : RF := runF 1 f_Number_told
def mt1_told : MTF := tbl [("Number", r_Number_told)]
theorem mt1_told_Number : mt1_told "Number" = some r_Number_told := by rfl
def f__law_value : FS :=
  fSeq (fSet 2 (qC (.int 0)))
    (fSeq (fFor (aF (qVar 0)) (tgN 3) (fSet 2 (q2 dAdd (q2 dMul (qVar 2) (qVar 1)) (qM1 oIndex (qC (.str (ofS "0123456789abcdef"))) (qVar 3)))))
    (fRet (qVar 2)))
def r__law_value : List D → Option D := runQ 4 2 f__law_value
def f__law_right : FS :=
  fSeq (fIf (bOr (bNot (qB (qIsi "bool" (qMethF "good" 1 [] mt0_good (qVar 0) (aNil))))) (qB (q2 dNe (qMethF "good" 1 [] mt0_good (qVar 0) (aNil)) (q2 dNe (qVar 1) (qC (.str (ofS ""))))))) (fRet (qC (.bl false))) (fNext))
    (fSeq (fIf (bAnd (qB (q2 dNe (qVar 1) (qC (.str (ofS ""))))) (bOr (qB (q2 dNe (qMethF "told" 1 [] mt1_told (qVar 0) (aNil)) (qRun 2 [] r__law_value (aCons (qVar 1) (aCons (qVar 2) (aNil)))))) (qB (qIsi "bool" (qMethF "told" 1 [] mt1_told (qVar 0) (aNil)))))) (fRet (qC (.bl false))) (fNext))
    (fSeq (fSet 4 (qMethF "awaited" 1 [] mt2_awaited (qVar 0) (aNil)))
    (fSeq (fIf (bOr (bNot (qB (qIsi "str" (qVar 4)))) (qB (q2 dNe (q2 dEq (qVar 4) (qC (.str (ofS "")))) (q2 dNe (qVar 1) (qC (.str (ofS ""))))))) (fRet (qC (.bl false))) (fNext))
    (fSeq (fSetX 5 (xMake "Number" 3 [] r_Number___init__ (xaCons (xQ (qVar 2)) (xaCons (xQ (qVar 3)) (xaNil)))))
    (fSeq (fFor (aF (q2 dAdd (qVar 1) (qVar 4))) (tgN 6) (fIfX (xOp dIsNot (xMethS 5 "fed" 2 [] mt3_fed (xaCons (xQ (qVar 6)) (xaNil))) (xQ (qC (.bl true)))) (fRet (qC (.bl false))) (fNext)))
    (fRet (q2 dIs (qMethF "good" 1 [] mt0_good (qVar 5) (aNil)) (qC (.bl true)))))))))
def r__law_right : RF := runF 7 f__law_right
def f__law_stream : FS :=
  fSeq (fSetN 2 (aData (aNil)))
    (fSeq (fSet 3 (q2 dMod (q2 dMul (q2 dAdd (qVar 0) (qC (.int 1))) (qC (.int 48271))) (qC (.int 2147483647))))
    (fSeq (fFor (aR1 (qVar 1)) (tgN 4) (fSeq (fSet 3 (q2 dMod (q2 dMul (q2 dAdd (q2 dAdd (qVar 3) (q2 dMul (qC (.int 7919)) (qVar 4))) (qC (.int 1))) (q2 dAdd (q2 dFdiv (qVar 3) (qC (.int 1009))) (qC (.int 69621)))) (qC (.int 2147483647))))
    (fApp 2 (qVar 3))))
    (fFz 2 (fRet (qVar 2)))))
def r__law_stream : List D → Option D := runQ 5 2 f__law_stream
def f__law_sign : FS :=
  fSeq (fSet 1 (qC (.str (ofS " !\"#$&'()*+,-./0123456789:;<=>?@ABCDEFGHIJKLMNOPQRSTUVWXYZ[\\]^_`"))))
    (fSeq (fSet 1 (q2 dAdd (qVar 1) (qC (.str (ofS "abcdefghijklmnopqrstuvwxyz{|}~\n")))))
    (fRet (q2 dIx (qVar 1) (q2 dMod (qVar 0) (qC (.int 95))))))
def r__law_sign : List D → Option D := runQ 2 1 f__law_sign
def f__law_may : FS :=
  fSeq (fIf (bOr (qB (q2 dNotIn (qVar 1) (qSl (qC (.str (ofS "0123456789abcdef"))) oNone (oSome (qVar 2))))) (qB (q2 dEq (qVar 0) (qC (.str (ofS "0")))))) (fRet (qC (.bl false))) (fNext))
    (fRet (q2 dLe (qRun 2 [] r__law_value (aCons (q2 dAdd (qVar 0) (qVar 1)) (aCons (qVar 2) (aNil)))) (qVar 3)))
def r__law_may : List D → Option D := runQ 4 4 f__law_may
def f_law : FS :=
  fSeq (fSet 1 (qRun 2 [] r__law_cell_at (aCons (qVar 0) (aCons (qC (.int 0)) (aNil)))))
    (fSeq (fSet 2 (q2 dIx (qN (aData (aCons (qC (.int 10)) (aCons (qC (.int 16)) (aNil))))) (q2 dMod (qVar 1) (qC (.int 2)))))
    (fSeq (fSet 3 (q2 dMod (qRun 2 [] r__law_cell_at (aCons (qVar 0) (aCons (qC (.int 1)) (aNil)))) (q2 dIx (qN (aData (aCons (qC (.int 41)) (aCons (qC (.int 1001)) (aCons (q2 dPow (qC (.int 10)) (qC (.int 12))) (aNil)))))) (q2 dMod (q2 dFdiv (qVar 1) (qC (.int 2))) (qC (.int 3))))))
    (fSeq (fSetX 4 (xMake "Number" 3 [] r_Number___init__ (xaCons (xQ (qVar 2)) (xaCons (xQ (qVar 3)) (xaNil)))))
    (fSeq (fSet 5 (qC (.str (ofS ""))))
    (fSeq (fFor (aF (qSl (qVar 0) (oSome (qC (.int 2))) (oSome (qC (.int 42))))) (tgN 6) (fSeq (fSet 7 (qRun 2 [] r__law_stream (aCons (qVar 6) (aCons (qC (.int 3)) (aNil)))))
    (fSeq (fSet 8 (qRun 1 [] r__law_sign (aCons (q2 dIx (qVar 7) (qC (.int 0))) (aNil))))
    (fSeq (fIf (qB (q2 dEq (q2 dMod (q2 dIx (qVar 7) (qC (.int 1))) (qC (.int 2))) (qC (.int 0)))) (fSet 8 (q2 dIx (qC (.str (ofS "0123456789abcdef"))) (q2 dMod (q2 dIx (qVar 7) (qC (.int 2))) (qVar 2)))) (fNext))
    (fSeq (fSet 9 (qRun 4 [] r__law_may (aCons (qVar 5) (aCons (qVar 8) (aCons (qVar 2) (aCons (qVar 3) (aNil)))))))
    (fSeq (fSetX 10 (xMethS 4 "fed" 2 [] mt3_fed (xaCons (xQ (qVar 8)) (xaNil))))
    (fSeq (fIf (bOr (bNot (qB (qIsi "bool" (qVar 10)))) (qB (q2 dNe (qVar 10) (qVar 9)))) (fRet (qC (.bl false))) (fNext))
    (fSeq (fIf (qB (qVar 9)) (fSet 5 (q2 dAdd (qVar 5) (qVar 8))) (fNext))
    (fIf (bNot (qB (qRunF 4 [] r__law_right (aCons (qVar 4) (aCons (qVar 5) (aCons (qVar 2) (aCons (qVar 3) (aNil)))))))) (fRet (qC (.bl false))) (fNext))))))))))
    (fRet (qRunF 4 [] r__law_right (aCons (qVar 4) (aCons (qVar 5) (aCons (qVar 2) (aCons (qVar 3) (aNil))))))))))))
def r_law : RF := runF 11 f_law
/-- what the top has left -/
structure Tx (P : Program) (w : World) (K : PySem.W.Frag) (mg : Str → Option Value) (base : Heap) : Prop where
  b_bool : mg "bool" = none
  b_isinstance : mg "isinstance" = none
  b_len : mg "len" = none
  b_range : mg "range" = none
  b_str : mg "str" = none
  g_FIGURES : GlD K mg "FIGURES" g_FIGURES
  m__law_cell_at : mg "_law_cell_at" = some (.ref (He.ga K "_law_cell_at"))
  m__law_value : mg "_law_value" = some (.ref (He.ga K "_law_value"))
  m__law_right : mg "_law_right" = some (.ref (He.ga K "_law_right"))
  m__law_stream : mg "_law_stream" = some (.ref (He.ga K "_law_stream"))
  m__law_sign : mg "_law_sign" = some (.ref (He.ga K "_law_sign"))
  m__law_may : mg "_law_may" = some (.ref (He.ga K "_law_may"))
  m_law : mg "law" = some (.ref (He.ga K "law"))
  c_Number : Cls K (He.ga K "Number")
  n_Number_base : NoAttr K (He.ga K "Number") "base"
  n_Number_figures : NoAttr K (He.ga K "Number") "figures"
  n_Number_most : NoAttr K (He.ga K "Number") "most"
  n_Number_number : NoAttr K (He.ga K "Number") "number"
  h_Number_good : Meth K (He.ga K "Number") "good" (He.ma K (He.ga K "Number") "good")
  h_Number_told : Meth K (He.ga K "Number") "told" (He.ma K (He.ga K "Number") "told")
  h_Number_awaited : Meth K (He.ga K "Number") "awaited" (He.ma K (He.ga K "Number") "awaited")
  h_Number_fed : Meth K (He.ga K "Number") "fed" (He.ma K (He.ga K "Number") "fed")
  k_Number : Mk K (He.ga K "Number") (He.ma K (He.ga K "Number") "__init__")
  m_Number : mg "Number" = some (.ref (He.ga K "Number"))
  d__law_cell_at : ∃ fd, FunD K "_law_cell_at" "_law_cell_at" (defArgs s__law_cell_at) (defBody s__law_cell_at) (defScope s__law_cell_at) [] [] (He.ga K "_law_cell_at") fd
  d__law_value : ∃ fd, FunD K "_law_value" "_law_value" (defArgs s__law_value) (defBody s__law_value) (defScope s__law_value) [] [] (He.ga K "_law_value") fd
  d__law_right : ∃ fd, FunD K "_law_right" "_law_right" (defArgs s__law_right) (defBody s__law_right) (defScope s__law_right) [] [] (He.ga K "_law_right") fd
  d__law_stream : ∃ fd, FunD K "_law_stream" "_law_stream" (defArgs s__law_stream) (defBody s__law_stream) (defScope s__law_stream) [] [] (He.ga K "_law_stream") fd
  d__law_sign : ∃ fd, FunD K "_law_sign" "_law_sign" (defArgs s__law_sign) (defBody s__law_sign) (defScope s__law_sign) [] [] (He.ga K "_law_sign") fd
  d__law_may : ∃ fd, FunD K "_law_may" "_law_may" (defArgs s__law_may) (defBody s__law_may) (defScope s__law_may) [] [] (He.ga K "_law_may") fd
  d_law : ∃ fd, FunD K "law" "law" (defArgs s_law) (defBody s_law) (defScope s_law) [] [] (He.ga K "law") fd
  d_Number_good : ∃ fd, FunD K "good" "Number.good" (defArgs s_Number_good) (defBody s_Number_good) (defScope s_Number_good) [] [] (He.ma K (He.ga K "Number") "good") fd
  d_Number_told : ∃ fd, FunD K "told" "Number.told" (defArgs s_Number_told) (defBody s_Number_told) (defScope s_Number_told) [] [] (He.ma K (He.ga K "Number") "told") fd
  d_Number_awaited : ∃ fd, FunD K "awaited" "Number.awaited" (defArgs s_Number_awaited) (defBody s_Number_awaited) (defScope s_Number_awaited) [] [] (He.ma K (He.ga K "Number") "awaited") fd
  d_Number_fed : ∃ fd, FunD K "fed" "Number.fed" (defArgs s_Number_fed) (defBody s_Number_fed) (defScope s_Number_fed) [] [] (He.ma K (He.ga K "Number") "fed") fd
  d_Number___init__ : ∃ fd, FunD K "__init__" "Number.__init__" (defArgs s_Number___init__) (defBody s_Number___init__) (defScope s_Number___init__) [] [] (He.ma K (He.ga K "Number") "__init__") fd
section
variable {P : Program} {w : World} {K : PySem.W.Frag} {mg : Str → Option Value} {base : Heap}
theorem Tx.ce (T : Tx P w K mg base) : CE K okF := ce_of (L := okL) (List.forall_mem_cons.mpr ⟨⟨T.c_Number, T.n_Number_base⟩, (List.forall_mem_cons.mpr ⟨⟨T.c_Number, T.n_Number_figures⟩, (List.forall_mem_cons.mpr ⟨⟨T.c_Number, T.n_Number_most⟩, (List.forall_mem_cons.mpr ⟨⟨T.c_Number, T.n_Number_number⟩, (fun p hp => nomatch hp)⟩)⟩)⟩)⟩)
theorem sc__law_cell_at : FnScope ["_law_script", "_law_k"] ["_law_script", "_law_k"] (defScope s__law_cell_at) := ⟨rfl, rfl, rfl, by decide +kernel, rfl, by decide +kernel, by decide +kernel⟩
theorem pss__law_cell_at (T : Tx P w K mg base) {fa : Addr} {cdv : Value} {A : Around} {outer : List Env} {s : Shared} {H : Hp} {E : XK} (hr : Room 0 (A.deeper (envOfC "_law_cell_at" (defScope s__law_cell_at) s.heap.objs.size fa cdv))) :
    PSS (cxOf (L2.CX P w) P w K mg base ["_law_script", "_law_k"] "_law_cell_at" (defScope s__law_cell_at) fa cdv A outer s H E) [] (fun _ _ _ _ => False) (defBody s__law_cell_at) f__law_cell_at :=
  (pss_cons' (ps1_if (pb_cmp opd_lt (pq_var 1 (pv 1)) (pq_callB cd_len T.b_len (by decide +kernel) (paq_cons (pq_var 0 (pv 0)) paq_nil)) (nomark _)) (pss_one' (ps1_ret (pq_ix (pq_var 0 (pv 0)) (pq_var 1 (pv 1))))) pss_nil')
      (pss_one' (ps1_ret pq_int)))
theorem ok__law_cell_at (T : Tx P w K mg base) : OkQ P w K mg base "_law_cell_at" 1 2 [] r__law_cell_at := by
  obtain ⟨fd, F⟩ := T.d__law_cell_at
  exact okq_def F sc__law_cell_at rfl (F.bindsN (fun _ _ _ _ _ _ us hl => match us, hl with | [_, _], _ => rfl)) .nil (fun _ => ⟨rfl, rfl⟩) rfl T.m__law_cell_at (fun cdv A outer s H E hr => pss__law_cell_at T hr) fun _ _ h => h
theorem sc_Number___init__ : FnScope ["self", "base", "most"] ["self", "base", "most"] (defScope s_Number___init__) := ⟨rfl, rfl, rfl, by decide +kernel, rfl, by decide +kernel, by decide +kernel⟩
theorem pss_Number___init__ (T : Tx P w K mg base) {fa : Addr} {cdv : Value} {A : Around} {outer : List Env} {s : Shared} {H : Hp} {E : XK} (hr : Room 0 (A.deeper (envOfC "Number.__init__" (defScope s_Number___init__) s.heap.objs.size fa cdv))) :
    PSS (cxOf (L2.CX P w) P w K mg base ["self", "base", "most"] "Number.__init__" (defScope s_Number___init__) fa cdv A outer s H E) [0] (fun cls dx _ H' => E cls dx H') (defBody s_Number___init__) f_Number___init__ :=
  (pss_cons' (ps1_fldX T.ce (pp_var (pv 0)) (px_q (pq_var 1 (pv 1))))
      (pss_cons' (ps1_fldX T.ce (pp_var (pv 0)) (px_q (pq_var 2 (pv 2))))
      (pss_cons' (ps1_fldX T.ce (pp_var (pv 0)) (px_q (pq_str "")))
      (pss_one' (ps1_fldX T.ce (pp_var (pv 0)) (px_q pq_int))))))
theorem ok_Number_make (T : Tx P w K mg base) : OkK P w K mg base "Number" 1 3 [] r_Number___init__ := by
  obtain ⟨fd, F⟩ := T.d_Number___init__
  exact ⟨_, fd, _, [], [], fnx_def F sc_Number___init__ rfl (ks := [true, false, false]) (ob := [0]) (hob_of rfl) (fun cdv A outer s H E hr => pss_Number___init__ T hr) (fun _ _ _ h => h), F.bindsN (fun _ _ _ _ _ _ us hl => match us, hl with | [_, _, _], _ => rfl), .nil, fun _ => ⟨rfl, rfl⟩, T.k_Number, T.m_Number⟩
theorem sc_Number_awaited : FnScope ["self"] ["self"] (defScope s_Number_awaited) := ⟨rfl, rfl, rfl, by decide +kernel, rfl, by decide +kernel, by decide +kernel⟩
theorem pss_Number_awaited (T : Tx P w K mg base) {fa : Addr} {cdv : Value} {A : Around} {outer : List Env} {s : Shared} {H : Hp} {E : XK} (hr : Room 0 (A.deeper (envOfC "Number.awaited" (defScope s_Number_awaited) s.heap.objs.size fa cdv))) :
    PSS (cxOf (L2.CX P w) P w K mg base ["self"] "Number.awaited" (defScope s_Number_awaited) fa cdv A outer s H E) [] (fun _ _ _ _ => False) (defBody s_Number_awaited) f_Number_awaited :=
  (pss_cons' (ps1_if (pb_cmp (opd_eq hr) (pq_fld T.ce (pq_var 0 (pv 0))) (pq_str "") (nomark _)) (pss_one' (ps1_ret (pq_str "0"))) pss_nil')
      (pss_one' (ps1_ret (pq_str ""))))
theorem ok_Number_awaited_at (T : Tx P w K mg base) : OkFM P w K mg base "Number" "awaited" 1 1 [] r_Number_awaited := by
  obtain ⟨fd, F⟩ := T.d_Number_awaited
  exact ⟨_, fd, _, [], [], fnf_def (ob := []) F sc_Number_awaited rfl (fun cdv A outer s H E hr => pss_Number_awaited T hr) (fun _ _ _ h => h), F.bindsN (fun _ _ _ _ _ _ us hl => match us, hl with | [_], _ => rfl), .nil, fun _ => ⟨rfl, rfl⟩, T.c_Number, T.h_Number_awaited⟩
theorem mt2_awaited_ok (T : Tx P w K mg base) : ∀ c run, mt2_awaited c = some run → OkFM P w K mg base c "awaited" 1 1 [] run := tbl_ok (List.forall_mem_cons.mpr ⟨(ok_Number_awaited_at T).mono (by decide), (fun z hz => nomatch hz)⟩)
theorem sc_Number_good : FnScope ["self"] ["self"] (defScope s_Number_good) := ⟨rfl, rfl, rfl, by decide +kernel, rfl, by decide +kernel, by decide +kernel⟩
theorem pss_Number_good (T : Tx P w K mg base) {fa : Addr} {cdv : Value} {A : Around} {outer : List Env} {s : Shared} {H : Hp} {E : XK} (hr : Room 0 (A.deeper (envOfC "Number.good" (defScope s_Number_good) s.heap.objs.size fa cdv))) :
    PSS (cxOf (L2.CX P w) P w K mg base ["self"] "Number.good" (defScope s_Number_good) fa cdv A outer s H E) [] (fun _ _ _ _ => False) (defBody s_Number_good) f_Number_good :=
  (pss_one' (ps1_ret (pq_cmp (opd_ne hr) (pq_fld T.ce (pq_var 0 (pv 0))) (pq_str "") (nomark _))))
theorem ok_Number_good_at (T : Tx P w K mg base) : OkFM P w K mg base "Number" "good" 1 1 [] r_Number_good := by
  obtain ⟨fd, F⟩ := T.d_Number_good
  exact ⟨_, fd, _, [], [], fnf_def (ob := []) F sc_Number_good rfl (fun cdv A outer s H E hr => pss_Number_good T hr) (fun _ _ _ h => h), F.bindsN (fun _ _ _ _ _ _ us hl => match us, hl with | [_], _ => rfl), .nil, fun _ => ⟨rfl, rfl⟩, T.c_Number, T.h_Number_good⟩
theorem mt0_good_ok (T : Tx P w K mg base) : ∀ c run, mt0_good c = some run → OkFM P w K mg base c "good" 1 1 [] run := tbl_ok (List.forall_mem_cons.mpr ⟨(ok_Number_good_at T).mono (by decide), (fun z hz => nomatch hz)⟩)
theorem sc_Number_fed : FnScope ["self", "sign", "number"] ["self", "sign"] (defScope s_Number_fed) := ⟨rfl, rfl, rfl, by decide +kernel, rfl, by decide +kernel, by decide +kernel⟩
theorem pss_Number_fed (T : Tx P w K mg base) {fa : Addr} {cdv : Value} {A : Around} {outer : List Env} {s : Shared} {H : Hp} {E : XK} (hr : Room 0 (A.deeper (envOfC "Number.fed" (defScope s_Number_fed) s.heap.objs.size fa cdv))) :
    PSS (cxOf (L2.CX P w) P w K mg base ["self", "sign", "number"] "Number.fed" (defScope s_Number_fed) fa cdv A outer s H E) [0] (fun cls dx _ H' => E cls dx H') (defBody s_Number_fed) f_Number_fed :=
  (pss_cons' (ps1_if (PWB.pb (pwb_or (pb_cmp (opd_ne hr) (pq_callB cd_len T.b_len (by decide +kernel) (paq_cons (pq_var 1 (pv 1)) paq_nil)) pq_int (nomark _)) (pwb_or (pb_cmp opd_notin (pq_var 1 (pv 1)) (pq_sl (pq_glob T.g_FIGURES) poq_none (poq_some (pq_fld T.ce (pq_var 0 (pv 0))))) (by rfl)) (pw1_or (pb_cmp (opd_eq hr) (pq_fld T.ce (pq_var 0 (pv 0))) (pq_str "0") (nomark _)))))) (pss_one' (ps1_ret pq_bl)) pss_nil')
      (pss_cons' (ps1_set (i := 2) sc_Number_fed.nd rfl (by first | exact Or.inl rfl | exact Or.inr rfl) (pq_op opd_add (pq_op opd_mul (pq_fld T.ce (pq_var 0 (pv 0))) (pq_fld T.ce (pq_var 0 (pv 0)))) (pq_m1 mtd_index PySem.F.slot_str_index PySem.F.type_str_index (pq_glob T.g_FIGURES) (pq_var 1 (pv 1)))))
      (pss_cons' (ps1_if (pb_cmp opd_gt (pq_var 2 (pv 2)) (pq_fld T.ce (pq_var 0 (pv 0))) (nomark _)) (pss_one' (ps1_ret pq_bl)) pss_nil')
      (pss_cons' (ps1_fldX T.ce (pp_var (pv 0)) (px_q (pq_op opd_add (pq_fld T.ce (pq_var 0 (pv 0))) (pq_var 1 (pv 1)))))
      (pss_cons' (ps1_fldX T.ce (pp_var (pv 0)) (px_q (pq_var 2 (pv 2))))
      (pss_one' (ps1_ret pq_bl)))))))
theorem ok_Number_fed_at (T : Tx P w K mg base) : OkM P w K mg base "Number" "fed" 1 2 [] r_Number_fed := by
  obtain ⟨fd, F⟩ := T.d_Number_fed
  exact ⟨_, fd, _, [], [], fnx_def F sc_Number_fed rfl (ks := [true, false]) (ob := [0]) (hob_of rfl) (fun cdv A outer s H E hr => pss_Number_fed T hr) (fun _ _ _ h => h), F.bindsN (fun _ _ _ _ _ _ us hl => match us, hl with | [_, _], _ => rfl), .nil, fun _ => ⟨rfl, rfl⟩, T.c_Number, T.h_Number_fed⟩
theorem mt3_fed_ok (T : Tx P w K mg base) : ∀ c run, mt3_fed c = some run → OkM P w K mg base c "fed" 1 2 [] run := tbl_ok (List.forall_mem_cons.mpr ⟨(ok_Number_fed_at T).mono (by decide), (fun z hz => nomatch hz)⟩)
theorem sc_Number_told : FnScope ["self"] ["self"] (defScope s_Number_told) := ⟨rfl, rfl, rfl, by decide +kernel, rfl, by decide +kernel, by decide +kernel⟩
theorem pss_Number_told (T : Tx P w K mg base) {fa : Addr} {cdv : Value} {A : Around} {outer : List Env} {s : Shared} {H : Hp} {E : XK} (hr : Room 0 (A.deeper (envOfC "Number.told" (defScope s_Number_told) s.heap.objs.size fa cdv))) :
    PSS (cxOf (L2.CX P w) P w K mg base ["self"] "Number.told" (defScope s_Number_told) fa cdv A outer s H E) [] (fun _ _ _ _ => False) (defBody s_Number_told) f_Number_told :=
  (pss_one' (ps1_ret (pq_fld T.ce (pq_var 0 (pv 0)))))
theorem ok_Number_told_at (T : Tx P w K mg base) : OkFM P w K mg base "Number" "told" 1 1 [] r_Number_told := by
  obtain ⟨fd, F⟩ := T.d_Number_told
  exact ⟨_, fd, _, [], [], fnf_def (ob := []) F sc_Number_told rfl (fun cdv A outer s H E hr => pss_Number_told T hr) (fun _ _ _ h => h), F.bindsN (fun _ _ _ _ _ _ us hl => match us, hl with | [_], _ => rfl), .nil, fun _ => ⟨rfl, rfl⟩, T.c_Number, T.h_Number_told⟩
theorem mt1_told_ok (T : Tx P w K mg base) : ∀ c run, mt1_told c = some run → OkFM P w K mg base c "told" 1 1 [] run := tbl_ok (List.forall_mem_cons.mpr ⟨(ok_Number_told_at T).mono (by decide), (fun z hz => nomatch hz)⟩)
theorem sc__law_value : FnScope ["_law_text", "_law_base", "_law_number", "_law_sign_here"] ["_law_text", "_law_base"] (defScope s__law_value) := ⟨rfl, rfl, rfl, by decide +kernel, rfl, by decide +kernel, by decide +kernel⟩
theorem pss__law_value (T : Tx P w K mg base) {fa : Addr} {cdv : Value} {A : Around} {outer : List Env} {s : Shared} {H : Hp} {E : XK} (hr : Room 0 (A.deeper (envOfC "_law_value" (defScope s__law_value) s.heap.objs.size fa cdv))) :
    PSS (cxOf (L2.CX P w) P w K mg base ["_law_text", "_law_base", "_law_number", "_law_sign_here"] "_law_value" (defScope s__law_value) fa cdv A outer s H E) [] (fun _ _ _ _ => False) (defBody s__law_value) f__law_value :=
  (pss_cons' (ps1_set (i := 2) sc__law_value.nd rfl (by first | exact Or.inl rfl | exact Or.inr rfl) pq_int)
      (pss_cons' (ps1_for (passes_of rfl) rfl (pif_any (pq_var 0 (pv 0))) (pgd_name (vs := [3]) (pg_name (i := 3) sc__law_value.nd rfl (by first | exact Or.inl rfl | exact Or.inr rfl))) (pss_one' (ps1_set (i := 2) sc__law_value.nd rfl (by first | exact Or.inl rfl | exact Or.inr rfl) (pq_op opd_add (pq_op opd_mul (pq_var 2 (pv 2)) (pq_var 1 (pv 1))) (pq_m1 mtd_index PySem.F.slot_str_index PySem.F.type_str_index (pq_str "0123456789abcdef") (pq_var 3 (pv 3)))))))
      (pss_one' (ps1_ret (pq_var 2 (pv 2))))))
theorem ok__law_value (T : Tx P w K mg base) : OkQ P w K mg base "_law_value" 1 2 [] r__law_value := by
  obtain ⟨fd, F⟩ := T.d__law_value
  exact okq_def F sc__law_value rfl (F.bindsN (fun _ _ _ _ _ _ us hl => match us, hl with | [_, _], _ => rfl)) .nil (fun _ => ⟨rfl, rfl⟩) rfl T.m__law_value (fun cdv A outer s H E hr => pss__law_value T hr) fun _ _ h => h
theorem sc__law_right : FnScope ["_law_machine", "_law_text", "_law_base", "_law_most", "_law_more", "_law_again", "_law_sign_here"] ["_law_machine", "_law_text", "_law_base", "_law_most"] (defScope s__law_right) := ⟨rfl, rfl, rfl, by decide +kernel, rfl, by decide +kernel, by decide +kernel⟩
theorem pss__law_right (T : Tx P w K mg base) {fa : Addr} {cdv : Value} {A : Around} {outer : List Env} {s : Shared} {H : Hp} {E : XK} (hr : Room 2 (A.deeper (envOfC "_law_right" (defScope s__law_right) s.heap.objs.size fa cdv))) :
    PSS (cxOf (L2.CX P w) P w K mg base ["_law_machine", "_law_text", "_law_base", "_law_most", "_law_more", "_law_again", "_law_sign_here"] "_law_right" (defScope s__law_right) fa cdv A outer s H E) [] (fun _ _ _ _ => False) (defBody s__law_right) f__law_right :=
  (pss_cons' (ps1_if (PWB.pb (pwb_or (pb_not (pb_val (pq_isi (pq_methF0 (mt0_good_ok T) (pq_var 0 (pv 0)) (hr.mono (by decide))) T.b_isinstance T.b_bool (by decide +kernel)))) (pw1_or (pb_cmp (opd_ne hr) (pq_methF0 (mt0_good_ok T) (pq_var 0 (pv 0)) (hr.mono (by decide))) (pq_cmp (opd_ne hr) (pq_var 1 (pv 1)) (pq_str "") (nomark _)) (nomark _))))) (pss_one' (ps1_ret pq_bl)) pss_nil')
      (pss_cons' (ps1_if (PWB.pb (pwb_and (pb_cmp (opd_ne hr) (pq_var 1 (pv 1)) (pq_str "") (nomark _)) (pw1_and (PWB.pb (pwb_or (pb_cmp (opd_ne hr) (pq_methF0 (mt1_told_ok T) (pq_var 0 (pv 0)) (hr.mono (by decide))) (pq_call (ok__law_value T) (hr.mono (by decide)) (paq_cons (pq_var 1 (pv 1)) (paq_cons (pq_var 2 (pv 2)) paq_nil))) (nomark _)) (pw1_or (pb_val (pq_isi (pq_methF0 (mt1_told_ok T) (pq_var 0 (pv 0)) (hr.mono (by decide))) T.b_isinstance T.b_bool (by decide +kernel))))))))) (pss_one' (ps1_ret pq_bl)) pss_nil')
      (pss_cons' (ps1_set (i := 4) sc__law_right.nd rfl (by first | exact Or.inl rfl | exact Or.inr rfl) (pq_methF0 (mt2_awaited_ok T) (pq_var 0 (pv 0)) (hr.mono (by decide))))
      (pss_cons' (ps1_if (PWB.pb (pwb_or (pb_not (pb_val (pq_isi (pq_var 4 (pv 4)) T.b_isinstance T.b_str (by decide +kernel)))) (pw1_or (pb_cmp (opd_ne hr) (pq_cmp (opd_eq hr) (pq_var 4 (pv 4)) (pq_str "") (nomark _)) (pq_cmp (opd_ne hr) (pq_var 1 (pv 1)) (pq_str "") (nomark _)) (nomark _))))) (pss_one' (ps1_ret pq_bl)) pss_nil')
      (pss_cons' (ps1_setX (i := 5) sc__law_right.nd rfl (by first | exact Or.inl rfl | exact Or.inr rfl) (px_make (ok_Number_make T) (hr.mono (by decide)) takes0 (pax_cons (px_q (pq_var 2 (pv 2))) (pax_cons (px_q (pq_var 3 (pv 3))) pax_nil))))
      (pss_cons' (ps1_for (passes_of rfl) rfl (pif_any (pq_op opd_add (pq_var 1 (pv 1)) (pq_var 4 (pv 4)))) (pgd_name (vs := [6]) (pg_name (i := 6) sc__law_right.nd rfl (by first | exact Or.inl rfl | exact Or.inr rfl))) (pss_one' (ps1_ifX (ptx_cmp opd_isnot (px_methS (mt3_fed_ok T) (pv 5) (hr.mono (by decide)) takes0 (pax_cons (px_q (pq_var 6 (pv 6))) pax_nil)) (px_q pq_bl) (nomark _)) (pss_one' (ps1_ret pq_bl)) pss_nil')))
      (pss_one' (ps1_ret (pq_cmp opd_is_ (pq_methF0 (mt0_good_ok T) (pq_var 5 (pv 5)) (hr.mono (by decide))) pq_bl (nomark _))))))))))
theorem ok__law_right (T : Tx P w K mg base) : OkF P w K mg base "_law_right" 3 4 [] r__law_right := by
  obtain ⟨fd, F⟩ := T.d__law_right
  exact ⟨_, fd, _, [], [], fnf_def (ob := []) F sc__law_right rfl (fun cdv A outer s H E hr => pss__law_right T hr) (fun _ _ _ h => h), F.bindsN (fun _ _ _ _ _ _ us hl => match us, hl with | [_, _, _, _], _ => rfl), .nil, fun _ => ⟨rfl, rfl⟩, T.m__law_right, F.kp⟩
theorem sc__law_stream : FnScope ["_law_cell", "_law_many", "_law_found", "_law_number", "_law_k"] ["_law_cell", "_law_many"] (defScope s__law_stream) := ⟨rfl, rfl, rfl, by decide +kernel, rfl, by decide +kernel, by decide +kernel⟩
theorem pss__law_stream (T : Tx P w K mg base) {fa : Addr} {cdv : Value} {A : Around} {outer : List Env} {s : Shared} {H : Hp} {E : XK} (hr : Room 0 (A.deeper (envOfC "_law_stream" (defScope s__law_stream) s.heap.objs.size fa cdv))) :
    PSS (cxOf (L2.CX P w) P w K mg base ["_law_cell", "_law_many", "_law_found", "_law_number", "_law_k"] "_law_stream" (defScope s__law_stream) fa cdv A outer s H E) [] (fun _ _ _ _ => False) (defBody s__law_stream) f__law_stream :=
  (pss_cons' (ps1_setN (i := 2) sc__law_stream.nd rfl (by first | exact Or.inl rfl | exact Or.inr rfl) (pn_lst paq_nil))
      (pss_cons' (ps1_set (i := 3) sc__law_stream.nd rfl (by first | exact Or.inl rfl | exact Or.inr rfl) (pq_op opd_mod (pq_op opd_mul (pq_op opd_add (pq_var 0 (pv 0)) pq_int) pq_int) pq_int))
      (pss_cons' (ps1_for (passes_of rfl) rfl (pif_range1 (pq_var 1 (pv 1)) T.b_range) (pgd_name (vs := [4]) (pg_name (i := 4) sc__law_stream.nd rfl (by first | exact Or.inl rfl | exact Or.inr rfl))) (pss_cons' (ps1_set (i := 3) sc__law_stream.nd rfl (by first | exact Or.inl rfl | exact Or.inr rfl) (pq_op opd_mod (pq_op opd_mul (pq_op opd_add (pq_op opd_add (pq_var 3 (pv 3)) (pq_op opd_mul pq_int (pq_var 4 (pv 4)))) pq_int) (pq_op opd_add (pq_op opd_fdiv (pq_var 3 (pv 3)) pq_int) pq_int)) pq_int))
      (pss_one' (ps1_app (fun te p => pe_bm PySem.F.plainAttrs_list PySem.F.slot_list_append PySem.F.type_list_append mt_append (pv 2) (pa_cons p pa_nil)) (pq_var 3 (pv 3))))))
      (pss_one' (ps1_fz 2 (ps1_ret (pq_var 2 (pv 2))))))))
theorem ok__law_stream (T : Tx P w K mg base) : OkQ P w K mg base "_law_stream" 1 2 [] r__law_stream := by
  obtain ⟨fd, F⟩ := T.d__law_stream
  exact okq_def F sc__law_stream rfl (F.bindsN (fun _ _ _ _ _ _ us hl => match us, hl with | [_, _], _ => rfl)) .nil (fun _ => ⟨rfl, rfl⟩) rfl T.m__law_stream (fun cdv A outer s H E hr => pss__law_stream T hr) fun _ _ h => h
theorem sc__law_sign : FnScope ["_law_x", "_law_some"] ["_law_x"] (defScope s__law_sign) := ⟨rfl, rfl, rfl, by decide +kernel, rfl, by decide +kernel, by decide +kernel⟩
theorem pss__law_sign (T : Tx P w K mg base) {fa : Addr} {cdv : Value} {A : Around} {outer : List Env} {s : Shared} {H : Hp} {E : XK} (hr : Room 0 (A.deeper (envOfC "_law_sign" (defScope s__law_sign) s.heap.objs.size fa cdv))) :
    PSS (cxOf (L2.CX P w) P w K mg base ["_law_x", "_law_some"] "_law_sign" (defScope s__law_sign) fa cdv A outer s H E) [] (fun _ _ _ _ => False) (defBody s__law_sign) f__law_sign :=
  (pss_cons' (ps1_set (i := 1) sc__law_sign.nd rfl (by first | exact Or.inl rfl | exact Or.inr rfl) (pq_str " !\"#$&'()*+,-./0123456789:;<=>?@ABCDEFGHIJKLMNOPQRSTUVWXYZ[\\]^_`"))
      (pss_cons' (ps1_set (i := 1) sc__law_sign.nd rfl (by first | exact Or.inl rfl | exact Or.inr rfl) (pq_op opd_add (pq_var 1 (pv 1)) (pq_str "abcdefghijklmnopqrstuvwxyz{|}~\n")))
      (pss_one' (ps1_ret (pq_ix (pq_var 1 (pv 1)) (pq_op opd_mod (pq_var 0 (pv 0)) pq_int))))))
theorem ok__law_sign (T : Tx P w K mg base) : OkQ P w K mg base "_law_sign" 1 1 [] r__law_sign := by
  obtain ⟨fd, F⟩ := T.d__law_sign
  exact okq_def F sc__law_sign rfl (F.bindsN (fun _ _ _ _ _ _ us hl => match us, hl with | [_], _ => rfl)) .nil (fun _ => ⟨rfl, rfl⟩) rfl T.m__law_sign (fun cdv A outer s H E hr => pss__law_sign T hr) fun _ _ h => h
theorem sc__law_may : FnScope ["_law_text", "_law_sign_here", "_law_base", "_law_most"] ["_law_text", "_law_sign_here", "_law_base", "_law_most"] (defScope s__law_may) := ⟨rfl, rfl, rfl, by decide +kernel, rfl, by decide +kernel, by decide +kernel⟩
theorem pss__law_may (T : Tx P w K mg base) {fa : Addr} {cdv : Value} {A : Around} {outer : List Env} {s : Shared} {H : Hp} {E : XK} (hr : Room 1 (A.deeper (envOfC "_law_may" (defScope s__law_may) s.heap.objs.size fa cdv))) :
    PSS (cxOf (L2.CX P w) P w K mg base ["_law_text", "_law_sign_here", "_law_base", "_law_most"] "_law_may" (defScope s__law_may) fa cdv A outer s H E) [] (fun _ _ _ _ => False) (defBody s__law_may) f__law_may :=
  (pss_cons' (ps1_if (PWB.pb (pwb_or (pb_cmp opd_notin (pq_var 1 (pv 1)) (pq_sl (pq_str "0123456789abcdef") poq_none (poq_some (pq_var 2 (pv 2)))) (by rfl)) (pw1_or (pb_cmp (opd_eq hr) (pq_var 0 (pv 0)) (pq_str "0") (nomark _))))) (pss_one' (ps1_ret pq_bl)) pss_nil')
      (pss_one' (ps1_ret (pq_cmp opd_le (pq_call (ok__law_value T) (hr.mono (by decide)) (paq_cons (pq_op opd_add (pq_var 0 (pv 0)) (pq_var 1 (pv 1))) (paq_cons (pq_var 2 (pv 2)) paq_nil))) (pq_var 3 (pv 3)) (nomark _)))))
theorem ok__law_may (T : Tx P w K mg base) : OkQ P w K mg base "_law_may" 2 4 [] r__law_may := by
  obtain ⟨fd, F⟩ := T.d__law_may
  exact okq_def F sc__law_may rfl (F.bindsN (fun _ _ _ _ _ _ us hl => match us, hl with | [_, _, _, _], _ => rfl)) .nil (fun _ => ⟨rfl, rfl⟩) rfl T.m__law_may (fun cdv A outer s H E hr => pss__law_may T hr) fun _ _ h => h
theorem sc_law : FnScope ["_law_script", "_law_first", "_law_base", "_law_most", "_law_machine", "_law_text", "_law_cell", "_law_xs", "_law_sign_here", "_law_due", "_law_found"] ["_law_script"] (defScope s_law) := ⟨rfl, rfl, rfl, by decide +kernel, rfl, by decide +kernel, by decide +kernel⟩
theorem pss_law (T : Tx P w K mg base) {fa : Addr} {cdv : Value} {A : Around} {outer : List Env} {s : Shared} {H : Hp} {E : XK} (hr : Room 3 (A.deeper (envOfC "law" (defScope s_law) s.heap.objs.size fa cdv))) :
    PSS (cxOf (L2.CX P w) P w K mg base ["_law_script", "_law_first", "_law_base", "_law_most", "_law_machine", "_law_text", "_law_cell", "_law_xs", "_law_sign_here", "_law_due", "_law_found"] "law" (defScope s_law) fa cdv A outer s H E) [] (fun _ _ _ _ => False) (defBody s_law) f_law :=
  (pss_cons' (ps1_set (i := 1) sc_law.nd rfl (by first | exact Or.inl rfl | exact Or.inr rfl) (pq_call (ok__law_cell_at T) (hr.mono (by decide)) (paq_cons (pq_var 0 (pv 0)) (paq_cons pq_int paq_nil))))
      (pss_cons' (ps1_set (i := 2) sc_law.nd rfl (by first | exact Or.inl rfl | exact Or.inr rfl) (pq_ix (PN.pq (pn_lst (paq_cons pq_int (paq_cons pq_int paq_nil)))) (pq_op opd_mod (pq_var 1 (pv 1)) pq_int)))
      (pss_cons' (ps1_set (i := 3) sc_law.nd rfl (by first | exact Or.inl rfl | exact Or.inr rfl) (pq_op opd_mod (pq_call (ok__law_cell_at T) (hr.mono (by decide)) (paq_cons (pq_var 0 (pv 0)) (paq_cons pq_int paq_nil))) (pq_ix (PN.pq (pn_lst (paq_cons pq_int (paq_cons pq_int (paq_cons (pq_op opd_pow pq_int pq_int) paq_nil))))) (pq_op opd_mod (pq_op opd_fdiv (pq_var 1 (pv 1)) pq_int) pq_int))))
      (pss_cons' (ps1_setX (i := 4) sc_law.nd rfl (by first | exact Or.inl rfl | exact Or.inr rfl) (px_make (ok_Number_make T) (hr.mono (by decide)) takes0 (pax_cons (px_q (pq_var 2 (pv 2))) (pax_cons (px_q (pq_var 3 (pv 3))) pax_nil))))
      (pss_cons' (ps1_set (i := 5) sc_law.nd rfl (by first | exact Or.inl rfl | exact Or.inr rfl) (pq_str ""))
      (pss_cons' (ps1_for (passes_of rfl) rfl (pif_any (pq_sl (pq_var 0 (pv 0)) (poq_some pq_int) (poq_some pq_int))) (pgd_name (vs := [6]) (pg_name (i := 6) sc_law.nd rfl (by first | exact Or.inl rfl | exact Or.inr rfl))) (pss_cons' (ps1_set (i := 7) sc_law.nd rfl (by first | exact Or.inl rfl | exact Or.inr rfl) (pq_call (ok__law_stream T) (hr.mono (by decide)) (paq_cons (pq_var 6 (pv 6)) (paq_cons pq_int paq_nil))))
      (pss_cons' (ps1_set (i := 8) sc_law.nd rfl (by first | exact Or.inl rfl | exact Or.inr rfl) (pq_call (ok__law_sign T) (hr.mono (by decide)) (paq_cons (pq_ix (pq_var 7 (pv 7)) pq_int) paq_nil)))
      (pss_cons' (ps1_if (pb_cmp (opd_eq hr) (pq_op opd_mod (pq_ix (pq_var 7 (pv 7)) pq_int) pq_int) pq_int (nomark _)) (pss_one' (ps1_set (i := 8) sc_law.nd rfl (by first | exact Or.inl rfl | exact Or.inr rfl) (pq_ix (pq_str "0123456789abcdef") (pq_op opd_mod (pq_ix (pq_var 7 (pv 7)) pq_int) (pq_var 2 (pv 2)))))) pss_nil')
      (pss_cons' (ps1_set (i := 9) sc_law.nd rfl (by first | exact Or.inl rfl | exact Or.inr rfl) (pq_call (ok__law_may T) (hr.mono (by decide)) (paq_cons (pq_var 5 (pv 5)) (paq_cons (pq_var 8 (pv 8)) (paq_cons (pq_var 2 (pv 2)) (paq_cons (pq_var 3 (pv 3)) paq_nil))))))
      (pss_cons' (ps1_setX (i := 10) sc_law.nd rfl (by first | exact Or.inl rfl | exact Or.inr rfl) (px_methS (mt3_fed_ok T) (pv 4) (hr.mono (by decide)) takes0 (pax_cons (px_q (pq_var 8 (pv 8))) pax_nil)))
      (pss_cons' (ps1_if (PWB.pb (pwb_or (pb_not (pb_val (pq_isi (pq_var 10 (pv 10)) T.b_isinstance T.b_bool (by decide +kernel)))) (pw1_or (pb_cmp (opd_ne hr) (pq_var 10 (pv 10)) (pq_var 9 (pv 9)) (nomark _))))) (pss_one' (ps1_ret pq_bl)) pss_nil')
      (pss_cons' (ps1_if (pb_val (pq_var 9 (pv 9))) (pss_one' (ps1_set (i := 5) sc_law.nd rfl (by first | exact Or.inl rfl | exact Or.inr rfl) (pq_op opd_add (pq_var 5 (pv 5)) (pq_var 8 (pv 8))))) pss_nil')
      (pss_one' (ps1_if (pb_not (pb_val (pq_callF (ok__law_right T) (hr.mono (by decide)) (paq_cons (pq_var 4 (pv 4)) (paq_cons (pq_var 5 (pv 5)) (paq_cons (pq_var 2 (pv 2)) (paq_cons (pq_var 3 (pv 3)) paq_nil))))))) (pss_one' (ps1_ret pq_bl)) pss_nil'))))))))))
      (pss_one' (ps1_ret (pq_callF (ok__law_right T) (hr.mono (by decide)) (paq_cons (pq_var 4 (pv 4)) (paq_cons (pq_var 5 (pv 5)) (paq_cons (pq_var 2 (pv 2)) (paq_cons (pq_var 3 (pv 3)) paq_nil)))))))))))))
theorem fn_law (T : Tx P w K mg base) {fd : FuncData} (F : FunD K "law" "law" (defArgs s_law) (defBody s_law) (defScope s_law) [] [] (He.ga K "law") fd) : FnOk P w K mg base (L2.CX P w) 4 (He.ga K "law") fd ["_law_script"] (spF K 1 r_law) :=
  fnf_def (ob := []) F sc_law rfl (fun cdv A outer s H E hr => pss_law T hr) fun _ _ _ h => h
end
def fn : List He.DefD := [D__law_cell_at, D__law_value, D__law_right, D__law_stream, D__law_sign, D__law_may, D_law, DM_Number_good, DM_Number_told, DM_Number_awaited, DM_Number_fed, DM_Number___init__]
def fa : List He.Fa := [.free "bool", .free "isinstance", .free "len", .free "range", .free "str", .str "FIGURES" "0123456789abcdef", .glo "_law_cell_at", .glo "_law_value", .glo "_law_right", .glo "_law_stream", .glo "_law_sign", .glo "_law_may", .glo "law", .cls "Number", .noat "Number" "base", .noat "Number" "figures", .noat "Number" "most", .noat "Number" "number", .meth "Number" "good", .meth "Number" "told", .meth "Number" "awaited", .meth "Number" "fed", .mkr "Number", .glo "Number"]
def ex (K : PySem.W.Frag) : Bool := true
abbrev hk : PySem.W.Hook := He.hookX 4 fa fn [] [] ex
theorem facts {P : Program} {w : World} {K : PySem.W.Frag} {h : Heap} {mg : Str → Option Value} {base : Heap} (X : K.In h) (G : h.Ns mainGlobals mg) (c : He.SaysX fa fn [] [] ex w h K) : Tx P w K mg base := by
  have cd : He.SaysD fa fn K := c.t.d
  exact {
    b_bool := He.free_ok X G (cd.fact 0 (f := .free "bool") rfl)
    b_isinstance := He.free_ok X G (cd.fact 1 (f := .free "isinstance") rfl)
    b_len := He.free_ok X G (cd.fact 2 (f := .free "len") rfl)
    b_range := He.free_ok X G (cd.fact 3 (f := .free "range") rfl)
    b_str := He.free_ok X G (cd.fact 4 (f := .free "str") rfl)
    g_FIGURES := gld_str (He.str_ok X G (cd.fact 5 (f := .str "FIGURES" "0123456789abcdef") rfl))
    m__law_cell_at := He.glo_ok X G (cd.fact 6 (f := .glo "_law_cell_at") rfl)
    m__law_value := He.glo_ok X G (cd.fact 7 (f := .glo "_law_value") rfl)
    m__law_right := He.glo_ok X G (cd.fact 8 (f := .glo "_law_right") rfl)
    m__law_stream := He.glo_ok X G (cd.fact 9 (f := .glo "_law_stream") rfl)
    m__law_sign := He.glo_ok X G (cd.fact 10 (f := .glo "_law_sign") rfl)
    m__law_may := He.glo_ok X G (cd.fact 11 (f := .glo "_law_may") rfl)
    m_law := He.glo_ok X G (cd.fact 12 (f := .glo "law") rfl)
    c_Number := He.cls_ok (cd.fact 13 (f := .cls "Number") rfl)
    n_Number_base := He.noat_ok (cd.fact 14 (f := .noat "Number" "base") rfl)
    n_Number_figures := He.noat_ok (cd.fact 15 (f := .noat "Number" "figures") rfl)
    n_Number_most := He.noat_ok (cd.fact 16 (f := .noat "Number" "most") rfl)
    n_Number_number := He.noat_ok (cd.fact 17 (f := .noat "Number" "number") rfl)
    h_Number_good := He.meth_ok (cd.fact 18 (f := .meth "Number" "good") rfl)
    h_Number_told := He.meth_ok (cd.fact 19 (f := .meth "Number" "told") rfl)
    h_Number_awaited := He.meth_ok (cd.fact 20 (f := .meth "Number" "awaited") rfl)
    h_Number_fed := He.meth_ok (cd.fact 21 (f := .meth "Number" "fed") rfl)
    k_Number := He.mkr_ok (cd.fact 22 (f := .mkr "Number") rfl)
    m_Number := He.glo_ok X G (cd.fact 23 (f := .glo "Number") rfl)
    d__law_cell_at := cd.def_ 0 (d := D__law_cell_at) rfl
    d__law_value := cd.def_ 1 (d := D__law_value) rfl
    d__law_right := cd.def_ 2 (d := D__law_right) rfl
    d__law_stream := cd.def_ 3 (d := D__law_stream) rfl
    d__law_sign := cd.def_ 4 (d := D__law_sign) rfl
    d__law_may := cd.def_ 5 (d := D__law_may) rfl
    d_law := cd.def_ 6 (d := D_law) rfl
    d_Number_good := cd.def_ 7 (d := DM_Number_good) rfl
    d_Number_told := cd.def_ 8 (d := DM_Number_told) rfl
    d_Number_awaited := cd.def_ 9 (d := DM_Number_awaited) rfl
    d_Number_fed := cd.def_ 10 (d := DM_Number_fed) rfl
    d_Number___init__ := cd.def_ 11 (d := DM_Number___init__) rfl
  }
abbrev R : PySem.W.OpenRow := PySem.W.OpenLaw.row PySem.Challenge.rw_framepost_k21_a_number_read
def ob (s : PySem.W.SharedT) : He.AlX := He.obsX 4 fa fn [] [] ex (HandSHeadRun.getT s)
theorem ob_eq (s : PySem.W.SharedT) : ob s = hk.obs s.abs := He.obsX_eq (HandSHeadRun.getT_eq s)
end G
namespace G
open PySem PySem.Spec PyProof.Rows L2 Fw
local macro_rules | `(tactic| walk_at "fx") => `(tactic| simp -implicitDefEqProofs only [runQ_eq, fSeq_eq, seqK_nx, seqK_rt, seqK_ex, forL_nil, forL_cons, turnK_nx, turnK_rt, endK_rt, endK_nx, qVar_zero, qVar_succ, varK_int, varK_str, varK_bl, varK_non, varK_tup, varK_lst, varK_ml, qB_eq, blK_bl, qAnd_eq, qOr_eq, andK_t, andK_f, orK_t, orK_f, andK_b, orK_b, qNot_eq, notK_b, q3_eq,
  fApp_eq, appK_ml, fFz_eq, fzK_ml, aR1_eq, rgK_int, aR2_eq, rg2K_int, oSome_eq, osK_int, oNone_eq, qM1_eq, m1K_str, qM0_eq, m0K_str, dAdd_int, dAdd_str, dAdd_tup, dAdd_lst, dAdd_mlst, dInt_int, dEq_int, dNe_int, dEq_str, dNe_str, dEq_bl, dNe_bl, dLt_int, dLe_int, dGt_int, dGe_int, dLe_str, dLen_str, dLen_lst, dLen_ml, dLen_tup, dIx_lst, dIx_ml, dIx_tup, dIx_str, o1_eq, o2_eq, oStr_eq, itemsF_lst, itemsF_str, itemsF_tup,
  dSl_str, dSl_lst, dSl_tup, qC_eq, q2_eq, qIf_eq, qTup_eq, qN_eq, qSl_eq, qCall_eq, qRun_eq, qIsi_eq, aNil_eq, aCons_eq, aData_eq, aF_eq, aQ_eq, bAnd_eq, bOr_eq, bNot_eq, fNext_eq, fSet_eq, fSetN_eq, fSetT_eq, fIf_eq, fRet_eq, fRetN_eq, fFor_eq, fAug_eq, tgN_eq, tgT_eq, tgs_cons, tgs_nil,
  Option.bind_some, Option.map_some, Option.bind_none, Option.map_none, List.getElem?_cons_zero, List.getElem?_cons_succ, List.set_cons_zero, List.set_cons_succ, List.cons_append, List.nil_append, List.append_nil, List.length_cons, List.length_nil, List.replicate_zero, List.replicate_succ, data, dataL, dataL_ints, dataL_strs, Bool.and_true, Bool.true_and, Bool.and_self, Bool.not_true, Bool.not_false, and_self, and_true, true_and, eq_self, ↓reduceIte, Bool.false_eq_true, Nat.reduceAdd, Nat.reduceSub, Nat.reduceLeDiff, Nat.reduceLT, List.take_succ_cons, bne_self_eq_false, beq_self_eq_true, Bool.or_false, Bool.or_true, Bool.false_or, Bool.true_or, Bool.and_false, Bool.false_and, List.take_zero, List.take_nil, Int.reduceLT, Int.reduceLE, decide_true, decide_false, cMul_r, cMul_l, small62_of, Int.reduceNeg, xB_eq, eB_ok, eB_ex, xT_eq, eT_bl, eT_ex, xS_eq, eS_ok, eS_ex, xQ_eq, xN_eq, xMove_eq, xOp_eq, xNot_eq, xAnd_eq, xOr_eq, xPB_eq, xIsi_eq, aB_ok, aB_ex, xA_eq, xaNil_eq, eA_ok, eA_ex, xaCons_eq, aoCons_ok, aoCons_ex, xaSlot_eq, avals_nil, avals_val, xTup_eq, xCall_eq, xRunQ_eq, xRun_eq, xPut_ok, xPut_ex, mo_nil, mo_val, mo_slot, mi_nil, mi_val, mi_slot, xMethS_eq, mSK_obj, xMethQ_eq, mQK_obj, put1_one, pget_nil, pget_cons, pput_nil, pput_cons, qFld_eq, dFld_obj, dFld_fo, dFld_ref, dFo_obj, dFo_fo, varK_obj, varK_fo, varK_ref, qRunF_eq, qMethF_eq, clsOf_obj, clsOf_fo, clsOf_ref, xMake_eq, fSetX_eq, fSetTX_eq, fExX_eq, fRetX_eq, ifK_bl, fIfX_eq, fFldX_eq, fldK_obj, fFldAug_eq, xAug_eq, iAdd_int, iSub_int, fRaise_eq, isUn_obj, isUn_fo, isUn_ml, isUn_lst, isUn_tup, isUn_int, isUn_str, isUn_bl, isUn_non, isUn_ref, fl_int, fl_str, fl_bl, fl_non, fl_ref, fl_tup, fl_lst, flL_nil, flL_cons, resF_bl, resF_int, resF_str, resF_non, resF_tup, resF_ml, fzL_nil, fzL_cons, fz_int, fz_str, fz_bl, fz_non, fz_ref, fz_tup, fz_lst, fz_ml, fz_obj, fz_fo, runF_eq, rF_rt, rF_nx, runX_eq, rX_rt, rX_nx, rX_ex, fin_nil, fin_t, fin_f, aR3_eq, rg3K_int, dMin_int, dMax_int, dStrI_int, qLc_eq, wipeD_nil, wipeD_cons, bYes_eq, itemsQ_ml, itemsQ_lst, itemsQ_tup, itemsQ_str, dIs_bl, dIsNot_bl, dIs_nn, dIsNot_nn, asL_lst, noLL_nil, noLL_cons, noL_str, noL_int, noL_bl, noL_non, noL_tup, fzL_strs, fzL_ints, dIn_tup, dIn_lst, dNotIn_tup, dNotIn_lst, dIn_sign, dNotIn_sign, boolsD_map, okf_Number_base, okf_Number_figures, okf_Number_most, okf_Number_number, ix_Number_awaited, ix_Number_base, ix_Number_fed, ix_Number_figures, ix_Number_good, ix_Number_most, ix_Number_number, ix_Number_told, ln_Number, mt2_awaited_Number, mt0_good_Number, mt3_fed_Number, mt1_told_Number, tyN_NoneType, tyN_bool, tyN_int, tyN_str, tyN_list, tyN_tuple, tyN_ml, kitB_NoneType_bool, kitB_NoneType_int, kitB_NoneType_str, kitB_NoneType_list, kitB_NoneType_tuple, kitB_bool_bool, kitB_bool_int, kitB_bool_str, kitB_bool_list, kitB_bool_tuple, kitB_int_bool, kitB_int_int, kitB_int_str, kitB_int_list, kitB_int_tuple, kitB_str_bool, kitB_str_int, kitB_str_str, kitB_str_list, kitB_str_tuple, kitB_list_bool, kitB_list_int, kitB_list_str, kitB_list_list, kitB_list_tuple, kitB_tuple_bool, kitB_tuple_int, kitB_tuple_str, kitB_tuple_list, kitB_tuple_tuple])
local macro_rules | `(tactic| walk_at "fxh") => `(tactic| simp -implicitDefEqProofs only [runQ_eq, fSeq_eq, seqK_nx, seqK_rt, seqK_ex, forL_nil, forL_cons, turnK_nx, turnK_rt, endK_rt, endK_nx, qVar_zero, qVar_succ, varK_int, varK_str, varK_bl, varK_non, varK_tup, varK_lst, varK_ml, qB_eq, blK_bl, qAnd_eq, qOr_eq, andK_t, andK_f, orK_t, orK_f, andK_b, orK_b, qNot_eq, notK_b, q3_eq,
  fApp_eq, appK_ml, fFz_eq, fzK_ml, aR1_eq, rgK_int, aR2_eq, rg2K_int, oSome_eq, osK_int, oNone_eq, qM1_eq, m1K_str, qM0_eq, m0K_str, dAdd_int, dAdd_str, dAdd_tup, dAdd_lst, dAdd_mlst, dInt_int, dEq_int, dNe_int, dEq_str, dNe_str, dEq_bl, dNe_bl, dLt_int, dLe_int, dGt_int, dGe_int, dLe_str, dLen_str, dLen_lst, dLen_ml, dLen_tup, dIx_lst, dIx_ml, dIx_tup, dIx_str, o1_eq, o2_eq, oStr_eq, itemsF_lst, itemsF_str, itemsF_tup,
  dSl_str, dSl_lst, dSl_tup, qC_eq, q2_eq, qIf_eq, qTup_eq, qN_eq, qSl_eq, qCall_eq, qRun_eq, qIsi_eq, aNil_eq, aCons_eq, aData_eq, aF_eq, aQ_eq, bAnd_eq, bOr_eq, bNot_eq, fNext_eq, fSet_eq, fSetN_eq, fSetT_eq, fIf_eq, fRet_eq, fRetN_eq, fFor_eq, fAug_eq, tgN_eq, tgT_eq, tgs_cons, tgs_nil,
  Option.bind_some, Option.map_some, Option.bind_none, Option.map_none, List.getElem?_cons_zero, List.getElem?_cons_succ, List.set_cons_zero, List.set_cons_succ, List.cons_append, List.nil_append, List.append_nil, List.length_cons, List.length_nil, List.replicate_zero, List.replicate_succ, data, dataL, dataL_ints, dataL_strs, Bool.and_true, Bool.true_and, Bool.and_self, Bool.not_true, Bool.not_false, and_self, and_true, true_and, eq_self, ↓reduceIte, Bool.false_eq_true, Nat.reduceAdd, Nat.reduceSub, Nat.reduceLeDiff, Nat.reduceLT, List.take_succ_cons, bne_self_eq_false, beq_self_eq_true, Bool.or_false, Bool.or_true, Bool.false_or, Bool.true_or, Bool.and_false, Bool.false_and, List.take_zero, List.take_nil, Int.reduceLT, Int.reduceLE, decide_true, decide_false, cMul_r, cMul_l, small62_of, Int.reduceNeg, xB_eq, eB_ok, eB_ex, xT_eq, eT_bl, eT_ex, xS_eq, eS_ok, eS_ex, xQ_eq, xN_eq, xMove_eq, xOp_eq, xNot_eq, xAnd_eq, xOr_eq, xPB_eq, xIsi_eq, aB_ok, aB_ex, xA_eq, xaNil_eq, eA_ok, eA_ex, xaCons_eq, aoCons_ok, aoCons_ex, xaSlot_eq, avals_nil, avals_val, xTup_eq, xCall_eq, xRunQ_eq, xRun_eq, xPut_ok, xPut_ex, mo_nil, mo_val, mo_slot, mi_nil, mi_val, mi_slot, xMethS_eq, mSK_obj, xMethQ_eq, mQK_obj, put1_one, pget_nil, pget_cons, pput_nil, pput_cons, qFld_eq, dFld_obj, dFld_fo, dFld_ref, dFo_obj, dFo_fo, varK_obj, varK_fo, varK_ref, qRunF_eq, qMethF_eq, clsOf_obj, clsOf_fo, clsOf_ref, xMake_eq, fSetX_eq, fSetTX_eq, fExX_eq, fRetX_eq, ifK_bl, fIfX_eq, fFldX_eq, fldK_obj, fFldAug_eq, xAug_eq, iAdd_int, iSub_int, fRaise_eq, isUn_obj, isUn_fo, isUn_ml, isUn_lst, isUn_tup, isUn_int, isUn_str, isUn_bl, isUn_non, isUn_ref, fl_int, fl_str, fl_bl, fl_non, fl_ref, fl_tup, fl_lst, flL_nil, flL_cons, resF_bl, resF_int, resF_str, resF_non, resF_tup, resF_ml, fzL_nil, fzL_cons, fz_int, fz_str, fz_bl, fz_non, fz_ref, fz_tup, fz_lst, fz_ml, fz_obj, fz_fo, runF_eq, rF_rt, rF_nx, runX_eq, rX_rt, rX_nx, rX_ex, fin_nil, fin_t, fin_f, aR3_eq, rg3K_int, dMin_int, dMax_int, dStrI_int, qLc_eq, wipeD_nil, wipeD_cons, bYes_eq, itemsQ_ml, itemsQ_lst, itemsQ_tup, itemsQ_str, dIs_bl, dIsNot_bl, dIs_nn, dIsNot_nn, asL_lst, noLL_nil, noLL_cons, noL_str, noL_int, noL_bl, noL_non, noL_tup, fzL_strs, fzL_ints, dIn_tup, dIn_lst, dNotIn_tup, dNotIn_lst, dIn_sign, dNotIn_sign, boolsD_map, okf_Number_base, okf_Number_figures, okf_Number_most, okf_Number_number, ix_Number_awaited, ix_Number_base, ix_Number_fed, ix_Number_figures, ix_Number_good, ix_Number_most, ix_Number_number, ix_Number_told, ln_Number, mt2_awaited_Number, mt0_good_Number, mt3_fed_Number, mt1_told_Number, tyN_NoneType, tyN_bool, tyN_int, tyN_str, tyN_list, tyN_tuple, tyN_ml, kitB_NoneType_bool, kitB_NoneType_int, kitB_NoneType_str, kitB_NoneType_list, kitB_NoneType_tuple, kitB_bool_bool, kitB_bool_int, kitB_bool_str, kitB_bool_list, kitB_bool_tuple, kitB_int_bool, kitB_int_int, kitB_int_str, kitB_int_list, kitB_int_tuple, kitB_str_bool, kitB_str_int, kitB_str_str, kitB_str_list, kitB_str_tuple, kitB_list_bool, kitB_list_int, kitB_list_str, kitB_list_list, kitB_list_tuple, kitB_tuple_bool, kitB_tuple_int, kitB_tuple_str, kitB_tuple_list, kitB_tuple_tuple, *])
/-! ### the stream of numbers -/
def stp (n k : Int) : Int := (n + 7919 * k + 1) * (n / 1009 + 69621) % 2147483647
theorem stp_lt (n k : Int) : 0 ≤ stp n k ∧ stp n k < 2147483647 := ⟨Int.emod_nonneg _ (by decide), Int.emod_lt_of_pos _ (by decide)⟩
def strm : List Int → Int → List Int
  | [], _ => []
  | k :: ks, n => stp n k :: strm ks (stp n k)
theorem strm_len : ∀ (ks : List Int) (n : Int), (strm ks n).length = ks.length
  | [], _ => rfl
  | k :: ks, n => congrArg Nat.succ (strm_len ks _)
theorem strm_lt : ∀ (ks : List Int) (n : Int), ∀ x ∈ strm ks n, 0 ≤ x ∧ x < 2147483647
  | [], _, x, h => by cases h
  | k :: ks, n, x, h => by
    rcases List.mem_cons.mp h with h | h
    · rw [h]
      exact stp_lt n k
    · exact strm_lt ks _ x h
theorem stream_loop (c m : Int) : ∀ (ks : List Int) (n : Int) (acc : List Int) (y : D), 0 ≤ n → n < 2147483647 → acc.length + ks.length ≤ 1000 → ∃ n' y', forL (tgN 4) (fSeq (fSet 3 (q2 dMod (q2 dMul (q2 dAdd (q2 dAdd (qVar 3) (q2 dMul (qC (.int 7919)) (qVar 4))) (qC (.int 1))) (q2 dAdd (q2 dFdiv (qVar 3) (qC (.int 1009))) (qC (.int 69621)))) (qC (.int 2147483647))))
    (fApp 2 (qVar 3))) [.int c, .int m, .ml (acc.map D.int), .int n, y] [] (ks.map D.int) = some (.nx [.int c, .int m, .ml ((acc ++ strm ks n).map D.int), n', y'] [])
  | [], n, acc, y, _, _, _ => ⟨.int n, y, by simp only [List.map_nil, forL_nil, strm, List.append_nil]⟩
  | k :: ks, n, acc, y, h0, h1, hl => by
    have hm : ∀ i, cMul i (n / 1009 + 69621) = true := fun i => cMul_r (by omega) (by omega)
    have hL : (acc.map D.int).length ≤ LIM := by
      rw [List.length_map]
      exact Nat.le_trans (by omega : acc.length ≤ 1000) (by decide)
    obtain ⟨q1, q2⟩ := stp_lt n k
    obtain ⟨n', y', e⟩ := stream_loop c m ks (stp n k) (acc ++ [stp n k]) (.int k) q1 q2 (by rw [List.length_append]; simp only [List.length_cons, List.length_nil] at hl ⊢; omega)
    refine ⟨n', y', ?_⟩
    rw [List.map_cons]
    refine (forL_turn (ρ1 := [.int c, .int m, .ml (acc.map D.int), .int n, .int k]) (ρ2 := [.int c, .int m, .ml ((acc ++ [stp n k]).map D.int), .int (stp n k), .int k]) (μ2 := []) ?_ ?_).trans ?_
    · rfl
    · walk_at "fxh"
      simp only [List.map_append, List.map_cons, List.map_nil]
      rfl
    · rw [e]
      simp only [strm, List.append_assoc, List.cons_append, List.nil_append]
theorem rangeD_ints (m : Nat) : rangeD 0 (m : Int) = ((List.range m).map fun (i : Nat) => (i : Int)).map D.int := by
  unfold rangeD
  rw [List.map_map, Int.sub_zero, Int.toNat_natCast]
  refine List.map_congr_left fun i _ => ?_
  show D.int (0 + (i : Int)) = D.int (i : Int)
  rw [Int.zero_add]
theorem stream_fin (c : Int) (m : Nat) (hm : m ≤ 500) (xs : List Int) (n' y' : D)
    (e : forL (tgN 4) (fSeq (fSet 3 (q2 dMod (q2 dMul (q2 dAdd (q2 dAdd (qVar 3) (q2 dMul (qC (.int 7919)) (qVar 4))) (qC (.int 1))) (q2 dAdd (q2 dFdiv (qVar 3) (qC (.int 1009))) (qC (.int 69621)))) (qC (.int 2147483647))))
    (fApp 2 (qVar 3))) [.int c, .int (m : Int), .ml [], .int ((c + 1) * 48271 % 2147483647), .un] [] (rangeD 0 (m : Int)) = some (.nx [.int c, .int (m : Int), .ml (xs.map D.int), n', y'] [])) :
    r__law_stream [.int c, .int (m : Int)] = some (.lst (xs.map D.int)) := by
  have h62 : small62 (m : Int) = true := small62_of (by omega) (by omega)
  unfold r__law_stream f__law_stream
  walk_at "fxh"
theorem strm_all (m : Nat) (x : Int) : (strm ((List.range m).map fun (i : Nat) => (i : Int)) x).length = m :=
  (strm_len _ _).trans ((List.length_map _).trans List.length_range)
theorem stream_is (c : Int) (m : Nat) (hm : m ≤ 500) : ∃ xs : List Int, r__law_stream [.int c, .int (m : Int)] = some (.lst (xs.map D.int)) ∧ xs.length = m ∧ ∀ x ∈ xs, 0 ≤ x ∧ x < 2147483647 := by
  have hx0 : 0 ≤ (c + 1) * 48271 % 2147483647 := Int.emod_nonneg _ (by decide)
  have hx1 : (c + 1) * 48271 % 2147483647 < 2147483647 := Int.emod_lt_of_pos _ (by decide)
  have hl : ([] : List Int).length + ((List.range m).map fun (i : Nat) => (i : Int)).length ≤ 1000 := by
    rw [List.length_map, List.length_range, List.length_nil]
    omega
  obtain ⟨n', y', e⟩ := stream_loop c m ((List.range m).map fun (i : Nat) => (i : Int)) _ [] .un hx0 hx1 hl
  rw [← rangeD_ints] at e
  exact ⟨_, stream_fin c m hm _ n' y' e, strm_all m _, strm_lt _ _⟩
abbrev tabA : List Nat := ofS " !\"#$&'()*+,-./0123456789:;<=>?@ABCDEFGHIJKLMNOPQRSTUVWXYZ[\\]^_`"
abbrev tabB : List Nat := ofS "abcdefghijklmnopqrstuvwxyz{|}~\n"
theorem sign_is (x : Int) : ∃ c, c ∈ tabA ++ tabB ∧ r__law_sign [.int x] = some (.str [c]) := by
  have h1 : tabA.length + tabB.length ≤ LIM := by decide +kernel
  have h2 : (tabA ++ tabB).length ≤ LIM := by decide +kernel
  have h0 : 0 ≤ x % 95 := Int.emod_nonneg _ (by decide)
  have h95 : x % 95 < 95 := Int.emod_lt_of_pos _ (by decide)
  have hl : (x % 95).toNat < (tabA ++ tabB).length := by
    rw [show (tabA ++ tabB).length = 95 from by decide +kernel]
    omega
  have h3 : ixAt (tabA ++ tabB) (x % 95) = some ((tabA ++ tabB)[(x % 95).toNat]'hl) := by
    rw [ixAt_pos h0]
    exact List.getElem?_eq_getElem hl
  have h4 : decide ((0 : Int) < 95) = true := by decide
  refine ⟨_, List.getElem_mem hl, ?_⟩
  unfold r__law_sign f__law_sign
  walk_at "fxh"
abbrev figs : List Nat := ofS "0123456789abcdef"
def dig (d : Nat) : Nat := figs.getD d 0
def vfold (b : Nat) (ds : List Nat) (n : Nat) : Nat := ds.foldl (fun v d => v * b + d) n
theorem dig_at {d : Nat} (h : d < 16) : ixAt figs (d : Int) = some (dig d) := by
  rw [ixAt_nat]
  unfold dig
  rw [List.getD_eq_getElem?_getD]
  have : d < figs.length := by
    rw [show figs.length = 16 from by decide +kernel]
    exact h
  rw [List.getElem?_eq_getElem this]
  rfl
theorem cut_ints (ns : List Int) (lo hi : Option Int) : ∃ l : List Int, cut (ns.map D.int) lo hi = l.map D.int ∧ l.length ≤ ns.length := by
  unfold cut
  rw [List.length_map]
  exact ⟨(ns.drop (HT.sIx ns.length 0 lo)).take (HT.sIx ns.length ns.length hi - HT.sIx ns.length 0 lo), by rw [List.map_take, List.map_drop], by rw [List.length_take, List.length_drop]; omega⟩

abbrev NO (b most : Int) (t : List Nat) (n : Int) : D := .obj "Number" sh_Number [.int b, .int most, .str t, .int n]
abbrev NF (b most : Int) (t : List Nat) (n : Int) : D := .fo "Number" sh_Number [.int b, .int most, .str t, .int n]
abbrev tx (ds : List Nat) : List Nat := ds.map dig
theorem dig_inj : ∀ d, d < 16 → ∀ e, e < 16 → dig d = dig e → d = e := by decide +kernel
theorem index_dig : ∀ d, d < 16 → Builtin.Str.occurrences (tr figs) (tr [dig d]) 0 (tr figs).length 1 = [d] := by decide +kernel
theorem figs_in (b : Nat) (hb : b ≤ 16) (c : Nat) : c ∈ figs.take b ↔ ∃ d, d < b ∧ dig d = c := by
  have hl : figs.length = 16 := by decide +kernel
  rw [List.mem_take_iff_getElem]
  constructor
  · rintro ⟨i, hi, rfl⟩
    have h1 : i < figs.length := by omega
    refine ⟨i, by omega, ?_⟩
    unfold dig
    rw [List.getD_eq_getElem?_getD, List.getElem?_eq_getElem h1]
    rfl
  · rintro ⟨d, hd, rfl⟩
    have h1 : d < figs.length := by omega
    refine ⟨d, by omega, ?_⟩
    unfold dig
    rw [List.getD_eq_getElem?_getD, List.getElem?_eq_getElem h1]
    rfl
theorem vfold_snoc (b : Nat) (ds : List Nat) (d n : Nat) : vfold b (ds ++ [d]) n = vfold b ds n * b + d := by
  unfold vfold
  rw [List.foldl_append]
  rfl
theorem tx_zero (ds : List Nat) (h : ∀ d ∈ ds, d < 16) : (tx ds = ofS "0") ↔ ds = [0] := by
  rw [show ofS "0" = [dig 0] from by decide +kernel]
  constructor
  · intro z
    match ds, z, h with
    | [d], z, h =>
      injection z with z
      rw [dig_inj d (h d (List.mem_cons_self ..)) 0 (by decide) z]
    | d :: e :: ds, z, _ => injection z with _ z; cases z
  · rintro rfl
    rfl
/-! ### the machine -/
section
variable {b : Nat} {most : Int} {ds : List Nat} {μ : List D}
theorem good_eq : r_Number_good [NF b most (tx ds) n] μ = some (.bl (!decide (ds = []))) := by
  have h1 : dNe (.str (tx ds)) (.str (ofS "")) = some (.bl (!decide (ds = []))) := by
    rw [dNe_str]
    have : (tx ds = ofS "") ↔ ds = [] := List.map_eq_nil_iff
    by_cases h : ds = []
    · rw [decide_eq_true h, decide_eq_true (this.mpr h)]
    · rw [decide_eq_false h, decide_eq_false fun z => h (this.mp z)]
  unfold r_Number_good f_Number_good
  walk_at "fxh"
theorem told_eq : r_Number_told [NF b most t (n : Int)] μ = some (.int n) := by
  unfold r_Number_told f_Number_told
  walk_at "fx"
theorem awaited_eq : r_Number_awaited [NF b most (tx ds) n] μ = some (.str (if ds = [] then ofS "0" else ofS "")) := by
  have this : (tx ds = ofS "") ↔ ds = [] := List.map_eq_nil_iff
  unfold r_Number_awaited f_Number_awaited
  by_cases h : ds = []
  · have h1 : decide (tx ds = ofS "") = true := decide_eq_true (this.mpr h)
    rw [if_pos h]
    clear h this
    walk_at "fxh"
  · have h1 : dEq (.str (tx ds)) (.str (ofS "")) = some (.bl false) := by rw [dEq_str, decide_eq_false fun z => h (this.mp z)]
    rw [if_neg h]
    walk_at "fxh"
theorem fed_no {t : List Nat} {n : Int} {c : Nat} (hb : b ≤ 16) (h : ¬ ∃ d, d < b ∧ dig d = c) : r_Number_fed [NO b most t n, .str [c]] μ = some (.ok (.bl false) [NO b most t n, .str [c]] μ) := by
  have h1 : cut figs none (some (b : Int)) = figs.take b := cut_take figs b
  have h2 : decide (c ∈ figs.take b) = false := decide_eq_false fun z => h ((figs_in b hb c).mp z)
  have h3 : figs.length ≤ LIM := by decide +kernel
  have h4 : 1 ≤ LIM := by decide
  have h5 : dSl g_FIGURES none (some (b : Int)) = some (.str (figs.take b)) := by
    show (if figs.length ≤ LIM then some (D.str (cut figs none (some (b : Int)))) else none) = _
    rw [if_pos h3, h1]
  have h6 : dNe (.int ((1 : Nat) : Int)) (.int 1) = some (.bl false) := rfl
  unfold r_Number_fed f_Number_fed
  walk_at "fxh"
theorem fed_dig {d : Nat} (hb : b = 10 ∨ b = 16) (hd : d < b) (hds : ∀ x ∈ ds, x < b) (hl : ds.length ≤ 1000) :
    r_Number_fed [NO b most (tx ds) (vfold b ds 0 : Nat), .str [dig d]] μ = some (.ok (.bl (!decide (ds = [0]) && decide (((vfold b (ds ++ [d]) 0 : Nat) : Int) ≤ most))) [if (!decide (ds = [0]) && decide (((vfold b (ds ++ [d]) 0 : Nat) : Int) ≤ most)) = true then NO b most (tx (ds ++ [d])) (vfold b (ds ++ [d]) 0 : Nat) else NO b most (tx ds) (vfold b ds 0 : Nat), .str [dig d]] μ) := by
  have h1 : cut figs none (some (b : Int)) = figs.take b := cut_take figs b
  have h2 : decide (dig d ∈ figs.take b) = true := decide_eq_true ((figs_in b (by omega) (dig d)).mpr ⟨d, hd, rfl⟩)
  have h3 : figs.length ≤ LIM := by decide +kernel
  have h4 : 1 ≤ LIM := by decide
  have h5 : dSl g_FIGURES none (some (b : Int)) = some (.str (figs.take b)) := by
    show (if figs.length ≤ LIM then some (D.str (cut figs none (some (b : Int)))) else none) = _
    rw [if_pos h3, h1]
  have h6 : dNe (.int ((1 : Nat) : Int)) (.int 1) = some (.bl false) := rfl
  have h7 : oIndex figs [.str [dig d]] = some (.int (d : Nat)) := by
    have := index_dig d (by omega)
    show (match Builtin.Str.occurrences (tr figs) (tr [dig d]) 0 (tr figs).length 1 with
      | i :: _ => some (D.int (i : Nat))
      | [] => none) = _
    rw [this]
  have h8 : ∀ i : Int, cMul i (b : Int) = true := fun i => cMul_r (by omega) (by omega)
  have h9 : ((vfold b ds 0 : Nat) : Int) * (b : Int) + (d : Nat) = ((vfold b (ds ++ [d]) 0 : Nat) : Int) := by
    rw [vfold_snoc, Int.natCast_add, Int.natCast_mul]
  have h10 : dAdd (.str (tx ds)) (.str [dig d]) = some (.str (tx (ds ++ [d]))) := by
    rw [dAdd_str, if_pos (show (tx ds).length + [dig d].length ≤ LIM from Nat.le_trans (by rw [List.length_map, List.length_singleton]; omega : (tx ds).length + [dig d].length ≤ 1001) (by decide))]
    show some (D.str (tx ds ++ [dig d])) = _
    rw [show tx (ds ++ [d]) = tx ds ++ [dig d] from List.map_append]
  have h11 := fun n => putD_some ix_Number_figures (.str (tx (ds ++ [d]))) "Number" [.int b, .int most, .str (tx ds), .int n]
  have h12 := fun t n m => putD_some ix_Number_number (.int n) "Number" [.int b, .int most, .str t, .int m]
  have h13 : decide (tx ds = ofS "0") = decide (ds = [0]) := by
    have := tx_zero ds fun x hx => Nat.lt_of_lt_of_le (hds x hx) (by omega)
    by_cases z : ds = [0]
    · rw [decide_eq_true z, decide_eq_true (this.mpr z)]
    · rw [decide_eq_false z, decide_eq_false fun w => z (this.mp w)]
  have h14 : qC g_FIGURES = qC (.str figs) := rfl
  clear hds hb hd hl
  unfold r_Number_fed f_Number_fed
  cases a : decide (ds = [0]) with
  | true =>
    clear h9
    walk_at "fxh"
    try rfl
  | false =>
    have h15 : decide (most < ((vfold b (ds ++ [d]) 0 : Nat) : Int)) = !decide (((vfold b (ds ++ [d]) 0 : Nat) : Int) ≤ most) := by
      by_cases z : ((vfold b (ds ++ [d]) 0 : Nat) : Int) ≤ most
      · rw [decide_eq_true z, decide_eq_false (by omega)]; rfl
      · rw [decide_eq_false z, decide_eq_true (by omega)]; rfl
    cases c : decide (((vfold b (ds ++ [d]) 0 : Nat) : Int) ≤ most) with
    | true =>
      rw [c] at h15
      walk_at "fxh"
      try rfl
    | false =>
      rw [c] at h15
      walk_at "fxh"
      try rfl
end
theorem make_eq {b : Nat} {most : Int} {μ : List D} (ks : FXA) (x0 : D) (ρ ρ1 μ1 : List D) (h : ks (x0 :: ρ) μ = some (.ok [.val (.int b), .val (.int most)] ρ1 μ1)) : xMake "Number" 3 [] r_Number___init__ ks (x0 :: ρ) μ = some (.ok (NO b most (ofS "") 0) ρ1 μ1) := by
  rw [xMake_eq, h]
  have h2 : r_Number___init__ [.obj "Number" [] [], .int b, .int most] μ1 = some (.ok .non [NO b most (ofS "") 0, .int b, .int most] μ1) := by
    unfold r_Number___init__
    rw [runX_eq]
    have h3 : f_Number___init__ [.obj "Number" [] [], .int b, .int most] μ1 = some (.nx [NO b most (ofS "") 0, .int b, .int most] μ1) := by
      unfold f_Number___init__
      have k1 : ∀ d, putD "base" d "Number" [] [] = .obj "Number" ["base"] [d] := fun d => rfl
      have k2 : ∀ d a, putD "most" d "Number" ["base"] [a] = .obj "Number" ["base", "most"] [a, d] := fun d a => rfl
      have k3 : ∀ d a b, putD "figures" d "Number" ["base", "most"] [a, b] = .obj "Number" ["base", "most", "figures"] [a, b, d] := fun d a b => rfl
      have k4 : ∀ d a b c, putD "number" d "Number" ["base", "most", "figures"] [a, b, c] = .obj "Number" sh_Number [a, b, c, d] := fun d a b c => rfl
      walk_at "fxh"
    show rX [true, false, false] _ (f_Number___init__ [.obj "Number" [] [], .int b, .int most] μ1) = _
    rw [h3]
    walk_at "fxh"
  walk_at "fxh"
/-! ### the law's value -/
theorem value_loop (b : Nat) (t : List Nat) (hb : b = 10 ∨ b = 16) : ∀ (ds : List Nat) (v : Nat) (y : D), (∀ d ∈ ds, d < b) → ∃ y', forL (tgN 3) (fSet 2 (q2 dAdd (q2 dMul (qVar 2) (qVar 1)) (qM1 oIndex (qC (.str (ofS "0123456789abcdef"))) (qVar 3)))) [.str t, .int b, .int v, y] [] (ds.map fun d => D.str [dig d]) = some (.nx [.str t, .int b, .int (vfold b ds v : Nat), y'] [])
  | [], v, y, _ => ⟨y, rfl⟩
  | d :: ds, v, y, h => by
    have hd : d < b := h d (List.mem_cons_self ..)
    obtain ⟨y', e⟩ := value_loop b t hb ds (v * b + d) (.str [dig d]) fun x hx => h x (List.mem_cons_of_mem _ hx)
    have h7 : oIndex figs [.str [dig d]] = some (.int (d : Nat)) := by
      have := index_dig d (by omega)
      show (match Builtin.Str.occurrences (tr figs) (tr [dig d]) 0 (tr figs).length 1 with
        | i :: _ => some (D.int (i : Nat))
        | [] => none) = _
      rw [this]
    have h8 : ∀ i : Int, cMul i (b : Int) = true := fun i => cMul_r (by omega) (by omega)
    have h9 : (v : Int) * (b : Int) + (d : Nat) = ((v * b + d : Nat) : Int) := by rw [Int.natCast_add, Int.natCast_mul]
    refine ⟨y', ?_⟩
    rw [List.map_cons]
    refine (forL_turn (ρ1 := [.str t, .int b, .int v, .str [dig d]]) (ρ2 := [.str t, .int b, .int ((v * b + d : Nat) : Int), .str [dig d]]) (μ2 := []) rfl ?_).trans e
    clear e h hd
    walk_at "fxh"
theorem value_eq (b : Nat) (ds : List Nat) (hb : b = 10 ∨ b = 16) (h : ∀ d ∈ ds, d < b) : r__law_value [.str (tx ds), .int b] = some (.int (vfold b ds 0 : Nat)) := by
  obtain ⟨y', e⟩ := value_loop b (tx ds) hb ds 0 .un h
  have e2 : (tx ds).map (fun c => D.str [c]) = ds.map (fun d => D.str [dig d]) := by
    rw [List.map_map]
    rfl
  rw [← e2] at e
  rw [show ((0 : Nat) : Int) = 0 from rfl] at e
  clear e2 h
  generalize tx ds = t at *
  unfold r__law_value f__law_value
  walk_at "fxh"
theorem may_no {t : List Nat} {b : Nat} {most : Int} {c : Nat} (hb : b ≤ 16) (h : ¬ ∃ d, d < b ∧ dig d = c) : r__law_may [.str t, .str [c], .int b, .int most] = some (.bl false) := by
  have h1 : cut figs none (some (b : Int)) = figs.take b := cut_take figs b
  have h2 : decide (c ∈ figs.take b) = false := decide_eq_false fun z => h ((figs_in b hb c).mp z)
  have h3 : figs.length ≤ LIM := by decide +kernel
  unfold r__law_may f__law_may
  walk_at "fxh"
theorem may_dig {b d : Nat} {most : Int} {ds : List Nat} (hb : b = 10 ∨ b = 16) (hd : d < b) (hds : ∀ x ∈ ds, x < b) (hl : ds.length ≤ 1000) : r__law_may [.str (tx ds), .str [dig d], .int b, .int most] = some (.bl (!decide (ds = [0]) && decide (((vfold b (ds ++ [d]) 0 : Nat) : Int) ≤ most))) := by
  have h1 : cut figs none (some (b : Int)) = figs.take b := cut_take figs b
  have h2 : decide (dig d ∈ figs.take b) = true := decide_eq_true ((figs_in b (by omega) (dig d)).mpr ⟨d, hd, rfl⟩)
  have h3 : figs.length ≤ LIM := by decide +kernel
  have h10 : dAdd (.str (tx ds)) (.str [dig d]) = some (.str (tx (ds ++ [d]))) := by
    rw [dAdd_str, if_pos (show (tx ds).length + [dig d].length ≤ LIM from Nat.le_trans (by rw [List.length_map, List.length_singleton]; omega : (tx ds).length + [dig d].length ≤ 1001) (by decide))]
    show some (D.str (tx ds ++ [dig d])) = _
    rw [show tx (ds ++ [d]) = tx ds ++ [dig d] from List.map_append]
  have h13 : decide (tx ds = ofS "0") = decide (ds = [0]) := by
    have := tx_zero ds fun x hx => Nat.lt_of_lt_of_le (hds x hx) (by omega)
    by_cases z : ds = [0]
    · rw [decide_eq_true z, decide_eq_true (this.mpr z)]
    · rw [decide_eq_false z, decide_eq_false fun w => z (this.mp w)]
  have h14 := value_eq b (ds ++ [d]) hb fun x hx => (List.mem_append.mp hx).elim (hds x) fun z => by rw [List.mem_singleton.mp z]; exact hd
  clear hds hd hl
  unfold r__law_may f__law_may
  cases a : decide (ds = [0]) <;> walk_at "fxh" <;> try rfl
/-! ### the machine is right -/
structure IV (b : Nat) (most : Int) (ds : List Nat) : Prop where
  dig : ∀ d ∈ ds, d < b
  pre : ∀ p d, p ++ [d] <+: ds → p ≠ [0] ∧ ((vfold b (p ++ [d]) 0 : Nat) : Int) ≤ most
theorem IV.step {b d : Nat} {most : Int} {ds : List Nat} (h : IV b most ds) (hd : d < b) (h1 : ds ≠ [0]) (h2 : ((vfold b (ds ++ [d]) 0 : Nat) : Int) ≤ most) : IV b most (ds ++ [d]) where
  dig := fun x hx => (List.mem_append.mp hx).elim (h.dig x) fun z => by rw [List.mem_singleton.mp z]; exact hd
  pre := fun p e hp => by
    rcases List.prefix_concat_iff.mp hp with z | z
    · obtain ⟨rfl, z2⟩ := List.append_inj' z rfl
      rw [z2]
      exact ⟨h1, h2⟩
    · exact h.pre p e z
section
variable {b : Nat} {most : Int} {μ : List D}
theorem feed_loop (hb : b = 10 ∨ b = 16) (M : D) (t more : List Nat) : ∀ (s u : List Nat) (y : D), u.length + s.length ≤ 1000 → (∀ d ∈ u ++ s, d < b) → (∀ p d, p ++ [d] <+: s → u ++ p ≠ [0] ∧ ((vfold b (u ++ (p ++ [d])) 0 : Nat) : Int) ≤ most) →
    ∃ y', forL (tgN 6) (fIfX (xOp dIsNot (xMethS 5 "fed" 2 [] mt3_fed (xaCons (xQ (qVar 6)) (xaNil))) (xQ (qC (.bl true)))) (fRet (qC (.bl false))) (fNext)) [M, .str t, .int b, .int most, .str more, NO b most (tx u) (vfold b u 0 : Nat), y] μ (s.map fun d => .str [dig d]) = some (.nx [M, .str t, .int b, .int most, .str more, NO b most (tx (u ++ s)) (vfold b (u ++ s) 0 : Nat), y'] μ)
  | [], u, y, _, _, _ => ⟨y, by rw [List.append_nil]; rfl⟩
  | d :: s, u, y, hl, h1, h2 => by
    obtain ⟨y', ih⟩ := feed_loop hb M t more s (u ++ [d]) (.str [dig d]) (by rw [List.length_append]; simp only [List.length_cons, List.length_nil] at hl ⊢; omega) (fun x hx => h1 x (by rw [List.append_assoc] at hx; exact hx)) (fun p e hp => by
      have := h2 (d :: p) e (List.prefix_cons_inj d |>.mpr hp)
      rw [List.append_assoc, List.append_assoc]
      exact this)
    have q := h2 [] d (by rw [List.nil_append]; exact ⟨s, rfl⟩)
    rw [List.append_nil, List.nil_append] at q
    have fe := fed_dig (b := b) (most := most) (ds := u) (μ := μ) (d := d) hb (h1 d (List.mem_append_right _ (List.mem_cons_self ..))) (fun x hx => h1 x (List.mem_append_left _ hx)) (by simp only [List.length_cons] at hl; omega)
    rw [decide_eq_false q.1, decide_eq_true q.2] at fe
    have fe2 : r_Number_fed [NO b most (tx u) (vfold b u 0 : Nat), .str [dig d]] μ = some (.ok (.bl true) [NO b most (tx (u ++ [d])) (vfold b (u ++ [d]) 0 : Nat), .str [dig d]] μ) := fe
    refine ⟨y', ?_⟩
    rw [List.append_assoc] at ih
    rw [List.map_cons]
    refine (forL_turn (ρ1 := [M, .str t, .int b, .int most, .str more, NO b most (tx u) (vfold b u 0 : Nat), .str [dig d]]) (ρ2 := [M, .str t, .int b, .int most, .str more, NO b most (tx (u ++ [d])) (vfold b (u ++ [d]) 0 : Nat), .str [dig d]]) (μ2 := μ) rfl ?_).trans ih
    clear ih fe h1 h2 q
    generalize tx u = tu at *
    generalize tx (u ++ [d]) = tv at *
    walk_at "fxh"
theorem right_eq {ds : List Nat} (hb : b = 10 ∨ b = 16) (hm : 0 ≤ most) (hl : ds.length ≤ 500) (iv : IV b most ds) : r__law_right [NF b most (tx ds) (vfold b ds 0 : Nat), .str (tx ds), .int b, .int most] μ = some (.bl true) := by
  have hne : dNe (.str (tx ds)) (.str (ofS "")) = some (.bl (!decide (ds = []))) := by
    rw [dNe_str]
    have : (tx ds = ofS "") ↔ ds = [] := List.map_eq_nil_iff
    by_cases h : ds = []
    · rw [decide_eq_true h, decide_eq_true (this.mpr h)]
    · rw [decide_eq_false h, decide_eq_false fun z => h (this.mp z)]
  have f1 : ∀ (μ : List D), r_Number_good [NF b most (tx ds) (vfold b ds 0 : Nat)] μ = some (.bl (!decide (ds = []))) := fun μ => good_eq
  have f2 : ∀ (μ : List D), r_Number_told [NF b most (tx ds) (vfold b ds 0 : Nat)] μ = some (.int (vfold b ds 0 : Nat)) := fun μ => told_eq
  have f3 : ∀ (μ : List D), r_Number_awaited [NF b most (tx ds) (vfold b ds 0 : Nat)] μ = some (.str (if ds = [] then ofS "0" else ofS "")) := fun μ => awaited_eq
  have f4 := value_eq b ds hb iv.dig
  have f5 : dNe (.int (vfold b ds 0 : Nat)) (.int (vfold b ds 0 : Nat)) = some (.bl false) := by rw [dNe_int, decide_eq_true rfl]; rfl
  have e00 : ofS "" = [] := rfl
  have hz : vfold b [] 0 = 0 := rfl
  by_cases h : ds = []
  · subst h
    have e0 : tx [] = ofS "" := rfl
    obtain ⟨y', lp⟩ := feed_loop (μ := μ) hb (NF b most (tx []) (vfold b [] 0 : Nat)) (tx []) (ofS "0") [0] [] .un (by decide) (fun d hd => by
      have : d = 0 := by simpa using hd
      omega) (fun p d hp => by
      rcases p with _ | ⟨x, p⟩
      · have : d = 0 := by
          obtain ⟨s, hs⟩ := hp
          simp at hs
          exact hs.1
        subst this
        refine ⟨by decide, ?_⟩
        show (((0 * b + 0 : Nat)) : Int) ≤ most
        rw [Nat.zero_mul, Nat.add_zero]
        exact hm
      · have := hp.length_le
        simp at this)
    have g1 : ∀ (μ : List D), r_Number_good [NF b most (tx ([] ++ [0])) (vfold b ([] ++ [0]) 0 : Nat)] μ = some (.bl true) := fun μ => good_eq (ds := [0])
    have e1 : ([0].map fun d => D.str [dig d]) = (ofS "0").map fun c => D.str [c] := by
      rw [show ofS "0" = [dig 0] from by decide +kernel]
      rfl
    rw [e1] at lp
    have mk := make_eq (b := b) (most := most) (μ := μ) (xaCons (xQ (qVar 2)) (xaCons (xQ (qVar 3)) (xaNil))) (NF b most (tx []) (vfold b [] 0 : Nat)) [.str (tx []), .int b, .int most, .str (ofS "0"), .un, .un] [NF b most (tx []) (vfold b [] 0 : Nat), .str (tx []), .int b, .int most, .str (ofS "0"), .un, .un] μ (by walk_at "fx")
    have a1 : dAdd (.str (tx [])) (.str (ofS "0")) = some (.str (ofS "0")) := by rw [dAdd_str, if_pos (by decide +kernel)]; rfl
    have a2 : dEq (.str (ofS "0")) (.str (ofS "")) = some (.bl false) := by rw [dEq_str, decide_eq_false (by decide +kernel)]
    rw [if_pos rfl] at f3
    rw [decide_eq_true rfl] at hne f1
    rw [show (NO b most (tx []) (vfold b [] 0 : Nat)) = NO b most (ofS "") 0 from rfl] at lp
    generalize tx ([] ++ [0]) = t2 at *
    generalize (vfold b ([] ++ [0]) 0 : Nat) = n2 at *
    generalize (vfold b [] 0 : Nat) = n1 at *
    clear e1 hz f4 f5 iv hl
    unfold r__law_right f__law_right
    generalize tx [] = t0 at *
    clear e0 e00
    walk_at "fxh"
  · have hnil : decide (ds = []) = false := decide_eq_false h
    obtain ⟨y', lp⟩ := feed_loop (μ := μ) hb (NF b most (tx ds) (vfold b ds 0 : Nat)) (tx ds) (ofS "") ds [] .un (by simp only [List.length_nil]; omega) iv.dig (fun p d hp => iv.pre p d hp)
    rw [List.nil_append] at lp
    have e1 : (ds.map fun d => D.str [dig d]) = (tx ds).map fun c => D.str [c] := by
      rw [List.map_map]
      rfl
    rw [e1] at lp
    have mk := make_eq (b := b) (most := most) (μ := μ) (xaCons (xQ (qVar 2)) (xaCons (xQ (qVar 3)) (xaNil))) (NF b most (tx ds) (vfold b ds 0 : Nat)) [.str (tx ds), .int b, .int most, .str (ofS ""), .un, .un] [NF b most (tx ds) (vfold b ds 0 : Nat), .str (tx ds), .int b, .int most, .str (ofS ""), .un, .un] μ (by walk_at "fx")
    have a1 : dAdd (.str (tx ds)) (.str (ofS "")) = some (.str (tx ds)) := by
      rw [dAdd_str, if_pos (Nat.le_trans (by rw [List.length_map]; show ds.length + 0 ≤ 500; omega : (tx ds).length + (ofS "").length ≤ 500) (by decide)), e00, List.append_nil]
    have a2 : dEq (.str (ofS "")) (.str (ofS "")) = some (.bl true) := by rw [dEq_str, decide_eq_true rfl]
    rw [if_neg h] at f3
    rw [hnil] at hne f1
    rw [show (NO b most (tx []) (vfold b [] 0 : Nat)) = NO b most (ofS "") 0 from rfl] at lp
    clear e1 hz iv hl h hnil
    generalize tx ds = t at *
    generalize (vfold b ds 0 : Nat) = n1 at *
    clear e00
    unfold r__law_right f__law_right
    walk_at "fxh"
end
/-! ### the law -/
abbrev inB : FS := (fSeq (fSet 7 (qRun 2 [] r__law_stream (aCons (qVar 6) (aCons (qC (.int 3)) (aNil)))))
    (fSeq (fSet 8 (qRun 1 [] r__law_sign (aCons (q2 dIx (qVar 7) (qC (.int 0))) (aNil))))
    (fSeq (fIf (qB (q2 dEq (q2 dMod (q2 dIx (qVar 7) (qC (.int 1))) (qC (.int 2))) (qC (.int 0)))) (fSet 8 (q2 dIx (qC (.str (ofS "0123456789abcdef"))) (q2 dMod (q2 dIx (qVar 7) (qC (.int 2))) (qVar 2)))) (fNext))
    (fSeq (fSet 9 (qRun 4 [] r__law_may (aCons (qVar 5) (aCons (qVar 8) (aCons (qVar 2) (aCons (qVar 3) (aNil)))))))
    (fSeq (fSetX 10 (xMethS 4 "fed" 2 [] mt3_fed (xaCons (xQ (qVar 8)) (xaNil))))
    (fSeq (fIf (bOr (bNot (qB (qIsi "bool" (qVar 10)))) (qB (q2 dNe (qVar 10) (qVar 9)))) (fRet (qC (.bl false))) (fNext))
    (fSeq (fIf (qB (qVar 9)) (fSet 5 (q2 dAdd (qVar 5) (qVar 8))) (fNext))
    (fIf (bNot (qB (qRunF 4 [] r__law_right (aCons (qVar 4) (aCons (qVar 5) (aCons (qVar 2) (aCons (qVar 3) (aNil)))))))) (fRet (qC (.bl false))) (fNext)))))))))
section
variable {b : Nat} {most : Int} {μ : List D}
/-- fed and reckoned alike -/
theorem fed_may (hb : b = 10 ∨ b = 16) (ds : List Nat) (hl : ds.length ≤ 400) (iv : IV b most ds) (c : Nat) : ∃ (r : Bool) (ds' : List Nat), r__law_may [.str (tx ds), .str [c], .int b, .int most] = some (.bl r) ∧
    (∀ μ : List D, r_Number_fed [NO b most (tx ds) (vfold b ds 0 : Nat), .str [c]] μ = some (.ok (.bl r) [NO b most (tx ds') (vfold b ds' 0 : Nat), .str [c]] μ)) ∧ IV b most ds' ∧ ds'.length ≤ ds.length + 1 ∧ (r = true → dAdd (.str (tx ds)) (.str [c]) = some (.str (tx ds'))) ∧ (r = false → ds' = ds) := by
  by_cases h : ∃ d, d < b ∧ dig d = c
  · obtain ⟨d, hd, rfl⟩ := h
    have e1 := may_dig (most := most) (ds := ds) hb hd iv.dig (by omega)
    have e2 := fun μ => fed_dig (most := most) (ds := ds) (μ := μ) hb hd iv.dig (by omega)
    cases r : (!decide (ds = [0]) && decide (((vfold b (ds ++ [d]) 0 : Nat) : Int) ≤ most)) with
    | true =>
      rw [r] at e1
      obtain ⟨r1, r2⟩ := Bool.and_eq_true_iff.mp r
      refine ⟨true, ds ++ [d], e1, fun μ => ?_, iv.step hd (by simpa using r1) (of_decide_eq_true r2), by rw [List.length_append]; exact Nat.le_refl _, fun _ => ?_, fun z => nomatch z⟩
      · have := e2 μ
        rw [r] at this
        exact this
      · rw [dAdd_str, if_pos (show (tx ds).length + [dig d].length ≤ LIM from Nat.le_trans (by rw [List.length_map, List.length_singleton]; omega : (tx ds).length + [dig d].length ≤ 1001) (by decide))]
        show some (D.str (tx ds ++ [dig d])) = _
        rw [show tx (ds ++ [d]) = tx ds ++ [dig d] from List.map_append]
    | false =>
      rw [r] at e1
      refine ⟨false, ds, e1, fun μ => ?_, iv, by omega, (fun z => nomatch z), fun _ => rfl⟩
      have := e2 μ
      rw [r] at this
      exact this
  · exact ⟨false, ds, may_no (by omega) h, fun μ => fed_no (by omega) h, iv, by omega, (fun z => nomatch z), fun _ => rfl⟩
theorem inner (hb : b = 10 ∨ b = 16) (hm : 0 ≤ most) (S f : D) : ∀ (cells : List Int) (ds : List Nat) (y6 y7 y8 y9 y10 : D), ds.length + cells.length ≤ 300 → IV b most ds →
    ∃ ds' y6' y7' y8' y9' y10', forL (tgN 6) inB [S, f, .int b, .int most, NO b most (tx ds) (vfold b ds 0 : Nat), .str (tx ds), y6, y7, y8, y9, y10] μ (cells.map D.int) = some (.nx [S, f, .int b, .int most, NO b most (tx ds') (vfold b ds' 0 : Nat), .str (tx ds'), y6', y7', y8', y9', y10'] μ) ∧ IV b most ds' ∧ ds'.length ≤ 300
  | [], ds, y6, y7, y8, y9, y10, hl, iv => ⟨ds, y6, y7, y8, y9, y10, rfl, iv, by simp only [List.length_nil] at hl; omega⟩
  | c :: cells, ds, y6, y7, y8, y9, y10, hl, iv => by
    simp only [List.length_cons] at hl
    obtain ⟨xs, e1, hx, _⟩ := stream_is c 3 (by decide)
    obtain ⟨x0, x1, x2, rfl⟩ : ∃ a b c, xs = [a, b, c] := by
      match xs, hx with
      | [a, b, c], _ => exact ⟨a, b, c, rfl⟩
    rw [show ((3 : Nat) : Int) = 3 from rfl] at e1
    obtain ⟨c0, _, e2⟩ := sign_is x0
    have i0 : ixAt ([x0, x1, x2].map D.int) 0 = some (.int x0) := rfl
    have i1 : ixAt ([x0, x1, x2].map D.int) 1 = some (.int x1) := rfl
    have i2 : ixAt ([x0, x1, x2].map D.int) 2 = some (.int x2) := rfl
    have hdl : dataL ([x0, x1, x2].map D.int) = true := rfl
    have w1 : decide ((0 : Int) < 2) = true := by decide
    have w2 : decide ((0 : Int) < b) = true := decide_eq_true (by omega)
    have w3 : figs.length ≤ LIM := by decide +kernel
    have hdg : ∃ d : Nat, ixAt figs (x2 % b) = some d := by
      have h0 : 0 ≤ x2 % b := Int.emod_nonneg _ (by omega)
      have h1 : x2 % b < b := Int.emod_lt_of_pos _ (by omega)
      rw [ixAt_pos h0]
      have : (x2 % b).toNat < figs.length := by
        rw [show figs.length = 16 from by decide +kernel]
        omega
      exact ⟨_, List.getElem?_eq_getElem this⟩
    obtain ⟨c2, e3⟩ := hdg
    have main : ∀ c3 : Nat, (if decide (x1 % 2 = 0) = true then c2 else c0) = c3 → ∃ ds' z8 z9 z10, (IV b most ds' ∧ ds'.length ≤ ds.length + 1) ∧ inB [S, f, .int b, .int most, NO b most (tx ds) (vfold b ds 0 : Nat), .str (tx ds), .int c, y7, y8, y9, y10] μ = some (.nx [S, f, .int b, .int most, NO b most (tx ds') (vfold b ds' 0 : Nat), .str (tx ds'), .int c, .lst ([x0, x1, x2].map D.int), z8, z9, z10] μ) := by
      intro c3 hc3
      obtain ⟨r, ds', m1, m2, iv2, hl2, m3, m4⟩ := fed_may hb ds (by omega) iv c3
      have m5 := m2 μ
      have r1 : ∀ (μ : List D), r__law_right [NF b most (tx ds') (vfold b ds' 0 : Nat), .str (tx ds'), .int b, .int most] μ = some (.bl true) := fun μ => right_eq hb hm (by omega) iv2
      refine ⟨ds', .str [c3], .bl r, .bl r, ⟨iv2, hl2⟩, ?_⟩
      clear m2 iv iv2 hl2 hl
      generalize [x0, x1, x2].map D.int = l at *
      generalize (vfold b ds 0 : Nat) = n1 at *
      generalize (vfold b ds' 0 : Nat) = n2 at *
      cases r with
      | true =>
        have m6 := m3 rfl
        clear m3 m4
        generalize tx ds = t1 at *
        generalize tx ds' = t2 at *
        cases a : decide (x1 % 2 = 0) with
        | true =>
          rw [a, if_pos rfl] at hc3
          subst hc3
          walk_at "fxh"
        | false =>
          rw [a, if_neg Bool.false_ne_true] at hc3
          subst hc3
          walk_at "fxh"
      | false =>
        have m6 : tx ds' = tx ds := by rw [m4 rfl]
        clear m3 m4
        generalize tx ds = t1 at *
        generalize tx ds' = t2 at *
        subst m6
        cases a : decide (x1 % 2 = 0) with
        | true =>
          rw [a, if_pos rfl] at hc3
          subst hc3
          walk_at "fxh"
        | false =>
          rw [a, if_neg Bool.false_ne_true] at hc3
          subst hc3
          walk_at "fxh"
    obtain ⟨ds', z8, z9, z10, ⟨iv2, hl2⟩, e⟩ := main _ rfl
    obtain ⟨ds'', y6', y7', y8', y9', y10', ih, iv3, hl3⟩ := inner hb hm S f cells ds' (.int c) (.lst ([x0, x1, x2].map D.int)) z8 z9 z10 (by omega) iv2
    refine ⟨ds'', y6', y7', y8', y9', y10', ?_, iv3, hl3⟩
    rw [List.map_cons]
    exact (forL_turn (ρ1 := [S, f, .int b, .int most, NO b most (tx ds) (vfold b ds 0 : Nat), .str (tx ds), .int c, y7, y8, y9, y10]) (μ2 := μ) rfl e).trans ih
end
theorem cell_any (ns : List Int) (k : Nat) (h : ns.length ≤ 63) : ∃ c, r__law_cell_at [.lst (ns.map D.int), .int (k : Int)] = some (.int c) := by
  unfold r__law_cell_at f__law_cell_at
  by_cases z : k < ns.length
  · have h1 : decide ((k : Int) < ((ns.map D.int).length : Nat)) = true := decide_eq_true (by rw [List.length_map]; omega)
    have h2 : ixAt (ns.map D.int) (k : Int) = some (.int ns[k]) := by
      rw [ixAt_nat, List.getElem?_map, List.getElem?_eq_getElem z]
      rfl
    refine ⟨ns[k], ?_⟩
    generalize ns.map D.int = l at *
    walk_at "fxh"
  · have h1 : decide ((k : Int) < ((ns.map D.int).length : Nat)) = false := decide_eq_false (by rw [List.length_map]; omega)
    refine ⟨0, ?_⟩
    generalize ns.map D.int = l at *
    walk_at "fxh"
theorem law_true (ns : List Int) (h : ns.length ≤ 63) : r_law [.lst (ns.map D.int)] [] = some (.bl true) := by
  obtain ⟨c0, e0⟩ := cell_any ns 0 h
  obtain ⟨c1, e1⟩ := cell_any ns 1 h
  rw [show ((0 : Nat) : Int) = 0 from rfl] at e0
  rw [show ((1 : Nat) : Int) = 1 from rfl] at e1
  have w1 : decide ((0 : Int) < 2) = true := by decide
  have w2 : decide ((0 : Int) < 2 ∧ (2 : Int) < 1073741824) = true := by decide
  have w3 : decide ((0 : Int) < 3) = true := by decide
  have w4 : decide ((0 : Int) ≤ 12 ∧ (12 : Int) ≤ 1000 ∧ (10 : Int).natAbs < 18446744073709551616) = true := by decide
  have w5 : decide ((10 : Int).natAbs < 18446744073709551616) = true := by decide
  have hb : ∃ b : Nat, ixAt [D.int 10, D.int 16] (c0 % 2) = some (.int (b : Int)) ∧ (b = 10 ∨ b = 16) := by
    have : c0 % 2 = 0 ∨ c0 % 2 = 1 := by omega
    rcases this with e | e <;> rw [e]
    · exact ⟨10, rfl, .inl rfl⟩
    · exact ⟨16, rfl, .inr rfl⟩
  obtain ⟨b, hb1, hb⟩ := hb
  have hq : ∃ q : Int, ixAt [D.int 41, D.int 1001, D.int (10 ^ (12 : Int).toNat)] (c0 / 2 % 3) = some (.int q) ∧ 0 < q := by
    have : c0 / 2 % 3 = 0 ∨ c0 / 2 % 3 = 1 ∨ c0 / 2 % 3 = 2 := by omega
    rcases this with e | e | e <;> rw [e]
    · exact ⟨41, rfl, by decide⟩
    · exact ⟨1001, rfl, by decide⟩
    · exact ⟨10 ^ (12 : Int).toNat, rfl, by decide⟩
  obtain ⟨q, hq1, hq⟩ := hq
  have w6 : decide ((0 : Int) < q) = true := decide_eq_true hq
  have hm : 0 ≤ c1 % q := Int.emod_nonneg _ (by omega)
  obtain ⟨l, k1, k2⟩ := cut_ints ns (some 2) (some 42)
  have hz : vfold b [] 0 = 0 := rfl
  obtain ⟨ds', z6, z7, z8, z9, z10, lp, iv, hl⟩ := inner (b := b) (most := c1 % q) (μ := []) hb hm (.lst (ns.map D.int)) (.int c0) l [] .un .un .un .un .un (by simp only [List.length_nil]; omega) ⟨(fun d hd => nomatch hd), fun p d hp => by have := hp.length_le; simp at this⟩
  rw [← k1] at lp
  have rr : ∀ (μ : List D), r__law_right [NF b (c1 % q) (tx ds') (vfold b ds' 0 : Nat), .str (tx ds'), .int b, .int (c1 % q)] μ = some (.bl true) := fun μ => right_eq hb hm (by omega) iv
  have mk := make_eq (b := b) (most := c1 % q) (μ := []) (xaCons (xQ (qVar 2)) (xaCons (xQ (qVar 3)) (xaNil))) (.lst (ns.map D.int)) [.int c0, .int b, .int (c1 % q), .un, .un, .un, .un, .un, .un, .un] [.lst (ns.map D.int), .int c0, .int b, .int (c1 % q), .un, .un, .un, .un, .un, .un, .un] [] (by walk_at "fx")
  have hd : dataL (ns.map D.int) = true := dataL_ints ns
  rw [show (NO b (c1 % q) (tx []) (vfold b [] 0 : Nat)) = NO b (c1 % q) (ofS "") 0 from rfl, show tx [] = ofS "" from rfl] at lp
  unfold inB at lp
  clear k1 k2 hz hl iv hm hq hb h
  generalize ns.map D.int = L at *
  generalize tx ds' = t at *
  generalize (vfold b ds' 0 : Nat) = n at *
  unfold r_law f_law
  walk_at "fxh"
end G
namespace G
open PySem PySem.Spec PyProof.Rows L2 Fw
def loose : List PySem.Str := ["FIGURES", "Number", "_law_cell_at", "_law_stream", "_law_sign", "_law_value", "_law_may", "_law_right"]
theorem run (w : World) : HandSHeadRun.RunEq R (PySem.W.view R.prog [10]) hk ob 4000 loose w := by
  intro os
  kernel_rfl
end G
open PySem PySem.W PySem.Calls PyProof.Rows
set_option maxRecDepth 100000 in
set_option maxHeartbeats 0 in
theorem PySem.Challenge.cw_framepost_k21_a_number_read_holds : PySem.Challenge.rw_framepost_k21_a_number_read.Holds := by
  w_on; o_law
  refine HandSHeadRun.head_any (r := OpenLaw.row PySem.Challenge.rw_framepost_k21_a_number_read) (q := view (OpenLaw.row PySem.Challenge.rw_framepost_k21_a_number_read).prog [10]) (H := G.hk) (ob := G.ob) (M := 4000) (loose := G.loose) (d := HandSHeadRun.topDef (OpenLaw.row PySem.Challenge.rw_framepost_k21_a_number_read).prog 10) (kwd := []) G.ob_eq
    (by kernel_rfl) (fun s => by kernel_rfl) G.run (by kernel_rfl) (by kernel_rfl) (by kernel_rfl) (by rfl) (by first | assumption | decide +kernel) (by decide +kernel) ⟨rfl, rfl, rfl, rfl, rfl, by decide +kernel⟩ ?hw ?hc
  case hw => w_witness2
  case hc =>
    refine L2.walk_ofE (l := PySem.Challenge.rw_framepost_k21_a_number_read) (n := 63) (k := 4) (x := "_law_script") (CX := Fw.CXw) rfl (by decide) (by kernel_rfl) ⟨rfl, by decide, by decide⟩ ?F (fun _ _ _ _ z => Fw.cxw_none z)
    intro w mg fa h Y G0 hmg0
    obtain ⟨K, KX, c⟩ := Y
    have hmg : mg ("law" : PySem.Str) = some (.ref fa) := by
      have e : (HandSHeadRun.topDef (OpenLaw.row PySem.Challenge.rw_framepost_k21_a_number_read).prog 10).name = ("law" : PySem.Str) := by kernel_rfl
      rw [← e]
      exact hmg0
    obtain ⟨fd, F⟩ := (G.facts (P := (PySem.Challenge.rw_framepost_k21_a_number_read).prog) (base := h) KX G0 c).d_law
    have em := (G.facts (P := (PySem.Challenge.rw_framepost_k21_a_number_read).prog) (base := h) KX G0 c).m_law
    rw [hmg] at em
    cases em
    refine ⟨K, fd, Fw.spF K 1 G.r_law, KX, fun s u => L2.FunD.bindsA (ps := ["_law_script"]) F (fun _ _ _ _ _ _ us hl => match us, hl with | [_], _ => rfl) s [u] rfl, fun H a ns hl _ hS => Fw.law_spF hS (G.law_true ns hl), fun base hb hn => ?_⟩
    exact Fw.cx_wide (G.fn_law (G.facts (P := (PySem.Challenge.rw_framepost_k21_a_number_read).prog) (base := base) KX G0 c) F)
#print axioms PySem.Challenge.cw_framepost_k21_a_number_read_holds

