import PyProof.Rows.All
import Wide.All
import OpenK.AllK
import Wide.FinOn
import HandS.ForMost
import HandS.Exc
import HandS.TryOnly
import HandS.ExcOwn
import HandS.WordsExc
import HandS.Defaults
import HandS.HeadHook1
import HandS.HeadHook2
import HandS.HeadHook4
import HandS.Head2
import HandS.HeadEnd
import HandS.Evl
import HandS.Wide
import HandS.WideBits
import HandS.TupAny
import HandS.IsInst
import HandS.Style
import HandS.StrMore
import HandS.CallSlots
import HandS.Iter
import HandS.Replace
import HandS.ClsMeth
import PySem.Challenge.RW_framepost_k32_what_may_come_in_rows
set_option Elab.async false
set_option linter.all false
set_option maxRecDepth 100000
set_option maxHeartbeats 4000000
/-! # values as trees, worlds, and how a tree stands in the abstract heap -/
namespace Fw
open PySem PySem.Spec PyProof.Rows L2
open Evl (Ex)

/-- a value as a tree: lst a list that nobody changes any more, ml one that one place owns, obj an instance that one place owns, fo an instance that nobody changes meanwhile, ref an instance that is shared, un nothing -/
inductive D where
  | non | bl (b : Bool) | int (i : Int) | str (s : List Nat) | tup (ds : List D) | lst (ds : List D) | ml (ds : List D)
  | obj (c : Str) (ns : List Str) (ds : List D) | fo (c : Str) (ns : List Str) (ds : List D) | ref (k : Nat) | un
abbrev tr (s : List Nat) : Str := ⟨s.toArray⟩
/-- a written text's signs -/
def ofS (s : String) : List Nat := s.toList.map Char.toNat
theorem tr_ofS (s : String) : (Str.ofString s) = tr (ofS s) := Str.ofString_eq_toList s

structure Wd where
  H : Hp
  Fr : Addr → Prop
  m : List Addr
/-- a list that stands still -/
def FzR (W : Wd) (a : Addr) (xs : List V) : Prop := Rd W.H a (.lst xs) ∧ W.Fr a
def FzL (K : PySem.W.Frag) (W : Wd) (a : Addr) (xs : List V) : Prop := FzR W a xs ∨ SqL K (fun _ => none) a xs
theorem FzL.sq {K : PySem.W.Frag} {W : Wd} {a : Addr} {xs : List V} (h : FzL K W a xs) : SqL K W.H a xs := by
  rcases h with h | h
  · exact .inl h.1
  · rcases h with h | h
    · rcases h with h | ⟨_, h⟩ <;> cases h
    · exact .inr h

mutual
def R (K : PySem.W.Frag) (W : Wd) : D → V → List Addr → Prop
  | .non, v, F => v = .non ∧ F = []
  | .bl b, v, F => v = .bl b ∧ F = []
  | .int i, v, F => v = .int i ∧ F = []
  | .str s, v, F => v = .str (tr s) ∧ F = []
  | .tup ds, v, F => ∃ a vs, v = .ref a ∧ SqT K W.H a vs ∧ RL K W ds vs F
  | .lst ds, v, F => ∃ a vs, v = .ref a ∧ FzL K W a vs ∧ RL K W ds vs [] ∧ F = []
  | .ml ds, v, F => ∃ a vs F', v = .ref a ∧ W.H a = some (.lst vs) ∧ RL K W ds vs F' ∧ F = a :: F'
  | .obj c ns ds, v, F => ∃ a dx vs F', v = .ref a ∧ W.H a = some (.ins (He.ga K c) dx (ns.zip vs)) ∧ ns.length = ds.length ∧ RL K W ds vs F' ∧ F = a :: F'
  | .fo c ns ds, v, F => ∃ a dx vs, v = .ref a ∧ W.H a = some (.ins (He.ga K c) dx (ns.zip vs)) ∧ W.Fr a ∧ ns.length = ds.length ∧ RL K W ds vs [] ∧ F = []
  | .ref k, v, F => ∃ a, v = .ref a ∧ W.m[k]? = some a ∧ F = []
  | .un, v, F => False
def RL (K : PySem.W.Frag) (W : Wd) : List D → List V → List Addr → Prop
  | [], vs, F => vs = [] ∧ F = []
  | d :: ds, vs, F => ∃ v vs' F1 F2, vs = v :: vs' ∧ R K W d v F1 ∧ RL K W ds vs' F2 ∧ F = F1 ++ F2
end
/-- a slot -/
def R1 (K : PySem.W.Frag) (W : Wd) : D → Option V → List Addr → Prop
  | .un, _, F => F = []
  | d, o, F => ∃ v, o = some v ∧ R K W d v F
def RS (K : PySem.W.Frag) (W : Wd) : List D → List (Option V) → List Addr → Prop
  | [], σ, F => σ = [] ∧ F = []
  | d :: ds, σ, F => ∃ o σ' F1 F2, σ = o :: σ' ∧ R1 K W d o F1 ∧ RS K W ds σ' F2 ∧ F = F1 ++ F2

def WOk (W : Wd) : Prop := ∀ a, W.Fr a → W.H a ≠ none
/-- a place of its own: a list or an instance that may change -/
def Own (W : Wd) (a : Addr) : Prop := ¬ W.Fr a ∧ ((∃ xs, W.H a = some (.lst xs)) ∨ ∃ C dx fs, W.H a = some (.ins C dx fs))

/-- the world has grown: nothing that was there is other -/
structure Ext (W W' : Wd) : Prop where
  ex : Ex W.H W'.H
  fr : ∀ a, W.Fr a → W'.Fr a
  nf : ∀ a, W'.Fr a → W.Fr a ∨ W.H a = none
  m : W'.m = W.m
  ok : WOk W'
theorem Ext.refl {W : Wd} (h : WOk W) : Ext W W := ⟨Ex.refl _, fun _ h => h, fun _ h => .inl h, rfl, h⟩
theorem Ext.trans {A B C : Wd} (h : Ext A B) (g : Ext B C) : Ext A C :=
  ⟨h.ex.trans g.ex, fun a q => g.fr a (h.fr a q), fun a q => by
    rcases g.nf a q with q | q
    · exact h.nf a q
    · exact .inr (Evl.fresh_back h.ex q), g.m.trans h.m, g.ok⟩

theorem FzR.ext {W W' : Wd} {a : Addr} {xs : List V} (e : Ext W W') (h : FzR W a xs) : FzR W' a xs := ⟨Evl.ex_rd e.ex h.1, e.fr _ h.2⟩
theorem FzL.ext {K : PySem.W.Frag} {W W' : Wd} {a : Addr} {xs : List V} (e : Ext W W') (h : FzL K W a xs) : FzL K W' a xs := h.imp (fun z => z.ext e) id
section
variable {K : PySem.W.Frag} {W W' : Wd}
mutual
theorem R_ext (e : Ext W W') : ∀ (d : D) {v : V} {F : List Addr}, R K W d v F → R K W' d v F
  | .non, _, _, h => h
  | .bl _, _, _, h => h
  | .int _, _, _, h => h
  | .str _, _, _, h => h
  | .tup ds, _, _, h => by
    obtain ⟨a, vs, h1, h2, h3⟩ := h
    exact ⟨a, vs, h1, Evl.ex_t e.ex h2, RL_ext e ds h3⟩
  | .lst ds, _, _, h => by
    obtain ⟨a, vs, h1, h2, h3, h4⟩ := h
    exact ⟨a, vs, h1, h2.ext e, RL_ext e ds h3, h4⟩
  | .ml ds, _, _, h => by
    obtain ⟨a, vs, F', h1, h2, h3, h4⟩ := h
    exact ⟨a, vs, F', h1, e.ex _ _ h2, RL_ext e ds h3, h4⟩
  | .obj c ns ds, _, _, h => by
    obtain ⟨a, dx, vs, F', h1, h2, h3, h4, h5⟩ := h
    exact ⟨a, dx, vs, F', h1, e.ex _ _ h2, h3, RL_ext e ds h4, h5⟩
  | .fo c ns ds, _, _, h => by
    obtain ⟨a, dx, vs, h1, h2, h3, h4, h5, h6⟩ := h
    exact ⟨a, dx, vs, h1, e.ex _ _ h2, e.fr _ h3, h4, RL_ext e ds h5, h6⟩
  | .ref k, _, _, h => by
    obtain ⟨a, h1, h2, h3⟩ := h
    exact ⟨a, h1, by rw [e.m]; exact h2, h3⟩
  | .un, _, _, h => h.elim
theorem RL_ext (e : Ext W W') : ∀ (ds : List D) {vs : List V} {F : List Addr}, RL K W ds vs F → RL K W' ds vs F
  | [], _, _, h => h
  | d :: ds, _, _, h => by
    obtain ⟨v, vs', F1, F2, h1, h2, h3, h4⟩ := h
    exact ⟨v, vs', F1, F2, h1, R_ext e d h2, RL_ext e ds h3, h4⟩
end
theorem R1_iff : ∀ {d : D} {o : Option V} {F : List Addr}, R1 K W d o F ↔ (d = .un ∧ F = []) ∨ (∃ v, o = some v ∧ R K W d v F) := by
  intro d o F
  cases d <;> simp [R1, R]
theorem R1_ext (e : Ext W W') {d : D} {o : Option V} {F : List Addr} (h : R1 K W d o F) : R1 K W' d o F := by
  rw [R1_iff] at h ⊢
  rcases h with h | ⟨v, h1, h2⟩
  · exact .inl h
  · exact .inr ⟨v, h1, R_ext e d h2⟩
theorem RS_ext (e : Ext W W') : ∀ {ds : List D} {σ : List (Option V)} {F : List Addr}, RS K W ds σ F → RS K W' ds σ F
  | [], _, _, h => h
  | d :: ds, _, _, h => by
    obtain ⟨o, σ', F1, F2, h1, h2, h3, h4⟩ := h
    exact ⟨o, σ', F1, F2, h1, R1_ext e h2, RS_ext e h3, h4⟩
theorem Own.ext {a : Addr} (e : Ext W W') (h : Own W a) : Own W' a := by
  obtain ⟨h1, h2⟩ := h
  refine ⟨fun q => ?_, ?_⟩
  · rcases e.nf a q with q | q
    · exact h1 q
    · rcases h2 with ⟨xs, h2⟩ | ⟨C, dx, fs, h2⟩ <;> rw [q] at h2 <;> cases h2
  · rcases h2 with ⟨xs, h2⟩ | ⟨C, dx, fs, h2⟩
    · exact .inl ⟨xs, e.ex _ _ h2⟩
    · exact .inr ⟨C, dx, fs, e.ex _ _ h2⟩
end
/-- the slots and the store stand in the world -/
structure Sta (K : PySem.W.Frag) (W : Wd) (σ : L2.St) (ρ μ : List D) (F : List Addr) : Prop where
  ex : ∃ F1 F2, RS K W ρ σ F1 ∧ RL K W μ (W.m.map V.ref) F2 ∧ F = F1 ++ F2
  nd : F.Nodup
  own : ∀ a ∈ F, Own W a
  ok : WOk W
theorem Sta.ext {K : PySem.W.Frag} {W W' : Wd} {σ : L2.St} {ρ μ : List D} {F : List Addr} (e : Ext W W') (h : Sta K W σ ρ μ F) : Sta K W' σ ρ μ F := by
  obtain ⟨⟨F1, F2, h1, h2, h3⟩, h4, h5, h6⟩ := h
  exact ⟨⟨F1, F2, RS_ext e h1, by rw [e.m]; exact RL_ext e μ h2, h3⟩, h4, fun a ha => (h5 a ha).ext e, e.ok⟩
section
variable {K : PySem.W.Frag} {W W' : Wd}
theorem RS_get : ∀ {ρ : List D} {σ : List (Option V)} {F : List Addr} {i : Nat} {d : D}, RS K W ρ σ F → ρ[i]? = some d → d ≠ .un → ∃ v F1, σ[i]? = some (some v) ∧ R K W d v F1
  | [], _, _, i, d, _, h, _ => by simp at h
  | d0 :: ρ, _, _, 0, d, h, h1, h2 => by
    obtain ⟨o, σ', F1, F2, e1, e2, e3, e4⟩ := h
    have e : d0 = d := Option.some.inj h1
    subst e
    rw [R1_iff] at e2
    rcases e2 with ⟨q, _⟩ | ⟨v, q1, q2⟩
    · exact absurd q h2
    · exact ⟨v, F1, by rw [e1, q1]; rfl, q2⟩
  | d0 :: ρ, _, _, i + 1, d, h, h1, h2 => by
    obtain ⟨o, σ', F1, F2, e1, e2, e3, e4⟩ := h
    obtain ⟨v, F3, q1, q2⟩ := RS_get (i := i) e3 (by simpa using h1) h2
    exact ⟨v, F3, by rw [e1]; simpa using q1, q2⟩
/-! ### data -/
mutual
def data : D → Bool
  | .tup ds => dataL ds
  | .lst ds => dataL ds
  | .ml _ => false
  | .obj _ _ _ => false
  | .fo _ _ _ => false
  | .ref _ => false
  | .un => false
  | _ => true
def dataL : List D → Bool
  | [] => true
  | d :: ds => data d && dataL ds
end
mutual
theorem R_data : ∀ (d : D) {v : V} {F : List Addr}, data d = true → R K W d v F → F = []
  | .non, _, _, _, h => h.2
  | .bl _, _, _, _, h => h.2
  | .int _, _, _, _, h => h.2
  | .str _, _, _, _, h => h.2
  | .tup ds, _, _, q, h => by
    obtain ⟨a, vs, h1, h2, h3⟩ := h
    exact RL_data ds q h3
  | .lst ds, _, _, _, h => by
    obtain ⟨a, vs, h1, h2, h3, h4⟩ := h
    exact h4
  | .ml ds, _, _, q, h => by cases q
  | .obj c ns ds, _, _, q, h => by cases q
  | .fo c ns ds, _, _, q, h => by cases q
  | .ref k, _, _, q, h => by cases q
  | .un, _, _, _, h => h.elim
theorem RL_data : ∀ (ds : List D) {vs : List V} {F : List Addr}, dataL ds = true → RL K W ds vs F → F = []
  | [], _, _, _, h => h.2
  | d :: ds, _, _, q, h => by
    obtain ⟨v, vs', F1, F2, h1, h2, h3, h4⟩ := h
    have q1 : (data d && dataL ds) = true := q
    obtain ⟨qa, qb⟩ := Bool.and_eq_true_iff.mp q1
    rw [h4, R_data d qa h2, RL_data ds qb h3]
    rfl
end
theorem dataL_all : ∀ (ds : List D), dataL ds = ds.all data
  | [] => rfl
  | d :: ds => by
    show (data d && dataL ds) = _
    rw [dataL_all ds, List.all_cons]
/-! ### lists of values -/
theorem RL_len : ∀ {ds : List D} {vs : List V} {F : List Addr}, RL K W ds vs F → vs.length = ds.length
  | [], _, _, h => by rw [h.1] <;> rfl
  | d :: ds, _, _, h => by
    obtain ⟨v, vs', F1, F2, h1, h2, h3, h4⟩ := h
    rw [h1, List.length_cons, List.length_cons, RL_len h3]
theorem RL_get : ∀ {ds : List D} {vs : List V} {F : List Addr} {i : Nat} {d : D}, RL K W ds vs F → ds[i]? = some d → ∃ v F1, vs[i]? = some v ∧ R K W d v F1 ∧ ∀ a ∈ F1, a ∈ F
  | [], _, _, i, d, _, h => by simp at h
  | d0 :: ds, _, _, 0, d, h, h1 => by
    obtain ⟨v, vs', F1, F2, e1, e2, e3, e4⟩ := h
    have e : d0 = d := Option.some.inj h1
    subst e
    exact ⟨v, F1, by rw [e1]; rfl, e2, fun a ha => by rw [e4]; exact List.mem_append_left _ ha⟩
  | d0 :: ds, _, _, i + 1, d, h, h1 => by
    obtain ⟨v, vs', F1, F2, e1, e2, e3, e4⟩ := h
    obtain ⟨u, F3, q1, q2, q3⟩ := RL_get (i := i) e3 (by simpa using h1)
    exact ⟨u, F3, by rw [e1]; simpa using q1, q2, fun a ha => by rw [e4]; exact List.mem_append_right _ (q3 a ha)⟩
theorem RL_app : ∀ {ds es : List D} {vs us : List V} {F G : List Addr}, RL K W ds vs F → RL K W es us G → RL K W (ds ++ es) (vs ++ us) (F ++ G)
  | [], es, _, us, _, G, h, g => by
    rw [h.1, h.2]
    exact g
  | d :: ds, es, _, us, _, G, h, g => by
    obtain ⟨v, vs', F1, F2, e1, e2, e3, e4⟩ := h
    refine ⟨v, vs' ++ us, F1, F2 ++ G, by rw [e1]; rfl, e2, RL_app e3 g, by rw [e4, List.append_assoc]⟩
theorem RL_take : ∀ {ds : List D} {vs : List V} {n : Nat}, RL K W ds vs [] → RL K W (ds.take n) (vs.take n) []
  | [], _, n, h => by
    rw [h.1, List.take_nil, List.take_nil]
    exact ⟨rfl, rfl⟩
  | d :: ds, _, 0, h => by
    rw [List.take_zero, List.take_zero]
    exact ⟨rfl, rfl⟩
  | d :: ds, _, n + 1, h => by
    obtain ⟨v, vs', F1, F2, e1, e2, e3, e4⟩ := h
    obtain ⟨rfl, rfl⟩ := List.append_eq_nil_iff.mp e4.symm
    rw [e1]
    exact ⟨v, vs'.take n, [], [], rfl, e2, RL_take e3, rfl⟩
theorem RL_drop : ∀ {ds : List D} {vs : List V} {n : Nat}, RL K W ds vs [] → RL K W (ds.drop n) (vs.drop n) []
  | [], _, n, h => by
    rw [h.1, List.drop_nil, List.drop_nil]
    exact ⟨rfl, rfl⟩
  | d :: ds, _, 0, h => by
    rw [List.drop_zero, List.drop_zero]
    exact h
  | d :: ds, _, n + 1, h => by
    obtain ⟨v, vs', F1, F2, e1, e2, e3, e4⟩ := h
    obtain ⟨rfl, rfl⟩ := List.append_eq_nil_iff.mp e4.symm
    rw [e1]
    show RL K W (ds.drop n) (vs'.drop n) []
    exact RL_drop (n := n) e3
end
/-! ### the world grows by one -/
section
variable {W : Wd} {p : Addr} {o : HO}
abbrev Wd.put (W : Wd) (p : Addr) (o : HO) : Wd := ⟨upd W.H p o, W.Fr, W.m⟩
abbrev Wd.frz (W : Wd) (p : Addr) (xs : List V) : Wd := ⟨upd W.H p (.lst xs), fun a => W.Fr a ∨ a = p, W.m⟩
theorem Ext.put (ok : WOk W) (hp : W.H p = none) : Ext W (W.put p o) :=
  ⟨Ex.new hp, fun _ h => h, fun _ h => .inl h, rfl, fun a h => by
    show upd W.H p o a ≠ none
    by_cases e : a = p
    · rw [e, upd_same]
      exact fun z => nomatch z
    · rw [upd_ne e]
      exact ok a h⟩
theorem Ext.frz {xs : List V} (ok : WOk W) (hp : W.H p = none) : Ext W (W.frz p xs) :=
  ⟨Ex.new hp, fun _ h => .inl h, fun a h => by
    rcases h with h | h
    · exact .inl h
    · exact .inr (by rw [h]; exact hp), rfl, fun a h => by
    show upd W.H p (.lst xs) a ≠ none
    rcases h with h | h
    · by_cases e : a = p
      · rw [e, upd_same]
        exact fun z => nomatch z
      · rw [upd_ne e]
        exact ok a h
    · rw [h, upd_same]
      exact fun z => nomatch z⟩
theorem R_newT {K : PySem.W.Frag} {ds : List D} {vs : List V} {F : List Addr} (ok : WOk W) (hp : W.H p = none) (h : RL K W ds vs F) : R K (W.put p (.tup vs)) (.tup ds) (.ref p) F :=
  ⟨p, vs, rfl, Evl.st_of upd_same, RL_ext (Ext.put ok hp) ds h⟩
theorem R_newL {K : PySem.W.Frag} {ds : List D} {vs : List V} (ok : WOk W) (hp : W.H p = none) (h : RL K W ds vs []) : R K (W.frz p vs) (.lst ds) (.ref p) [] :=
  ⟨p, vs, rfl, .inl ⟨.inl upd_same, .inr rfl⟩, RL_ext (Ext.frz ok hp) ds h, rfl⟩
end
/-! ### what stands still stays, whatever else is changed -/
structure Lt (W W' : Wd) : Prop where
  tup : ∀ a xs, Rd W.H a (.tup xs) → Rd W'.H a (.tup xs)
  fz : ∀ a xs, FzR W a xs → FzR W' a xs
  fi : ∀ a C dx fs, W.H a = some (.ins C dx fs) → W.Fr a → W'.H a = some (.ins C dx fs) ∧ W'.Fr a
  m : ∀ (k : Nat) (a : Addr), W.m[k]? = some a → W'.m[k]? = some a
theorem Lt.refl {W : Wd} : Lt W W := ⟨fun _ _ h => h, fun _ _ h => h, fun _ _ _ _ h h' => ⟨h, h'⟩, fun _ _ h => h⟩
theorem Lt.trans {A B C : Wd} (h : Lt A B) (g : Lt B C) : Lt A C := ⟨fun a xs q => g.tup a xs (h.tup a xs q), fun a xs q => g.fz a xs (h.fz a xs q), fun a C dx fs q q' => g.fi a C dx fs (h.fi a C dx fs q q').1 (h.fi a C dx fs q q').2, fun k a q => g.m k a (h.m k a q)⟩
theorem Ext.lt {W W' : Wd} (e : Ext W W') : Lt W W' := ⟨fun _ _ h => Evl.ex_rd e.ex h, fun _ _ h => h.ext e, fun _ _ _ _ h h' => ⟨e.ex _ _ h, e.fr _ h'⟩, fun _ _ h => by rw [e.m]; exact h⟩
theorem FzL.lt {K : PySem.W.Frag} {W W' : Wd} {a : Addr} {xs : List V} (e : Lt W W') (h : FzL K W a xs) : FzL K W' a xs := h.imp (fun z => e.fz _ _ z) id
theorem Lt.sqT {K : PySem.W.Frag} {W W' : Wd} {a : Addr} {xs : List V} (e : Lt W W') (h : SqT K W.H a xs) : SqT K W'.H a xs := by
  rcases h with h | h
  · exact .inl (e.tup a xs h)
  · exact .inr h
section
variable {K : PySem.W.Frag} {W W' : Wd}
mutual
theorem R_lt (e : Lt W W') : ∀ (d : D) {v : V}, R K W d v [] → R K W' d v []
  | .non, _, h => h
  | .bl _, _, h => h
  | .int _, _, h => h
  | .str _, _, h => h
  | .tup ds, _, h => by
    obtain ⟨a, vs, h1, h2, h3⟩ := h
    exact ⟨a, vs, h1, e.sqT h2, RL_lt e ds h3⟩
  | .lst ds, _, h => by
    obtain ⟨a, vs, h1, h2, h3, h4⟩ := h
    exact ⟨a, vs, h1, h2.lt e, RL_lt e ds h3, h4⟩
  | .ml ds, _, h => by
    obtain ⟨a, vs, F', h1, h2, h3, h4⟩ := h
    cases h4
  | .obj c ns ds, _, h => by
    obtain ⟨a, dx, vs, F', h1, h2, h3, h4, h5⟩ := h
    cases h5
  | .fo c ns ds, _, h => by
    obtain ⟨a, dx, vs, h1, h2, h3, h4, h5, h6⟩ := h
    obtain ⟨q1, q2⟩ := e.fi _ _ _ _ h2 h3
    exact ⟨a, dx, vs, h1, q1, q2, h4, RL_lt e ds h5, h6⟩
  | .ref k, _, h => by
    obtain ⟨a, h1, h2, h3⟩ := h
    exact ⟨a, h1, e.m _ _ h2, h3⟩
  | .un, _, h => h.elim
theorem RL_lt (e : Lt W W') : ∀ (ds : List D) {vs : List V}, RL K W ds vs [] → RL K W' ds vs []
  | [], _, h => h
  | d :: ds, _, h => by
    obtain ⟨v, vs', F1, F2, h1, h2, h3, h4⟩ := h
    obtain ⟨rfl, rfl⟩ := List.append_eq_nil_iff.mp h4.symm
    exact ⟨v, vs', [], [], h1, R_lt e d h2, RL_lt e ds h3, rfl⟩
end
/-! ### a slot is set -/
theorem RS_len : ∀ {ρ : List D} {σ : List (Option V)} {F : List Addr}, RS K W ρ σ F → σ.length = ρ.length
  | [], _, _, h => by rw [h.1] <;> rfl
  | d :: ρ, _, _, h => by
    obtain ⟨o, σ', F1, F2, e1, e2, e3, e4⟩ := h
    rw [e1, List.length_cons, List.length_cons, RS_len e3]
theorem RS_set {d' : D} {o' : Option V} {G : List Addr} (g : R1 K W d' o' G) : ∀ {ρ : List D} {σ : List (Option V)} {F : List Addr} {i : Nat}, RS K W ρ σ F → i < ρ.length → ∃ A B C, F = A ++ (B ++ C) ∧ RS K W (ρ.set i d') (σ.set i o') (A ++ (G ++ C))
  | [], _, _, i, _, h => by cases h
  | d :: ρ, _, _, 0, h, _ => by
    obtain ⟨o, σ', F1, F2, e1, e2, e3, e4⟩ := h
    exact ⟨[], F1, F2, e4, by rw [e1]; exact ⟨o', σ', G, F2, rfl, g, e3, rfl⟩⟩
  | d :: ρ, _, _, i + 1, h, hl => by
    obtain ⟨o, σ', F1, F2, e1, e2, e3, e4⟩ := h
    obtain ⟨A, B, C, q1, q2⟩ := RS_set g (i := i) e3 (Nat.lt_of_succ_lt_succ hl)
    refine ⟨F1 ++ A, B, C, by rw [e4, q1, List.append_assoc], ?_⟩
    rw [e1]
    exact ⟨o, σ'.set i o', F1, A ++ (G ++ C), rfl, e2, q2, by rw [List.append_assoc]⟩
end
/-- a slot gets what has no place of its own -/
theorem Sta.set {K : PySem.W.Frag} {W : Wd} {σ : L2.St} {ρ μ : List D} {F : List Addr} {i : Nat} {d : D} {o : Option V} (S : Sta K W σ ρ μ F) (g : R1 K W d o []) : ∃ F', Sta K W (σ.set i o) (ρ.set i d) μ F' ∧ ∀ a ∈ F', a ∈ F := by
  obtain ⟨⟨F1, F2, h1, h2, h3⟩, nd, own, ok⟩ := S
  have hl := RS_len h1
  by_cases hi : i < ρ.length
  · obtain ⟨A, B, C, q1, q2⟩ := RS_set g h1 hi
    have e1 : F = A ++ (B ++ C) ++ F2 := by rw [h3, q1]
    have sub : (A ++ ([] ++ C) ++ F2).Sublist F := by
      rw [e1]
      exact List.Sublist.append (List.Sublist.append (List.Sublist.refl A) (List.Sublist.append (List.nil_sublist B) (List.Sublist.refl C))) (List.Sublist.refl F2)
    exact ⟨A ++ ([] ++ C) ++ F2, ⟨⟨_, F2, q2, h2, rfl⟩, nd.sublist sub, fun a ha => own a (sub.subset ha), ok⟩, fun a ha => sub.subset ha⟩
  · rw [List.set_eq_of_length_le (by omega), List.set_eq_of_length_le (by omega)]
    exact ⟨F, ⟨⟨F1, F2, h1, h2, h3⟩, nd, own, ok⟩, fun a ha => ha⟩
/-! ### data do not ask who is shared -/
section
variable {K : PySem.W.Frag} {W : Wd}
mutual
theorem R_m {m : List Addr} : ∀ (d : D) {v : V} {F : List Addr}, data d = true → R K W d v F → R K ⟨W.H, W.Fr, m⟩ d v F
  | .non, _, _, _, h => h
  | .bl _, _, _, _, h => h
  | .int _, _, _, _, h => h
  | .str _, _, _, _, h => h
  | .tup ds, _, _, q, h => by
    obtain ⟨a, vs, h1, h2, h3⟩ := h
    exact ⟨a, vs, h1, h2, RL_m ds q h3⟩
  | .lst ds, _, _, q, h => by
    obtain ⟨a, vs, h1, h2, h3, h4⟩ := h
    exact ⟨a, vs, h1, h2, RL_m ds q h3, h4⟩
  | .ml ds, _, _, q, h => by cases q
  | .obj c ns ds, _, _, q, h => by cases q
  | .fo c ns ds, _, _, q, h => by cases q
  | .ref k, _, _, q, h => by cases q
  | .un, _, _, q, h => by cases q
theorem RL_m {m : List Addr} : ∀ (ds : List D) {vs : List V} {F : List Addr}, dataL ds = true → RL K W ds vs F → RL K ⟨W.H, W.Fr, m⟩ ds vs F
  | [], _, _, _, h => h
  | d :: ds, _, _, q, h => by
    obtain ⟨v, vs', F1, F2, h1, h2, h3, h4⟩ := h
    obtain ⟨qa, qb⟩ := Bool.and_eq_true_iff.mp (show (data d && dataL ds) = true from q)
    exact ⟨v, vs', F1, F2, h1, R_m d qa h2, RL_m ds qb h3, h4⟩
end
end
/-! ### the world moves at F; F' is one's own behind -/
structure Mv (W W' : Wd) (F F' : List Addr) : Prop where
  keep : ∀ a o, W.H a = some o → a ∉ F → W'.H a = some o
  fr : ∀ a, W.Fr a → W'.Fr a
  nf : ∀ a, W'.Fr a → W.Fr a ∨ W.H a = none ∨ a ∈ F
  own : ∀ a ∈ F', a ∈ F ∨ W.H a = none
  m : ∃ l, W'.m = W.m ++ l
theorem Ext.mv {W W' : Wd} {F F' : List Addr} (e : Ext W W') (h : ∀ a ∈ F', a ∈ F) : Mv W W' F F' :=
  ⟨fun a o h _ => e.ex a o h, e.fr, fun a h => (e.nf a h).elim .inl fun z => .inr (.inl z), fun a ha => .inl (h a ha), ⟨[], by rw [e.m, List.append_nil]⟩⟩
theorem Mv.trans {A B C : Wd} {F G I : List Addr} (h : Mv A B F G) (g : Mv B C G I) : Mv A C F I := by
  have back : ∀ a, B.H a = none → A.H a = none ∨ a ∈ F := fun a q => by
    cases e : A.H a with
    | none => exact .inl rfl
    | some o =>
      by_cases hf : a ∈ F
      · exact .inr hf
      · rw [h.keep a o e hf] at q
        cases q
  refine ⟨fun a o e hf => ?_, fun a q => g.fr a (h.fr a q), fun a q => ?_, fun a ha => ?_, ?_⟩
  · refine g.keep a o (h.keep a o e hf) fun z => ?_
    rcases h.own a z with z | z
    · exact hf z
    · rw [e] at z
      cases z
  · rcases g.nf a q with q | q | q
    · exact h.nf a q
    · rcases back a q with q | q
      · exact .inr (.inl q)
      · exact .inr (.inr q)
    · rcases h.own a q with q | q
      · exact .inr (.inr q)
      · exact .inr (.inl q)
  · rcases g.own a ha with q | q
    · exact h.own a q
    · rcases back a q with q | q
      · exact .inr q
      · exact .inl q
  · obtain ⟨l, h⟩ := h.m
    obtain ⟨l', g⟩ := g.m
    exact ⟨l ++ l', by rw [g, h, List.append_assoc]⟩
theorem Mv.lt {W W' : Wd} {F F' : List Addr} (h : Mv W W' F F') (own : ∀ a ∈ F, Own W a) : Lt W W' := by
  have out : ∀ a o, W.H a = some o → (∀ xs, o ≠ .lst xs) → (∀ C dx fs, o ≠ .ins C dx fs) → a ∉ F := fun a o e n1 n2 z => by
    obtain ⟨_, q⟩ := own a z
    rcases q with ⟨xs, q⟩ | ⟨C, dx, fs, q⟩
    · rw [e] at q
      exact n1 xs (Option.some.inj q)
    · rw [e] at q
      exact n2 C dx fs (Option.some.inj q)
  refine ⟨fun a xs r => ?_, fun a xs r => ⟨?_, h.fr a r.2⟩, fun a C dx fs r r' => ⟨h.keep a _ r fun z => (own a z).1 r', h.fr a r'⟩, fun k a e => ?_⟩
  · rcases r with r | ⟨o, r⟩
    · exact .inl (h.keep a _ r (out a _ r (fun _ q => nomatch q) fun _ _ _ q => nomatch q))
    · exact .inr ⟨o, h.keep a _ r (out a _ r (fun _ q => nomatch q) fun _ _ _ q => nomatch q)⟩
  · have nf : a ∉ F := fun z => (own a z).1 r.2
    rcases r.1 with r | ⟨o, r⟩
    · exact .inl (h.keep a _ r nf)
    · exact .inr ⟨o, h.keep a _ r nf⟩
  · obtain ⟨l, q⟩ := h.m
    rw [q, List.getElem?_append_left (List.getElem?_eq_some_iff.mp e).1]
    exact e
/-! ### the same heap, more that stands still -/
section
variable {K : PySem.W.Frag} {W W' : Wd}
mutual
theorem R_same (e : Lt W W') (hH : W'.H = W.H) : ∀ (d : D) {v : V} {F : List Addr}, R K W d v F → R K W' d v F
  | .non, _, _, h => h
  | .bl _, _, _, h => h
  | .int _, _, _, h => h
  | .str _, _, _, h => h
  | .tup ds, _, _, h => by
    obtain ⟨a, vs, h1, h2, h3⟩ := h
    exact ⟨a, vs, h1, e.sqT h2, RL_same e hH ds h3⟩
  | .lst ds, _, _, h => by
    obtain ⟨a, vs, h1, h2, h3, h4⟩ := h
    exact ⟨a, vs, h1, h2.lt e, RL_same e hH ds h3, h4⟩
  | .ml ds, _, _, h => by
    obtain ⟨a, vs, F', h1, h2, h3, h4⟩ := h
    exact ⟨a, vs, F', h1, by rw [hH]; exact h2, RL_same e hH ds h3, h4⟩
  | .obj c ns ds, _, _, h => by
    obtain ⟨a, dx, vs, F', h1, h2, h3, h4, h5⟩ := h
    exact ⟨a, dx, vs, F', h1, by rw [hH]; exact h2, h3, RL_same e hH ds h4, h5⟩
  | .fo c ns ds, _, _, h => by
    obtain ⟨a, dx, vs, h1, h2, h3, h4, h5, h6⟩ := h
    obtain ⟨q1, q2⟩ := e.fi _ _ _ _ h2 h3
    exact ⟨a, dx, vs, h1, q1, q2, h4, RL_same e hH ds h5, h6⟩
  | .ref k, _, _, h => by
    obtain ⟨a, h1, h2, h3⟩ := h
    exact ⟨a, h1, e.m _ _ h2, h3⟩
  | .un, _, _, h => h.elim
theorem RL_same (e : Lt W W') (hH : W'.H = W.H) : ∀ (ds : List D) {vs : List V} {F : List Addr}, RL K W ds vs F → RL K W' ds vs F
  | [], _, _, h => h
  | d :: ds, _, _, h => by
    obtain ⟨v, vs', F1, F2, h1, h2, h3, h4⟩ := h
    exact ⟨v, vs', F1, F2, h1, R_same e hH d h2, RL_same e hH ds h3, h4⟩
end
theorem RS_same (e : Lt W W') (hH : W'.H = W.H) : ∀ {ds : List D} {σ : List (Option V)} {F : List Addr}, RS K W ds σ F → RS K W' ds σ F
  | [], _, _, h => h
  | d :: ds, _, _, h => by
    obtain ⟨o, σ', F1, F2, h1, h2, h3, h4⟩ := h
    refine ⟨o, σ', F1, F2, h1, ?_, RS_same e hH h3, h4⟩
    rw [R1_iff] at h2 ⊢
    rcases h2 with h2 | ⟨v, q1, q2⟩
    · exact .inl h2
    · exact .inr ⟨v, q1, R_same e hH d q2⟩
end
end Fw
/-! # quiet expressions: what they evaluate to, nothing else changed -/
namespace Fw
open PySem PySem.Spec PyProof.Rows L2
open Evl (Ex)

abbrev FQ := List D → List D → Option D
abbrev FB := List D → List D → Option Bool
abbrev FA := List D → List D → Option (List D)

/-- e is quiet: where f tells d, it evaluates to d; the world may only grow -/
def PQ (X : Cx) (e : Expr) (f : FQ) : Prop := ∃ te : TE, PE X e te ∧ ∀ (σ : L2.St) (W : Wd) (ρ μ : List D) (F : List Addr), Sta X.K W σ ρ μ F → ∀ d, f ρ μ = some d →
  ∀ Q : VK, (∀ v W' G, Ext W W' → R X.K W' d v G → Q v W'.H) → te σ W.H Q
def PB (X : Cx) (e : Expr) (f : FB) : Prop := ∃ tt : TT, PT X e tt ∧ ∀ (σ : L2.St) (W : Wd) (ρ μ : List D) (F : List Addr), Sta X.K W σ ρ μ F → ∀ b, f ρ μ = some b →
  ∀ Q : Bool → Hp → Prop, (∀ W', Ext W W' → Q b W'.H) → tt σ W.H Q
def PWB (X : Cx) (e : Expr) (f : FB) : Prop := ∃ tt : TT, PW X e tt ∧ ∀ (σ : L2.St) (W : Wd) (ρ μ : List D) (F : List Addr), Sta X.K W σ ρ μ F → ∀ b, f ρ μ = some b →
  ∀ Q : Bool → Hp → Prop, (∀ W', Ext W W' → Q b W'.H) → tt σ W.H Q
def PAQ (X : Cx) (es : List Expr) (f : FA) : Prop := ∃ ta : TA, PA X es ta ∧ ∀ (σ : L2.St) (W : Wd) (ρ μ : List D) (F : List Addr), Sta X.K W σ ρ μ F → ∀ ds, f ρ μ = some ds →
  ∀ Q : List V → Hp → Prop, (∀ vs W' G, Ext W W' → RL X.K W' ds vs G → Q vs W'.H) → ta σ W.H Q
/-- a new list at p, its items data; nobody else knows it -/
structure NewL (K : PySem.W.Frag) (W W' : Wd) (ds : List D) (p : Addr) : Prop where
  ext : Ext W W'
  new : W.H p = none
  nofr : ¬ W'.Fr p
  at_ : ∃ vs, W'.H p = some (.lst vs) ∧ RL K W' ds vs []
def PN (X : Cx) (e : Expr) (f : FA) : Prop := ∃ te : TE, PE X e te ∧ ∀ (σ : L2.St) (W : Wd) (ρ μ : List D) (F : List Addr), Sta X.K W σ ρ μ F → ∀ ds, f ρ μ = some ds →
  ∀ Q : VK, (∀ p W', NewL X.K W W' ds p → Q (.ref p) W'.H) → te σ W.H Q

section
variable {X : Cx} {e a b c : Expr} {es : List Expr} {f g h : FQ} {pos : Pos}
/-! ### names, constants -/
def qVar (i : Nat) : FQ := fun ρ _ => match ρ[i]? with
  | some .un => none
  | o => o
theorem pq_var (i : Nat) {x : Str} (hp : PE X (.Name x pos) (tVar i)) : PQ X (.Name x pos) (qVar i) := by
  refine ⟨_, hp, fun σ W ρ μ F S d hd Q q => ?_⟩
  obtain ⟨F1, F2, h1, h2, h3⟩ := S.ex
  have hr : ρ[i]? = some d ∧ d ≠ .un := by
    unfold qVar at hd
    cases e : ρ[i]? with
    | none => rw [e] at hd; cases hd
    | some d0 =>
      rw [e] at hd
      cases d0 <;> first
        | (cases hd; done)
        | (have z := Option.some.inj hd; subst z; exact ⟨rfl, fun z => nomatch z⟩)
  obtain ⟨v, G, s1, s2⟩ := RS_get h1 hr.1 hr.2
  exact ⟨v, s1, q v W G (Ext.refl S.ok) s2⟩
def qC (d : D) : FQ := fun _ _ => some d
theorem pq_int {i : Int} {j} : PQ X (.Constant (.int i) j pos) (qC (.int i)) :=
  ⟨_, pe_int, fun σ W ρ μ F S d hd Q q => q _ W [] (Ext.refl S.ok) (by cases hd; exact ⟨rfl, rfl⟩)⟩
theorem pq_bl {i : Bool} {j} : PQ X (.Constant (.bool i) j pos) (qC (.bl i)) :=
  ⟨_, pe_bl, fun σ W ρ μ F S d hd Q q => q _ W [] (Ext.refl S.ok) (by cases hd; exact ⟨rfl, rfl⟩)⟩
theorem pq_non {j} : PQ X (.Constant .none j pos) (qC .non) :=
  ⟨_, pe_non, fun σ W ρ μ F S d hd Q q => q _ W [] (Ext.refl S.ok) (by cases hd; exact ⟨rfl, rfl⟩)⟩
theorem pq_str (x : String) {j} : PQ X (.Constant (.str (Str.ofString x)) j pos) (qC (.str (ofS x))) :=
  ⟨_, pe_str, fun σ W ρ μ F S d hd Q q => q _ W [] (Ext.refl S.ok) (by cases hd; exact ⟨congrArg V.str (tr_ofS x), rfl⟩)⟩
/-- a name of the module: d stands there at every heap -/
def GlD (K : PySem.W.Frag) (mg : Str → Option Value) (x : Str) (d : D) : Prop := ∃ v u, mg x = some u ∧ RelV v u ∧ ∀ W : Wd, R K W d v []
theorem pq_glob {x : Str} {d : D} (G : GlD X.K X.mg x d) (hg : Gl X x := by rfl) (hd : (x == ("__debug__" : Str)) = false := by decide) : PQ X (.Name x pos) (qC d) := by
  obtain ⟨v, u, h1, h2, h3⟩ := G
  exact ⟨_, pe_glob hg h1 h2 hd, fun σ W ρ μ F S d' hd' Q q => q v W [] (Ext.refl S.ok) (by cases hd'; exact h3 W)⟩

/-! ### operators -/
def q2 (o : D → D → Option D) (f g : FQ) : FQ := fun ρ μ => (f ρ μ).bind fun x => (g ρ μ).bind fun y => o x y
def q1 (o : D → Option D) (f : FQ) : FQ := fun ρ μ => (f ρ μ).bind o
theorem bind_some {α β : Type} {o : Option α} {k : α → Option β} {z : β} (h : o.bind k = some z) : ∃ x, o = some x ∧ k x = some z := by
  cases o with
  | none => cases h
  | some x => exact ⟨x, rfl, h⟩
/-- an operator on trees -/
def OpD (X : Cx) (op : Value → Value → Sem Value) (o : D → D → Option D) : Prop := ∃ r : R2, OpR X op r ∧ ∀ (W : Wd) (x y : D) (u v : V) (G1 G2 : List Addr), WOk W → R X.K W x u G1 → R X.K W y v G2 → ∀ d, o x y = some d →
  ∀ Q : VK, (∀ v W' G, Ext W W' → R X.K W' d v G → Q v W'.H) → r u v W.H Q
theorem run2 {ta tb : TE} {r : R2} {o : D → D → Option D}
    (h1 : ∀ (σ : L2.St) (W : Wd) (ρ μ : List D) (F : List Addr), Sta X.K W σ ρ μ F → ∀ d, f ρ μ = some d → ∀ Q : VK, (∀ v W' G, Ext W W' → R X.K W' d v G → Q v W'.H) → ta σ W.H Q)
    (h2 : ∀ (σ : L2.St) (W : Wd) (ρ μ : List D) (F : List Addr), Sta X.K W σ ρ μ F → ∀ d, g ρ μ = some d → ∀ Q : VK, (∀ v W' G, Ext W W' → R X.K W' d v G → Q v W'.H) → tb σ W.H Q)
    (h3 : ∀ (W : Wd) (x y : D) (u v : V) (G1 G2 : List Addr), WOk W → R X.K W x u G1 → R X.K W y v G2 → ∀ d, o x y = some d → ∀ Q : VK, (∀ v W' G, Ext W W' → R X.K W' d v G → Q v W'.H) → r u v W.H Q)
    (σ : L2.St) (W : Wd) (ρ μ : List D) (F : List Addr) (S : Sta X.K W σ ρ μ F) (d : D) (hd : q2 o f g ρ μ = some d) (Q : VK) (q : ∀ v W' G, Ext W W' → R X.K W' d v G → Q v W'.H) : tOp r ta tb σ W.H Q := by
  obtain ⟨x, e1, hd⟩ := bind_some hd
  obtain ⟨y, e2, hd⟩ := bind_some hd
  refine h1 σ W ρ μ F S x e1 _ fun u W1 G1 x1 r1 => ?_
  refine h2 σ W1 ρ μ F (S.ext x1) y e2 _ fun v W2 G2 x2 r2 => ?_
  exact h3 W2 x y u v G1 G2 x2.ok (R_ext x2 x r1) r2 d hd _ fun z W3 G3 x3 r3 => q z W3 G3 ((x1.trans x2).trans x3) r3
theorem pq_op {op : Operator} {o : D → D → Option D} (h : OpD X (binaryOp op) o) (ha : PQ X a f) (hb : PQ X b g) : PQ X (.BinOp a op b pos) (q2 o f g) := by
  obtain ⟨r, hr, h3⟩ := h
  obtain ⟨ta, pa, h1⟩ := ha
  obtain ⟨tb, pb, h2⟩ := hb
  exact ⟨_, pe_op hr pa pb, run2 h1 h2 h3⟩
theorem pq_cmp {op : CmpOp} {o : D → D → Option D} (h : OpD X (compareOp op) o) (ha : PQ X a f) (hb : PQ X b g) (hm : behindInMarks op b = false) : PQ X (.Compare a [op] [b] pos) (q2 o f g) := by
  obtain ⟨r, hr, h3⟩ := h
  obtain ⟨ta, pa, h1⟩ := ha
  obtain ⟨tb, pb, h2⟩ := hb
  exact ⟨_, pe_cmpR hr pa pb hm, run2 h1 h2 h3⟩
/-- a truth out of a value -/
def qB (f : FQ) : FB := fun ρ μ => match f ρ μ with
  | some (.bl b) => some b
  | _ => none
theorem qB_some {f : FQ} {ρ μ : List D} {b : Bool} (h : qB f ρ μ = some b) : f ρ μ = some (.bl b) := by
  unfold qB at h
  cases e : f ρ μ with
  | none => rw [e] at h; cases h
  | some d =>
    rw [e] at h
    cases d <;> first
      | (cases h; done)
      | (have z := Option.some.inj h; subst z; rfl)
theorem pb_val (ha : PQ X a f) (he : ∀ whole, isTrue a X.env whole = (do let v ← whole; standAt a.pos; holding [v] (truthy v)) := by intro _; rfl) : PB X a (qB f) := by
  obtain ⟨ta, pa, h1⟩ := ha
  refine ⟨_, pt_val pa he, fun σ W ρ μ F S b hb Q q => ?_⟩
  refine h1 σ W ρ μ F S _ (qB_some hb) _ fun u W1 G1 x1 r1 => ?_
  exact ⟨b, r1.1, q W1 x1⟩
theorem pb_cmp {op : CmpOp} {o : D → D → Option D} (h : OpD X (compareOp op) o) (ha : PQ X a f) (hb : PQ X b g) (hm : behindInMarks op b = false) : PB X (.Compare a [op] [b] pos) (qB (q2 o f g)) := by
  obtain ⟨r, hr, h3⟩ := h
  obtain ⟨ta, pa, h1⟩ := ha
  obtain ⟨tb, pb, h2⟩ := hb
  refine ⟨_, pt_cmpR hr pa pb hm, fun σ W ρ μ F S b hb Q q => ?_⟩
  refine run2 h1 h2 h3 σ W ρ μ F S _ (qB_some hb) _ fun u W1 G1 x1 r1 => ?_
  exact ⟨b, r1.1, q W1 x1⟩
/-! ### two comparisons in a chain -/
def q3 (o o' : D → D → Option D) (f g h : FQ) : FQ := fun ρ μ => (f ρ μ).bind fun x => (g ρ μ).bind fun y => match o x y with
  | some (.bl true) => (h ρ μ).bind fun z => o' y z
  | some (.bl false) => some (.bl false)
  | _ => none
theorem run3 {op op' : CmpOp} {o o' : D → D → Option D} (H1 : OpD X (compareOp op) o) (H2 : OpD X (compareOp op') o') (ha : PQ X a f) (hb : PQ X b g) (hc : PQ X c h) :
    ∃ r r' ta tb tc, OpR X (compareOp op) r ∧ OpR X (compareOp op') r' ∧ PE X a ta ∧ PE X b tb ∧ PE X c tc ∧
      ∀ (σ : L2.St) (W : Wd) (ρ μ : List D) (F : List Addr), Sta X.K W σ ρ μ F → ∀ d, q3 o o' f g h ρ μ = some d → ∀ Q : VK, (∀ v W' G, Ext W W' → R X.K W' d v G → Q v W'.H) → tChain r r' ta tb tc σ W.H Q := by
  obtain ⟨r, hr, h3⟩ := H1
  obtain ⟨r', hr', h4⟩ := H2
  obtain ⟨ta, pa, h1⟩ := ha
  obtain ⟨tb, pb, h2⟩ := hb
  obtain ⟨tc, pc, h5⟩ := hc
  refine ⟨r, r', ta, tb, tc, hr, hr', pa, pb, pc, fun σ W ρ μ F S d hd Q q => ?_⟩
  obtain ⟨x, e1, hd⟩ := bind_some hd
  obtain ⟨y, e2, hd⟩ := bind_some hd
  refine h1 σ W ρ μ F S x e1 _ fun u W1 G1 x1 r1 => ?_
  refine h2 σ W1 ρ μ F (S.ext x1) y e2 _ fun v W2 G2 x2 r2 => ?_
  cases e3 : o x y with
  | none => rw [e3] at hd; cases hd
  | some k =>
    rw [e3] at hd
    refine h3 W2 x y u v G1 G2 x2.ok (R_ext x2 x r1) r2 k e3 _ fun z W3 G3 x3 r3 => ?_
    cases k with
    | bl t =>
      refine ⟨t, r3.1, ?_⟩
      cases t with
      | true =>
        rw [if_pos rfl]
        obtain ⟨w, e4, hd⟩ := bind_some hd
        refine h5 σ W3 ρ μ F (((S.ext x1).ext x2).ext x3) w e4 _ fun t' W4 G4 x4 r4 => ?_
        exact h4 W4 y w v t' G2 G4 x4.ok (R_ext (x3.trans x4) y r2) r4 d hd _ fun z' W5 G5 x5 r5 => q z' W5 G5 ((((x1.trans x2).trans x3).trans x4).trans x5) r5
      | false =>
        rw [if_neg Bool.false_ne_true]
        cases hd
        exact q _ W3 [] ((x1.trans x2).trans x3) ⟨rfl, rfl⟩
    | _ => cases hd
end
end Fw
/-! # more quiet expressions -/
namespace Fw
open PySem PySem.Spec PyProof.Rows L2
open Evl (Ex)
section
variable {X : Cx} {e a b c : Expr} {es : List Expr} {f g h : FQ} {t u : FB} {pos : Pos}
theorem pq_chain {op op' : CmpOp} {o o' : D → D → Option D} (H1 : OpD X (compareOp op) o) (H2 : OpD X (compareOp op') o') (ha : PQ X a f) (hb : PQ X b g) (hc : PQ X c h)
    (hm : lastMarks [op, op'] [b, c] = false := by with_unfolding_all rfl) : PQ X (.Compare a [op, op'] [b, c] pos) (q3 o o' f g h) := by
  obtain ⟨r, r', ta, tb, tc, hr, hr', pa, pb, pc, k⟩ := run3 H1 H2 ha hb hc
  exact ⟨_, pe_chain hr hr' pa pb pc hm, k⟩
theorem pb_chain {op op' : CmpOp} {o o' : D → D → Option D} (H1 : OpD X (compareOp op) o) (H2 : OpD X (compareOp op') o') (ha : PQ X a f) (hb : PQ X b g) (hc : PQ X c h)
    (hm : lastMarks [op, op'] [b, c] = false := by with_unfolding_all rfl) : PB X (.Compare a [op, op'] [b, c] pos) (qB (q3 o o' f g h)) := by
  obtain ⟨r, r', ta, tb, tc, hr, hr', pa, pb, pc, k⟩ := run3 H1 H2 ha hb hc
  refine ⟨_, pt_chain hr hr' pa pb pc hm, fun σ W ρ μ F S b hb Q q => ?_⟩
  exact k σ W ρ μ F S _ (qB_some hb) _ fun u W1 G1 x1 r1 => ⟨b, r1.1, q W1 x1⟩
/-! ### and, or, not -/
def bAnd (t u : FB) : FB := fun ρ μ => (t ρ μ).bind fun x => if x = true then u ρ μ else some false
def bOr (t u : FB) : FB := fun ρ μ => (t ρ μ).bind fun x => if x = true then some true else u ρ μ
def bNot (t : FB) : FB := fun ρ μ => (t ρ μ).map not
theorem PWB.pb (h : PWB X e t) : PB X e t := by
  obtain ⟨tt, p, k⟩ := h
  exact ⟨tt, p.pt, k⟩
theorem pw1_and (h : PB X a t) : PWB X (.BoolOp .And [a] pos) t := by
  obtain ⟨tt, p, k⟩ := h
  exact ⟨tt, pw_and1 p, k⟩
theorem pw1_or (h : PB X a t) : PWB X (.BoolOp .Or [a] pos) t := by
  obtain ⟨tt, p, k⟩ := h
  exact ⟨tt, pw_or1 p, k⟩
theorem pwb_and (ha : PB X a t) (hb : PWB X (.BoolOp .And (b :: es) pos) u) : PWB X (.BoolOp .And (a :: b :: es) pos) (bAnd t u) := by
  obtain ⟨t1, p1, k1⟩ := ha
  obtain ⟨t2, p2, k2⟩ := hb
  refine ⟨_, pw_and p1 p2, fun σ W ρ μ F S b hb Q q => ?_⟩
  obtain ⟨x, e1, hb⟩ := bind_some hb
  refine k1 σ W ρ μ F S x e1 _ fun W1 x1 => ?_
  cases x with
  | true =>
    rw [if_pos rfl] at hb ⊢
    exact k2 σ W1 ρ μ F (S.ext x1) b hb Q fun W2 x2 => q W2 (x1.trans x2)
  | false =>
    rw [if_neg Bool.false_ne_true] at hb ⊢
    cases hb
    exact q W1 x1
theorem pwb_or (ha : PB X a t) (hb : PWB X (.BoolOp .Or (b :: es) pos) u) : PWB X (.BoolOp .Or (a :: b :: es) pos) (bOr t u) := by
  obtain ⟨t1, p1, k1⟩ := ha
  obtain ⟨t2, p2, k2⟩ := hb
  refine ⟨_, pw_or p1 p2, fun σ W ρ μ F S b hb Q q => ?_⟩
  obtain ⟨x, e1, hb⟩ := bind_some hb
  refine k1 σ W ρ μ F S x e1 _ fun W1 x1 => ?_
  cases x with
  | true =>
    rw [if_pos rfl] at hb ⊢
    cases hb
    exact q W1 x1
  | false =>
    rw [if_neg Bool.false_ne_true] at hb ⊢
    exact k2 σ W1 ρ μ F (S.ext x1) b hb Q fun W2 x2 => q W2 (x1.trans x2)
theorem pb_not (ha : PB X a t) : PB X (.UnaryOp .Not a pos) (bNot t) := by
  obtain ⟨t1, p1, k1⟩ := ha
  refine ⟨_, pt_not p1, fun σ W ρ μ F S b hb Q q => ?_⟩
  unfold bNot at hb
  cases e : t ρ μ with
  | none => rw [e] at hb; cases hb
  | some x =>
    rw [e] at hb
    have z : (!x) = b := Option.some.inj hb
    subst z
    exact k1 σ W ρ μ F S x e _ fun W1 x1 => q W1 x1
/-- as values: the operands before the last are truths -/
def qAnd (f g : FQ) : FQ := fun ρ μ => match f ρ μ with
  | some (.bl true) => g ρ μ
  | some (.bl false) => some (.bl false)
  | _ => none
def qOr (f g : FQ) : FQ := fun ρ μ => match f ρ μ with
  | some (.bl false) => g ρ μ
  | some (.bl true) => some (.bl true)
  | _ => none
def qNot (f : FQ) : FQ := fun ρ μ => match f ρ μ with
  | some (.bl b) => some (.bl (!b))
  | _ => none
theorem pq_one {op} (h : PQ X a f) : PQ X (.BoolOp op [a] pos) f := by
  obtain ⟨t, p, k⟩ := h
  exact ⟨t, pe_one p, k⟩
theorem pq_and (ha : PQ X a f) (hb : PQ X (.BoolOp .And (b :: es) pos) g) : PQ X (.BoolOp .And (a :: b :: es) pos) (qAnd f g) := by
  obtain ⟨t1, p1, k1⟩ := ha
  obtain ⟨t2, p2, k2⟩ := hb
  refine ⟨_, pe_and p1 p2, fun σ W ρ μ F S d hd Q q => ?_⟩
  unfold qAnd at hd
  cases e : f ρ μ with
  | none => rw [e] at hd; cases hd
  | some x =>
    rw [e] at hd
    refine k1 σ W ρ μ F S x e _ fun v W1 G1 x1 r1 => ?_
    cases x with
    | bl c =>
      refine ⟨c, r1.1, ?_⟩
      cases c with
      | true =>
        rw [if_pos rfl]
        exact k2 σ W1 ρ μ F (S.ext x1) d hd Q fun v W2 G x2 r2 => q v W2 G (x1.trans x2) r2
      | false =>
        rw [if_neg Bool.false_ne_true]
        cases hd
        exact q _ W1 [] x1 ⟨rfl, rfl⟩
    | _ => cases hd
theorem pq_or (ha : PQ X a f) (hb : PQ X (.BoolOp .Or (b :: es) pos) g) : PQ X (.BoolOp .Or (a :: b :: es) pos) (qOr f g) := by
  obtain ⟨t1, p1, k1⟩ := ha
  obtain ⟨t2, p2, k2⟩ := hb
  refine ⟨_, pe_or p1 p2, fun σ W ρ μ F S d hd Q q => ?_⟩
  unfold qOr at hd
  cases e : f ρ μ with
  | none => rw [e] at hd; cases hd
  | some x =>
    rw [e] at hd
    refine k1 σ W ρ μ F S x e _ fun v W1 G1 x1 r1 => ?_
    cases x with
    | bl c =>
      refine ⟨c, r1.1, ?_⟩
      cases c with
      | true =>
        rw [if_pos rfl]
        cases hd
        exact q _ W1 [] x1 ⟨rfl, rfl⟩
      | false =>
        rw [if_neg Bool.false_ne_true]
        exact k2 σ W1 ρ μ F (S.ext x1) d hd Q fun v W2 G x2 r2 => q v W2 G (x1.trans x2) r2
    | _ => cases hd
theorem pq_not (ha : PQ X a f) : PQ X (.UnaryOp .Not a pos) (qNot f) := by
  obtain ⟨t1, p1, k1⟩ := ha
  refine ⟨_, pe_not p1, fun σ W ρ μ F S d hd Q q => ?_⟩
  unfold qNot at hd
  cases e : f ρ μ with
  | none => rw [e] at hd; cases hd
  | some x =>
    rw [e] at hd
    refine k1 σ W ρ μ F S x e _ fun v W1 G1 x1 r1 => ?_
    cases x with
    | bl c =>
      cases hd
      exact ⟨c, r1.1, q _ W1 [] x1 ⟨rfl, rfl⟩⟩
    | _ => cases hd
def qIf (t : FB) (f g : FQ) : FQ := fun ρ μ => (t ρ μ).bind fun x => if x = true then f ρ μ else g ρ μ
theorem pq_if (hc : PB X c t) (ha : PQ X a f) (hb : PQ X b g) : PQ X (.IfExp c a b pos) (qIf t f g) := by
  obtain ⟨t0, p0, k0⟩ := hc
  obtain ⟨t1, p1, k1⟩ := ha
  obtain ⟨t2, p2, k2⟩ := hb
  refine ⟨_, pe_ifExp p0 p1 p2, fun σ W ρ μ F S d hd Q q => ?_⟩
  obtain ⟨x, e1, hd⟩ := bind_some hd
  refine k0 σ W ρ μ F S x e1 _ fun W1 x1 => ?_
  cases x with
  | true =>
    rw [if_pos rfl] at hd ⊢
    exact k1 σ W1 ρ μ F (S.ext x1) d hd Q fun v W2 G x2 r2 => q v W2 G (x1.trans x2) r2
  | false =>
    rw [if_neg Bool.false_ne_true] at hd ⊢
    exact k2 σ W1 ρ μ F (S.ext x1) d hd Q fun v W2 G x2 r2 => q v W2 G (x1.trans x2) r2
/-! ### arguments, tuples, lists -/
def aNil : FA := fun _ _ => some []
def aCons (f : FQ) (k : FA) : FA := fun ρ μ => (f ρ μ).bind fun d => (k ρ μ).map fun ds => d :: ds
theorem paq_nil : PAQ X [] aNil := ⟨_, pa_nil, fun σ W ρ μ F S ds hd Q q => by
  cases hd
  exact q [] W [] (Ext.refl S.ok) ⟨rfl, rfl⟩⟩
theorem paq_cons {k : FA} (ha : PQ X e f) (hr : PAQ X es k) (hs : starEach (e :: es) X.env = (false, eval e X.env) :: starEach es X.env := by rfl) : PAQ X (e :: es) (aCons f k) := by
  obtain ⟨t1, p1, k1⟩ := ha
  obtain ⟨t2, p2, k2⟩ := hr
  refine ⟨_, pa_cons p1 p2 hs, fun σ W ρ μ F S ds hd Q q => ?_⟩
  obtain ⟨d, e1, hd⟩ := bind_some hd
  cases e2 : k ρ μ with
  | none => rw [e2] at hd; cases hd
  | some dr =>
    rw [e2] at hd
    cases hd
    refine k1 σ W ρ μ F S d e1 _ fun v W1 G1 x1 r1 => ?_
    refine k2 σ W1 ρ μ F (S.ext x1) dr e2 _ fun vs W2 G2 x2 r2 => ?_
    exact q _ W2 _ (x1.trans x2) ⟨v, vs, G1, G2, rfl, R_ext x2 d r1, r2, rfl⟩
/-- the lengths that are let by -/
def LIM : Nat := 1000000
theorem lim_ok {n : Nat} (h : n ≤ LIM) : n ≤ sizeLine := Nat.le_trans h (by decide)
theorem lim_lt {n : Nat} (h : n ≤ LIM) : n < sizeLine := Nat.lt_of_le_of_lt h (by decide)
def qTup (k : FA) : FQ := fun ρ μ => (k ρ μ).bind fun ds => if ds.length ≤ 100 then some (.tup ds) else none
theorem pq_tup {k : FA} {x1} (h : PAQ X es k) : PQ X (.Tuple es x1 pos) (qTup k) := by
  obtain ⟨t1, p1, k1⟩ := h
  refine ⟨_, pe_tup p1, fun σ W ρ μ F S d hd Q q => ?_⟩
  obtain ⟨ds, e1, hd⟩ := bind_some hd
  by_cases hl : ds.length ≤ 100
  · rw [if_pos hl] at hd
    cases hd
    refine k1 σ W ρ μ F S ds e1 _ fun vs W1 G1 x1 r1 => ⟨by rw [RL_len r1]; exact lim_ok (Nat.le_trans hl (by decide)), fun p hp => ?_⟩
    exact q _ (W1.put p (.tup vs)) G1 (x1.trans (Ext.put x1.ok hp)) (R_newT x1.ok hp r1)
  · rw [if_neg hl] at hd
    cases hd
/-- all of them data -/
def aData (k : FA) : FA := fun ρ μ => (k ρ μ).bind fun ds => if dataL ds = true ∧ ds.length ≤ 100 then some ds else none
theorem pn_lst {k : FA} (h : PAQ X es k) : PN X (.List es pos) (aData k) := by
  obtain ⟨t1, p1, k1⟩ := h
  refine ⟨_, pe_lst p1, fun σ W ρ μ F S d hd Q q => ?_⟩
  obtain ⟨ds, e1, hd⟩ := bind_some hd
  by_cases hl : dataL ds = true ∧ ds.length ≤ 100
  · rw [if_pos hl] at hd
    cases hd
    refine k1 σ W ρ μ F S d e1 _ fun vs W1 G1 x1 r1 => ⟨by rw [RL_len r1]; exact lim_ok (Nat.le_trans hl.2 (by decide)), fun p hp => ?_⟩
    have z := RL_data d hl.1 r1
    subst z
    exact q p (W1.put p (.lst vs)) ⟨x1.trans (Ext.put x1.ok hp), Evl.fresh_back x1.ex hp, fun z => x1.ok p z hp, vs, upd_same, RL_ext (Ext.put x1.ok hp) d r1⟩
  · rw [if_neg hl] at hd
    cases hd
/-- a new list as a value -/
def qN (k : FA) : FQ := fun ρ μ => (k ρ μ).map D.lst
theorem NewL.frz {K : PySem.W.Frag} {W W' : Wd} {ds : List D} {p : Addr} (h : NewL K W W' ds p) : Ext W ⟨W'.H, fun a => W'.Fr a ∨ a = p, W'.m⟩ ∧ R K ⟨W'.H, fun a => W'.Fr a ∨ a = p, W'.m⟩ (.lst ds) (.ref p) [] := by
  obtain ⟨x, new, nofr, vs, h1, h2⟩ := h
  refine ⟨⟨x.ex, fun a q => .inl (x.fr a q), fun a q => ?_, x.m, fun a q => ?_⟩, ?_⟩
  · rcases q with q | q
    · exact x.nf a q
    · exact .inr (by rw [q]; exact new)
  · rcases q with q | q
    · exact x.ok a q
    · show W'.H a ≠ none
      rw [q, h1]
      exact fun z => nomatch z
  · have lt : Lt W' ⟨W'.H, fun a => W'.Fr a ∨ a = p, W'.m⟩ := ⟨fun _ _ z => z, fun _ _ z => ⟨z.1, Or.inl z.2⟩, fun _ _ _ _ z z' => ⟨z, Or.inl z'⟩, fun _ _ z => z⟩
    exact ⟨p, vs, rfl, Or.inl ⟨Or.inl h1, Or.inr rfl⟩, RL_lt lt ds h2, rfl⟩
theorem PN.pq {k : FA} (h : PN X e k) : PQ X e (qN k) := by
  obtain ⟨t1, p1, k1⟩ := h
  refine ⟨_, p1, fun σ W ρ μ F S d hd Q q => ?_⟩
  unfold qN at hd
  cases e1 : k ρ μ with
  | none => rw [e1] at hd; cases hd
  | some ds =>
    rw [e1] at hd
    cases hd
    refine k1 σ W ρ μ F S ds e1 _ fun p W1 n => ?_
    obtain ⟨x, r⟩ := n.frz
    exact q _ ⟨W1.H, fun a => W1.Fr a ∨ a = p, W1.m⟩ [] x r
/-! ### items, slices -/
def IxD (X : Cx) (o : D → D → Option D) : Prop := ∃ r : R2, IxR X r ∧ ∀ (W : Wd) (x y : D) (u v : V) (G1 G2 : List Addr), WOk W → R X.K W x u G1 → R X.K W y v G2 → ∀ d, o x y = some d →
  ∀ Q : VK, (∀ v W' G, Ext W W' → R X.K W' d v G → Q v W'.H) → r u v W.H Q
theorem pq_ixr {o : D → D → Option D} (h : IxD X o) (ha : PQ X a f) (hb : PQ X b g) (hs : PlainIx b) : PQ X (.Subscript a b pos) (q2 o f g) := by
  obtain ⟨r, hr, h3⟩ := h
  obtain ⟨ta, pa, h1⟩ := ha
  obtain ⟨tb, pb, h2⟩ := hb
  exact ⟨_, pe_ix hr pa pb hs, run2 h1 h2 h3⟩
def ixAt {α : Type} (xs : List α) (i : Int) : Option α := if 0 ≤ i then xs[i.toNat]? else if -(xs.length : Int) ≤ i then xs[(i + xs.length).toNat]? else none
theorem ixAt_ok {α : Type} {xs : List α} {i : Int} {x : α} (h : ixAt xs i = some x) : atI xs i = some x := by
  unfold ixAt at h
  unfold atI ixN
  by_cases h0 : 0 ≤ i
  · rw [if_pos h0] at h ⊢
    have hl := (List.getElem?_eq_some_iff.mp h).1
    rw [if_pos (by omega)]
    exact h
  · rw [if_neg h0] at h ⊢
    by_cases h1 : -(xs.length : Int) ≤ i
    · rw [if_pos h1] at h ⊢
      exact h
    · rw [if_neg h1] at h
      cases h
theorem ixAt_map {α β : Type} (f : α → β) (xs : List α) (i : Int) : ixAt (xs.map f) i = (ixAt xs i).map f := by
  unfold ixAt
  rw [List.length_map]
  split
  · rw [List.getElem?_map]
  · split
    · rw [List.getElem?_map]
    · rfl
def dIx : D → D → Option D
  | .tup ds, .int i => ixAt ds i
  | .lst ds, .int i => ixAt ds i
  | .ml ds, .int i => ixAt ds i
  | .str s, .int i => if s.length ≤ LIM then (ixAt s i).map fun c => .str [c] else none
  | _, _ => none
theorem RL_ixAt {K : PySem.W.Frag} {W : Wd} {ds : List D} {vs : List V} {F : List Addr} {i : Int} {d : D} (h : RL K W ds vs F) (e : ixAt ds i = some d) : ∃ v G, atI vs i = some v ∧ R K W d v G := by
  have hl := RL_len h
  unfold ixAt at e
  have key : ∀ j : Nat, ds[j]? = some d → ∃ v G, vs[j]? = some v ∧ R K W d v G := fun j q => by
    obtain ⟨v, G, h1, h2, _⟩ := RL_get h q
    exact ⟨v, G, h1, h2⟩
  split at e
  · obtain ⟨v, G, h1, h2⟩ := key _ e
    refine ⟨v, G, ixAt_ok ?_, h2⟩
    unfold ixAt
    rw [if_pos (by assumption)]
    exact h1
  · split at e
    · obtain ⟨v, G, h1, h2⟩ := key _ e
      refine ⟨v, G, ixAt_ok ?_, h2⟩
      unfold ixAt
      rw [if_neg (by assumption), hl, if_pos (by assumption)]
      exact h1
    · cases e
theorem ixd_all : IxD X dIx := by
  refine ⟨_, ix_seq, fun W x y u v G1 G2 ok r1 r2 d hd Q q => ?_⟩
  cases y with
  | int i =>
    obtain ⟨rfl, _⟩ := r2
    cases x with
    | tup ds =>
      obtain ⟨a, vs, rfl, h2, h3⟩ := r1
      obtain ⟨w, G, e1, e2⟩ := RL_ixAt h3 hd
      exact .inr (.inl ⟨a, vs, i, w, rfl, rfl, h2, e1, q w W G (Ext.refl ok) e2⟩)
    | lst ds =>
      obtain ⟨a, vs, rfl, h2, h3, _⟩ := r1
      obtain ⟨w, G, e1, e2⟩ := RL_ixAt h3 hd
      exact .inl ⟨a, vs, i, w, rfl, rfl, h2.sq, e1, q w W G (Ext.refl ok) e2⟩
    | ml ds =>
      obtain ⟨a, vs, F', rfl, h2, h3, _⟩ := r1
      obtain ⟨w, G, e1, e2⟩ := RL_ixAt h3 hd
      exact .inl ⟨a, vs, i, w, rfl, rfl, Evl.sq_of h2, e1, q w W G (Ext.refl ok) e2⟩
    | str s =>
      obtain ⟨rfl, _⟩ := r1
      have hd2 : (if s.length ≤ LIM then (ixAt s i).map (fun c => D.str [c]) else none) = some d := hd
      by_cases hl : s.length ≤ LIM
      · rw [if_pos hl] at hd2
        cases e : ixAt s i with
        | none => rw [e] at hd2; cases hd2
        | some c =>
          rw [e] at hd2
          cases hd2
          exact .inr (.inr ⟨tr s, i, c, rfl, rfl, (by show s.toArray.size ≤ _; rw [List.size_toArray]; exact lim_ok hl), (by show atI s.toArray.toList i = some c; exact ixAt_ok e), q _ W [] (Ext.refl ok) ⟨rfl, rfl⟩⟩)
      · rw [if_neg hl] at hd2
        cases hd2
    | _ => cases hd
  | _ => cases x <;> cases hd
theorem pq_ix (ha : PQ X a f) (hb : PQ X b g) (hs : PlainIx b := by exact fun _ _ => rfl) : PQ X (.Subscript a b pos) (q2 dIx f g) := pq_ixr ixd_all ha hb hs
end
end Fw
/-! # operators on trees -/
namespace Fw
open PySem PySem.Spec PyProof.Rows L2
open Evl (Ex)
section
variable {X : Cx} {K : PySem.W.Frag}
/-! ### lists and their addresses -/
def asL : D → Option (List D)
  | .lst ds => some ds
  | .ml ds => if dataL ds = true then some ds else none
  | _ => none
theorem R_asL {W : Wd} {d : D} {ds : List D} {v : V} {G : List Addr} (h : asL d = some ds) (r : R K W d v G) : ∃ a vs, v = .ref a ∧ SqL K W.H a vs ∧ RL K W ds vs [] := by
  cases d with
  | lst es =>
    cases h
    obtain ⟨a, vs, h1, h2, h3, _⟩ := r
    exact ⟨a, vs, h1, h2.sq, h3⟩
  | ml es =>
    have h2 : (if dataL es = true then some es else none) = some ds := h
    by_cases hl : dataL es = true
    · rw [if_pos hl] at h2
      cases h2
      obtain ⟨a, vs, F', h1, h2, h3, _⟩ := r
      have z := RL_data ds hl h3
      subst z
      exact ⟨a, vs, h1, Evl.sq_of h2, h3⟩
    · rw [if_neg hl] at h2
      cases h2
  | _ => cases h
/-- list + list, each of them as it can be read -/
def rCatR (K : PySem.W.Frag) : R2 := fun x y H Q => ∃ l b xs zs, x = .ref l ∧ y = .ref b ∧ SqL K H l xs ∧ SqL K H b zs ∧ xs.length + zs.length ≤ sizeLine ∧ ∀ p, H p = none → Q (.ref p) (upd H p (.lst (xs ++ zs)))
theorem op_catR : OpR X (binaryOp .Add) (rCatR X.K) := by
  intro pins s σ H x y v u Q I rx ry h
  obtain ⟨l, b, xs, zs, rfl, rfl, hH, hB, hz, q⟩ := h
  cases rx
  cases ry
  obtain ⟨its, r, ⟨⟨c1, d1, t1, s1⟩, n, e, hc, hd, ht⟩, z⟩ := I.list hH
  obtain ⟨its2, r2, ⟨⟨c2, d2, t2, s2⟩, n2, e2, hc2, hd2, ht2⟩, z2⟩ := I.list hB
  simp only at hc hd ht hc2 hd2 ht2
  subst hc hd ht hc2 hd2 ht2
  have l1 := r.length
  have l2 := r2.length
  have ea : its.toArray ++ its2.toArray = (its ++ its2).toArray := by simp
  refine concat_meets ⟨_, e, rfl⟩ ⟨_, e2, rfl⟩ noFill_list_add seq_list_add PySem.F.slot_list_add PySem.F.entry_list_add (PySem.F.args_list_add_2 _ _) (list_addW l b its.toArray its2.toArray n n2 none none s1 s2 (by rw [List.size_toArray, List.size_toArray]; omega)) ⟨e, e2, ?_⟩
  rw [ea]
  exact ⟨.ref _, _, I.lnew (t' := s.toks) (r.append r2) (by rw [List.length_append]; omega), rfl, q _ I.fresh⟩
/-! ### + -/
def dAdd : D → D → Option D
  | .int i, .int j => some (.int (i + j))
  | .str a, .str b => if a.length + b.length ≤ LIM then some (.str (a ++ b)) else none
  | .tup a, .tup b => if a.length + b.length ≤ LIM ∧ dataL a = true ∧ dataL b = true then some (.tup (a ++ b)) else none
  | x, y => (asL x).bind fun a => (asL y).bind fun b => if a.length + b.length ≤ LIM then some (.lst (a ++ b)) else none
theorem tr_append (a b : List Nat) : tr a ++ tr b = tr (a ++ b) := by
  show Str.append (tr a) (tr b) = tr (a ++ b)
  unfold Str.append
  simp
theorem tr_length (a : List Nat) : (tr a).length = a.length := by
  show a.toArray.size = _
  rw [List.size_toArray]
theorem tr_inj {a b : List Nat} (h : tr a = tr b) : a = b := by
  have z : a.toArray = b.toArray := congrArg Str.cps h
  simpa using z
theorem opd_add : OpD X (binaryOp .Add) dAdd := by
  refine ⟨_, (op_add.or (op_add_str.or (op_catA.or op_catR))), fun W x y u v G1 G2 ok r1 r2 d hd Q q => ?_⟩
  have lists : ∀ {a b : List D}, asL x = some a → asL y = some b → (if a.length + b.length ≤ LIM then some (D.lst (a ++ b)) else none) = some d → rCatR X.K u v W.H Q := fun {a b} e1 e2 hd => by
    obtain ⟨p, vs, rfl, h2, h3⟩ := R_asL e1 r1
    obtain ⟨p', vs', rfl, h2', h3'⟩ := R_asL e2 r2
    by_cases hl : a.length + b.length ≤ LIM
    · rw [if_pos hl] at hd
      cases hd
      refine ⟨p, p', vs, vs', rfl, rfl, h2, h2', by rw [RL_len h3, RL_len h3']; exact lim_ok hl, fun z hz => ?_⟩
      exact q _ (W.frz z (vs ++ vs')) [] (Ext.frz ok hz) (R_newL ok hz (RL_app h3 h3'))
    · rw [if_neg hl] at hd
      cases hd
  have viaL : ((asL x).bind fun a => (asL y).bind fun b => if a.length + b.length ≤ LIM then some (D.lst (a ++ b)) else none) = some d → rCatR X.K u v W.H Q := fun h => by
    obtain ⟨a, e1, h⟩ := bind_some h
    obtain ⟨b, e2, h⟩ := bind_some h
    exact lists e1 e2 h
  cases x with
  | int i =>
    cases y with
    | int j =>
      cases hd
      obtain ⟨rfl, _⟩ := r1
      obtain ⟨rfl, _⟩ := r2
      exact .inl ⟨i, j, rfl, rfl, q _ W [] (Ext.refl ok) ⟨rfl, rfl⟩⟩
    | _ => cases hd
  | str a =>
    cases y with
    | str b =>
      obtain ⟨rfl, _⟩ := r1
      obtain ⟨rfl, _⟩ := r2
      have hd2 : (if a.length + b.length ≤ LIM then some (D.str (a ++ b)) else none) = some d := hd
      by_cases hl : a.length + b.length ≤ LIM
      · rw [if_pos hl] at hd2
        cases hd2
        exact .inr (.inl ⟨tr a, tr b, rfl, rfl, by rw [tr_length, tr_length]; exact lim_ok hl, q _ W [] (Ext.refl ok) ⟨by rw [tr_append], rfl⟩⟩)
      · rw [if_neg hl] at hd2
        cases hd2
    | _ => cases hd
  | tup a =>
    cases y with
    | tup b =>
      have hd2 : (if a.length + b.length ≤ LIM ∧ dataL a = true ∧ dataL b = true then some (D.tup (a ++ b)) else none) = some d := hd
      by_cases hl : a.length + b.length ≤ LIM ∧ dataL a = true ∧ dataL b = true
      · rw [if_pos hl] at hd2
        cases hd2
        obtain ⟨p, vs, rfl, h2, h3⟩ := r1
        obtain ⟨p', vs', rfl, h2', h3'⟩ := r2
        have z1 := RL_data a hl.2.1 h3
        have z2 := RL_data b hl.2.2 h3'
        subst z1
        subst z2
        have ln := RL_len h3
        have ln' := RL_len h3'
        refine .inr (.inr (.inl ⟨p, p', vs, vs', rfl, rfl, h2, h2', by rw [ln, ln']; exact lim_ok hl.1, fun e => ?_, fun e1 e2 => ?_, fun e1 e2 z hz => ?_⟩))
        · have ea : a = [] := by
            rw [e] at ln
            exact List.length_eq_zero_iff.mp ln.symm
          subst ea
          exact q _ W [] (Ext.refl ok) ⟨p', vs', rfl, h2', h3'⟩
        · have eb : b = [] := by
            rw [e2] at ln'
            exact List.length_eq_zero_iff.mp ln'.symm
          subst eb
          rw [List.append_nil] at q
          exact q _ W [] (Ext.refl ok) ⟨p, vs, rfl, h2, h3⟩
        · exact q _ (W.put z (.tup (vs ++ vs'))) [] (Ext.put ok hz) (R_newT ok hz (RL_app h3 h3'))
      · rw [if_neg hl] at hd2
        cases hd2
    | _ => cases hd
  | lst a =>
    have hd2 : ((asL (.lst a)).bind fun a => (asL y).bind fun b => if a.length + b.length ≤ LIM then some (D.lst (a ++ b)) else none) = some d := by cases y <;> exact hd
    exact .inr (.inr (.inr (viaL hd2)))
  | ml a =>
    have hd2 : ((asL (.ml a)).bind fun a => (asL y).bind fun b => if a.length + b.length ≤ LIM then some (D.lst (a ++ b)) else none) = some d := by cases y <;> exact hd
    exact .inr (.inr (.inr (viaL hd2)))
  | _ => cases y <;> cases hd
/-! ### ints -/
def dInt (C : Int → Int → Bool) (g : Int → Int → D) : D → D → Option D
  | .int i, .int j => if C i j = true then some (g i j) else none
  | _, _ => none
theorem opd_int {op : Value → Value → Sem Value} {P : Int → Int → Prop} {f : Int → Int → V} {C : Int → Int → Bool} {g : Int → Int → D} (h : OpR X op (rI P f)) (hc : ∀ i j, C i j = true → P i j) (hg : ∀ (W : Wd) i j, R X.K W (g i j) (f i j) []) : OpD X op (dInt C g) := by
  refine ⟨_, h, fun W x y u v G1 G2 ok r1 r2 d hd Q q => ?_⟩
  cases x with
  | int i =>
    cases y with
    | int j =>
      obtain ⟨rfl, _⟩ := r1
      obtain ⟨rfl, _⟩ := r2
      have hd2 : (if C i j = true then some (g i j) else none) = some d := hd
      by_cases hl : C i j = true
      · rw [if_pos hl] at hd2
        cases hd2
        exact ⟨i, j, rfl, rfl, hc i j hl, q _ W [] (Ext.refl ok) (hg W i j)⟩
      · rw [if_neg hl] at hd2
        cases hd2
    | _ => cases hd
  | _ => cases y <;> cases hd
theorem opd_int0 {op : Value → Value → Sem Value} {f : Int → Int → V} {g : Int → Int → D} (h : OpR X op (rI0 f)) (hg : ∀ (W : Wd) i j, R X.K W (g i j) (f i j) []) : OpD X op (dInt (fun _ _ => true) g) := by
  refine ⟨_, h, fun W x y u v G1 G2 ok r1 r2 d hd Q q => ?_⟩
  cases x with
  | int i =>
    cases y with
    | int j =>
      obtain ⟨rfl, _⟩ := r1
      obtain ⟨rfl, _⟩ := r2
      cases hd
      exact ⟨i, j, rfl, rfl, q _ W [] (Ext.refl ok) (hg W i j)⟩
    | _ => cases hd
  | _ => cases y <;> cases hd
abbrev dSub := dInt (fun _ _ => true) fun i j => .int (i - j)
def cMul (i j : Int) : Bool := decide ((-18446744073709551616 < i ∧ i < 18446744073709551616) ∨ (-18446744073709551616 < j ∧ j < 18446744073709551616))
abbrev dMul := dInt cMul fun i j => .int (i * j)
abbrev dMod := dInt (fun _ j => decide (0 < j)) fun i j => .int (i % j)
abbrev dFdiv := dInt (fun _ j => decide (0 < j ∧ j < 1073741824)) fun i j => .int (i / j)
theorem opd_sub : OpD X (binaryOp .Sub) dSub := opd_int0 op_sub fun _ _ _ => ⟨rfl, rfl⟩
theorem opd_mul : OpD X (binaryOp .Mult) dMul := opd_int op_mul (fun i j h => by
  have z : (-18446744073709551616 < i ∧ i < 18446744073709551616) ∨ (-18446744073709551616 < j ∧ j < 18446744073709551616) := of_decide_eq_true h
  unfold CMul
  omega) fun _ _ _ => ⟨rfl, rfl⟩
theorem opd_mod : OpD X (binaryOp .Mod) dMod := opd_int op_mod (fun i j h => of_decide_eq_true h) fun _ _ _ => ⟨rfl, rfl⟩
theorem opd_fdiv : OpD X (binaryOp .FloorDiv) dFdiv := opd_int op_fdiv (fun i j h => by
  have z : 0 < j ∧ j < 1073741824 := of_decide_eq_true h
  exact z) fun _ _ _ => ⟨rfl, rfl⟩
abbrev dPow := dInt (fun i j => decide (0 ≤ j ∧ j ≤ 1000 ∧ i.natAbs < 18446744073709551616)) fun i j => .int (i ^ j.toNat)
theorem opd_pow : OpD X (binaryOp .Pow) dPow := opd_int op_pow (fun i j h => by
  obtain ⟨h1, h2, h3⟩ := of_decide_eq_true h
  exact ⟨h1, by omega, h3⟩) fun _ _ _ => ⟨rfl, rfl⟩
/-! ### comparisons by order -/
theorem opd_or {op : Value → Value → Sem Value} {o o' : D → D → Option D} (h : OpD X op o) (h' : OpD X op o') : OpD X op (fun x y => match o x y with | some d => some d | none => o' x y) := by
  obtain ⟨r, hr, k⟩ := h
  obtain ⟨r', hr', k'⟩ := h'
  refine ⟨_, hr.or hr', fun W x y u v G1 G2 ok r1 r2 d hd Q q => ?_⟩
  dsimp only at hd
  cases e : o x y with
  | some d0 =>
    rw [e] at hd
    cases hd
    exact .inl (k W x y u v G1 G2 ok r1 r2 _ e Q q)
  | none =>
    rw [e] at hd
    exact .inr (k' W x y u v G1 G2 ok r1 r2 _ hd Q q)
theorem opd_is {op : Value → Value → Sem Value} {o o' : D → D → Option D} (h : OpD X op o) (e : ∀ x y d, o' x y = some d → o x y = some d) : OpD X op o' := by
  obtain ⟨r, hr, k⟩ := h
  exact ⟨r, hr, fun W x y u v G1 G2 ok r1 r2 d hd Q q => k W x y u v G1 G2 ok r1 r2 d (e x y d hd) Q q⟩
/-- both texts -/
def dStr2 (g : List Nat → List Nat → D) : D → D → Option D
  | .str a, .str b => some (g a b)
  | _, _ => none
theorem opd_str2 {op : Value → Value → Sem Value} {f : Str → Str → V} {g : List Nat → List Nat → D} (h : OpR X op (fun x y H Q => ∃ i j, x = .str i ∧ y = .str j ∧ Q (f i j) H)) (hg : ∀ (W : Wd) a b, R X.K W (g a b) (f (tr a) (tr b)) []) : OpD X op (dStr2 g) := by
  refine ⟨_, h, fun W x y u v G1 G2 ok r1 r2 d hd Q q => ?_⟩
  cases x with
  | str i =>
    cases y with
    | str j =>
      obtain ⟨rfl, _⟩ := r1
      obtain ⟨rfl, _⟩ := r2
      cases hd
      exact ⟨_, _, rfl, rfl, q _ W [] (Ext.refl ok) (hg W i j)⟩
    | _ => cases hd
  | _ => cases y <;> cases hd
def dLt : D → D → Option D
  | .int i, .int j => some (.bl (decide (i < j)))
  | .str a, .str b => some (.bl (decide (a < b)))
  | _, _ => none
def dLe : D → D → Option D
  | .int i, .int j => some (.bl (decide (i ≤ j)))
  | .str a, .str b => some (.bl (!decide (b < a)))
  | _, _ => none
def dGt : D → D → Option D
  | .int i, .int j => some (.bl (decide (j < i)))
  | .str a, .str b => some (.bl (decide (b < a)))
  | _, _ => none
def dGe : D → D → Option D
  | .int i, .int j => some (.bl (decide (j ≤ i)))
  | .str a, .str b => some (.bl (!decide (a < b)))
  | _, _ => none
theorem opd_lt : OpD X (compareOp .Lt) dLt := opd_is (opd_or (opd_int0 (g := fun i j => .bl (decide (i < j))) op_lt fun _ _ _ => ⟨rfl, rfl⟩) (opd_str2 (g := fun a b => .bl (decide (a < b))) op_lt_str fun _ _ _ => ⟨rfl, rfl⟩))
  fun x y d h => by cases x <;> cases y <;> first | exact h | cases h
theorem opd_le : OpD X (compareOp .LtE) dLe := opd_is (opd_or (opd_int0 (g := fun i j => .bl (decide (i ≤ j))) op_le fun _ _ _ => ⟨rfl, rfl⟩) (opd_str2 (g := fun a b => .bl (!decide (b < a))) op_le_str fun _ _ _ => ⟨rfl, rfl⟩))
  fun x y d h => by cases x <;> cases y <;> first | exact h | cases h
theorem opd_gt : OpD X (compareOp .Gt) dGt := opd_is (opd_or (opd_int0 (g := fun i j => .bl (decide (j < i))) op_gt fun _ _ _ => ⟨rfl, rfl⟩) (opd_str2 (g := fun a b => .bl (decide (b < a))) op_gt_str fun _ _ _ => ⟨rfl, rfl⟩))
  fun x y d h => by cases x <;> cases y <;> first | exact h | cases h
theorem opd_ge : OpD X (compareOp .GtE) dGe := opd_is (opd_or (opd_int0 (g := fun i j => .bl (decide (j ≤ i))) op_ge fun _ _ _ => ⟨rfl, rfl⟩) (opd_str2 (g := fun a b => .bl (!decide (a < b))) op_ge_str fun _ _ _ => ⟨rfl, rfl⟩))
  fun x y d h => by cases x <;> cases y <;> first | exact h | cases h
/-! ### equality -/
def atom : D → Option V
  | .non => some .non
  | .bl b => some (.bl b)
  | .int i => some (.int i)
  | .str s => some (.str (tr s))
  | _ => none
theorem R_atom {W : Wd} {d : D} {u v : V} {G : List Addr} (h : atom d = some u) (r : R K W d v G) : v = u := by
  cases d <;> first
    | (cases h; exact r.1)
    | cases h
mutual
def toP : D → Option PyData
  | .non => some .none
  | .bl b => some (.bool b)
  | .int i => some (.int i)
  | .str s => some (.str (tr s))
  | .tup ds => (toPL ds).map .tuple
  | .lst ds => (toPL ds).map .list
  | .ml ds => (toPL ds).map .list
  | _ => none
def toPL : List D → Option (List PyData)
  | [] => some []
  | d :: ds => (toP d).bind fun p => (toPL ds).map fun ps => p :: ps
end
theorem map_some {α β : Type} {o : Option α} {k : α → β} {z : β} (h : o.map k = some z) : ∃ x, o = some x ∧ k x = z := by
  cases o with
  | none => cases h
  | some x => exact ⟨x, rfl, Option.some.inj h⟩
mutual
theorem R_dp {W : Wd} : ∀ (d : D) {p : PyData} {v : V} {G : List Addr}, toP d = some p → R K W d v G → Dp K W.H v p
  | .non, _, _, _, h, r => by cases h; rw [r.1]; exact .non
  | .bl b, _, _, _, h, r => by cases h; rw [r.1]; exact .bl b
  | .int i, _, _, _, h, r => by cases h; rw [r.1]; exact .int i
  | .str s, _, _, _, h, r => by cases h; rw [r.1]; exact .str _
  | .tup ds, _, _, _, h, r => by
    obtain ⟨ps, e, z⟩ := map_some h
    obtain ⟨a, vs, h1, h2, h3⟩ := r
    rw [← z, h1]
    exact .tup h2 (RL_dp ds e h3)
  | .lst ds, _, _, _, h, r => by
    obtain ⟨ps, e, z⟩ := map_some h
    obtain ⟨a, vs, h1, h2, h3, _⟩ := r
    rw [← z, h1]
    exact .lst h2.sq (RL_dp ds e h3)
  | .ml ds, _, _, _, h, r => by
    obtain ⟨ps, e, z⟩ := map_some h
    obtain ⟨a, vs, F', h1, h2, h3, _⟩ := r
    rw [← z, h1]
    exact .lst (Evl.sq_of h2) (RL_dp ds e h3)
  | .obj _ _ _, _, _, _, h, _ => by cases h
  | .ref _, _, _, _, h, _ => by cases h
  | .un, _, _, _, h, _ => by cases h
theorem RL_dp {W : Wd} : ∀ (ds : List D) {ps : List PyData} {vs : List V} {G : List Addr}, toPL ds = some ps → RL K W ds vs G → DpAll K W.H vs ps
  | [], _, _, _, h, r => by
    cases h
    rw [r.1]
    exact .nil
  | d :: ds, _, _, _, h, r => by
    obtain ⟨p, e1, h⟩ := bind_some h
    obtain ⟨ps, e2, z⟩ := map_some h
    obtain ⟨v, vs', F1, F2, h1, h2, h3, _⟩ := r
    rw [← z, h1]
    exact .cons (R_dp d e1 h2) (RL_dp ds e2 h3)
end
def eqDB (x y : D) : Option Bool := match atom x, atom y with
  | some u, some v => if scal u v = true then some (decide (u = v)) else none
  | _, _ => (toP x).bind fun p => (toP y).bind fun q => if SeqAt.shaped p = true ∧ SeqAt.shaped q = true then some (PyData.eqv p q) else none
def dEq (x y : D) : Option D := (eqDB x y).map D.bl
def dNe (x y : D) : Option D := (eqDB x y).map fun b => D.bl (!b)
theorem opd_eq {k : Nat} (hr : Room k X.A) : OpD X (compareOp .Eq) dEq := by
  refine ⟨_, op_eq.or (op_eqD hr.units), fun W x y u v G1 G2 ok r1 r2 d hd Q q => ?_⟩
  obtain ⟨b, hb, z⟩ := map_some hd
  subst z
  have alt : ((toP x).bind fun p => (toP y).bind fun q => if SeqAt.shaped p = true ∧ SeqAt.shaped q = true then some (PyData.eqv p q) else none) = some b → rEqD X.K u v W.H Q := fun h => by
    obtain ⟨p, e1, h⟩ := bind_some h
    obtain ⟨p', e2, h⟩ := bind_some h
    by_cases hs : SeqAt.shaped p = true ∧ SeqAt.shaped p' = true
    · rw [if_pos hs] at h
      cases h
      exact ⟨p, p', R_dp x e1 r1, R_dp y e2 r2, hs.1, hs.2, q _ W [] (Ext.refl ok) ⟨rfl, rfl⟩⟩
    · rw [if_neg hs] at h
      cases h
  unfold eqDB at hb
  cases ea : atom x with
  | none => rw [ea] at hb; exact .inr (alt hb)
  | some a =>
    cases ec : atom y with
    | none => rw [ea, ec] at hb; exact .inr (alt hb)
    | some c =>
      rw [ea, ec] at hb
      have hb2 : (if scal a c = true then some (decide (a = c)) else none) = some b := hb
      by_cases hs : scal a c = true
      · rw [if_pos hs] at hb2
        cases hb2
        rw [R_atom ea r1, R_atom ec r2]
        exact .inl ⟨hs, q _ W [] (Ext.refl ok) ⟨rfl, rfl⟩⟩
      · rw [if_neg hs] at hb2
        cases hb2
theorem opd_ne {k : Nat} (hr : Room k X.A) : OpD X (compareOp .NotEq) dNe := by
  refine ⟨_, op_ne.or (op_neD hr.units), fun W x y u v G1 G2 ok r1 r2 d hd Q q => ?_⟩
  obtain ⟨b, hb, z⟩ := map_some hd
  subst z
  have alt : ((toP x).bind fun p => (toP y).bind fun q => if SeqAt.shaped p = true ∧ SeqAt.shaped q = true then some (PyData.eqv p q) else none) = some b → rNeD X.K u v W.H Q := fun h => by
    obtain ⟨p, e1, h⟩ := bind_some h
    obtain ⟨p', e2, h⟩ := bind_some h
    by_cases hs : SeqAt.shaped p = true ∧ SeqAt.shaped p' = true
    · rw [if_pos hs] at h
      cases h
      exact ⟨p, p', R_dp x e1 r1, R_dp y e2 r2, hs.1, hs.2, q _ W [] (Ext.refl ok) ⟨rfl, rfl⟩⟩
    · rw [if_neg hs] at h
      cases h
  unfold eqDB at hb
  cases ea : atom x with
  | none => rw [ea] at hb; exact .inr (alt hb)
  | some a =>
    cases ec : atom y with
    | none => rw [ea, ec] at hb; exact .inr (alt hb)
    | some c =>
      rw [ea, ec] at hb
      have hb2 : (if scal a c = true then some (decide (a = c)) else none) = some b := hb
      by_cases hs : scal a c = true
      · rw [if_pos hs] at hb2
        cases hb2
        rw [R_atom ea r1, R_atom ec r2]
        exact .inl ⟨hs, q _ W [] (Ext.refl ok) ⟨rfl, rfl⟩⟩
      · rw [if_neg hs] at hb2
        cases hb2
/-! ### is None, is a truth -/
def isNonD : D → Bool
  | .non => true
  | _ => false
theorem R_isNon {W : Wd} {d : D} {v : V} {G : List Addr} (r : R K W d v G) : decide (v = .non) = isNonD d := by
  cases d with
  | non => rw [r.1]; exact decide_eq_true rfl
  | bl _ => rw [r.1]; exact decide_eq_false fun z => nomatch z
  | int _ => rw [r.1]; exact decide_eq_false fun z => nomatch z
  | str _ => rw [r.1]; exact decide_eq_false fun z => nomatch z
  | tup _ => obtain ⟨a, vs, rfl, _⟩ := r; exact decide_eq_false fun z => nomatch z
  | lst _ => obtain ⟨a, vs, rfl, _⟩ := r; exact decide_eq_false fun z => nomatch z
  | ml _ => obtain ⟨a, vs, F', rfl, _⟩ := r; exact decide_eq_false fun z => nomatch z
  | obj _ _ _ => obtain ⟨a, dx, vs, F', rfl, _⟩ := r; exact decide_eq_false fun z => nomatch z
  | fo _ _ _ => obtain ⟨a, dx, vs, rfl, _⟩ := r; exact decide_eq_false fun z => nomatch z
  | ref _ => obtain ⟨a, rfl, _⟩ := r; exact decide_eq_false fun z => nomatch z
  | un => exact r.elim
def isDB : D → D → Option Bool
  | x, .non => some (isNonD x)
  | .bl a, .bl b => some (decide (a = b))
  | _, _ => none
def dIs (x y : D) : Option D := (isDB x y).map D.bl
def dIsNot (x y : D) : Option D := (isDB x y).map fun b => D.bl (!b)
end
end Fw
/-! # is, in, slices, built-ins, methods of texts -/
namespace Fw
open PySem PySem.Spec PyProof.Rows L2
open Evl (Ex)
section
variable {X : Cx} {K : PySem.W.Frag}
theorem opd_is_ : OpD X (compareOp .Is) dIs := by
  refine ⟨_, (op_isN (X := X)).or op_isBl, fun W x y u v G1 G2 ok r1 r2 d hd Q q => ?_⟩
  obtain ⟨b, hb, z⟩ := map_some hd
  subst z
  cases y with
  | non =>
    have hb2 : some (isNonD x) = some b := by cases x <;> exact hb
    cases hb2
    refine .inl ⟨r2.1, q _ W [] (Ext.refl ok) ⟨by rw [R_isNon r1], rfl⟩⟩
  | bl c =>
    cases x with
    | bl a =>
      cases hb
      exact .inr ⟨a, c, r1.1, r2.1, q _ W [] (Ext.refl ok) ⟨rfl, rfl⟩⟩
    | _ => cases hb
  | _ => cases x <;> cases hb
theorem opd_isnot : OpD X (compareOp .IsNot) dIsNot := by
  refine ⟨_, (op_notN (X := X)).or op_notBl, fun W x y u v G1 G2 ok r1 r2 d hd Q q => ?_⟩
  obtain ⟨b, hb, z⟩ := map_some hd
  subst z
  cases y with
  | non =>
    have hb2 : some (isNonD x) = some b := by cases x <;> exact hb
    cases hb2
    refine .inl ⟨r2.1, q _ W [] (Ext.refl ok) ⟨by rw [R_isNon r1], rfl⟩⟩
  | bl c =>
    cases x with
    | bl a =>
      cases hb
      exact .inr ⟨a, c, r1.1, r2.1, q _ W [] (Ext.refl ok) ⟨rfl, rfl⟩⟩
    | _ => cases hb
  | _ => cases x <;> cases hb
/-! ### in -/
def atoms : List D → Option (List V)
  | [] => some []
  | d :: ds => (atom d).bind fun u => (atoms ds).map fun us => u :: us
theorem R_atoms {W : Wd} : ∀ {ds : List D} {us vs : List V} {G : List Addr}, atoms ds = some us → RL K W ds vs G → vs = us
  | [], _, _, _, h, r => by
    cases h
    exact r.1
  | d :: ds, _, _, _, h, r => by
    obtain ⟨u, e1, h⟩ := bind_some h
    obtain ⟨us, e2, z⟩ := map_some h
    obtain ⟨v, vs', F1, F2, h1, h2, h3, _⟩ := r
    rw [← z, h1, R_atom e1 h2, R_atoms e2 h3]
theorem flat_atom {d : D} {u : V} (h : atom d = some u) : flatV u = true := by
  cases d <;> first
    | (cases h; rfl)
    | cases h
theorem flat_atoms : ∀ {ds : List D} {us : List V}, atoms ds = some us → us.all flatV = true
  | [], _, h => by
    cases h
    rfl
  | d :: ds, _, h => by
    obtain ⟨u, e1, h⟩ := bind_some h
    obtain ⟨us, e2, z⟩ := map_some h
    rw [← z, List.all_cons, flat_atom e1, flat_atoms e2]
    rfl
/-- the items of a list or a tuple -/
def seqD : D → Option (List D)
  | .lst ds => some ds
  | .ml ds => some ds
  | .tup ds => some ds
  | _ => none
theorem R_seq {W : Wd} {d : D} {ds : List D} {v : V} {G : List Addr} (h : seqD d = some ds) (r : R K W d v G) : ∃ a vs G', v = .ref a ∧ (SqL K W.H a vs ∨ SqT K W.H a vs) ∧ RL K W ds vs G' := by
  cases d with
  | lst es =>
    cases h
    obtain ⟨a, vs, h1, h2, h3, _⟩ := r
    exact ⟨a, vs, _, h1, .inl h2.sq, h3⟩
  | ml es =>
    cases h
    obtain ⟨a, vs, F', h1, h2, h3, _⟩ := r
    exact ⟨a, vs, _, h1, .inl (Evl.sq_of h2), h3⟩
  | tup es =>
    cases h
    obtain ⟨a, vs, h1, h2, h3⟩ := r
    exact ⟨a, vs, _, h1, .inr h2, h3⟩
  | _ => cases h
def inSeq (x y : D) : Option Bool := (seqD y).bind fun ds => (atom x).bind fun u => (atoms ds).map fun us => inV u us
def inDB (x y : D) : Option Bool := match x, y with
  | .str [c], .str z => some (decide (c ∈ z))
  | _, _ => inSeq x y
def dIn (x y : D) : Option D := (inDB x y).map D.bl
def dNotIn (x y : D) : Option D := (inDB x y).map fun b => D.bl (!b)
theorem inSeq_ok {W : Wd} {x y : D} {u v : V} {G1 G2 : List Addr} {b : Bool} (h : inSeq x y = some b) (r1 : R K W x u G1) (r2 : R K W y v G2) :
    ∃ p xs, v = .ref p ∧ (SqL K W.H p xs ∨ SqT K W.H p xs) ∧ flatV u = true ∧ xs.all flatV = true ∧ inV u xs = b := by
  obtain ⟨ds, e1, h⟩ := bind_some h
  obtain ⟨a, e2, h⟩ := bind_some h
  obtain ⟨us, e3, z⟩ := map_some h
  obtain ⟨p, vs, G', h1, h2, h3⟩ := R_seq e1 r2
  have ev := R_atoms e3 h3
  have eu := R_atom e2 r1
  subst ev
  subst eu
  exact ⟨p, vs, h1, h2, flat_atom e2, flat_atoms e3, z⟩
theorem inDB_cases {x y : D} {b : Bool} (h : inDB x y = some b) : (∃ c z, x = .str [c] ∧ y = .str z ∧ decide (c ∈ z) = b) ∨ inSeq x y = some b := by
  unfold inDB at h
  split at h
  · exact .inl ⟨_, _, rfl, rfl, Option.some.inj h⟩
  · exact .inr h
theorem opd_in : OpD X (compareOp .In) dIn := by
  refine ⟨_, (op_in_sign (X := X)).or op_in_seq, fun W x y u v G1 G2 ok r1 r2 d hd Q q => ?_⟩
  obtain ⟨b, hb, z⟩ := map_some hd
  subst z
  rcases inDB_cases hb with ⟨c, z, rfl, rfl, e⟩ | h
  · exact .inl ⟨c, tr z, r1.1, r2.1, q _ W [] (Ext.refl ok) ⟨by rw [← e] <;> rfl, rfl⟩⟩
  · obtain ⟨p, xs, h1, h2, h3, h4, h5⟩ := inSeq_ok h r1 r2
    exact .inr ⟨p, xs, h1, h2, h3, h4, q _ W [] (Ext.refl ok) ⟨by rw [← h5] <;> rfl, rfl⟩⟩
theorem opd_notin : OpD X (compareOp .NotIn) dNotIn := by
  refine ⟨_, (op_notIn_sign (X := X)).or op_notIn_seq, fun W x y u v G1 G2 ok r1 r2 d hd Q q => ?_⟩
  obtain ⟨b, hb, z⟩ := map_some hd
  subst z
  rcases inDB_cases hb with ⟨c, z, rfl, rfl, e⟩ | h
  · exact .inl ⟨c, tr z, r1.1, r2.1, q _ W [] (Ext.refl ok) ⟨by rw [← e] <;> rfl, rfl⟩⟩
  · obtain ⟨p, xs, h1, h2, h3, h4, h5⟩ := inSeq_ok h r1 r2
    exact .inr ⟨p, xs, h1, h2, h3, h4, q _ W [] (Ext.refl ok) ⟨by rw [← h5] <;> rfl, rfl⟩⟩
/-! ### slices -/
abbrev FO := List D → List D → Option (Option Int)
def POQ (X : Cx) (e : Option Expr) (f : FO) : Prop := ∃ to : TO, PO X e to ∧ ∀ (σ : L2.St) (W : Wd) (ρ μ : List D) (F : List Addr), Sta X.K W σ ρ μ F → ∀ o, f ρ μ = some o →
  ∀ Q : Option Int → Hp → Prop, (∀ W', Ext W W' → Q o W'.H) → to σ W.H Q
def oNone : FO := fun _ _ => some none
def oSome (f : FQ) : FO := fun ρ μ => match f ρ μ with
  | some (.int i) => some (some i)
  | _ => none
theorem poq_none : POQ X none oNone := ⟨_, po_none, fun σ W ρ μ F S o ho Q q => by
  cases ho
  exact q W (Ext.refl S.ok)⟩
theorem poq_some {e : Expr} {f : FQ} (h : PQ X e f) : POQ X (some e) (oSome f) := by
  obtain ⟨t1, p1, k1⟩ := h
  refine ⟨_, po_some p1, fun σ W ρ μ F S o ho Q q => ?_⟩
  unfold oSome at ho
  cases e1 : f ρ μ with
  | none => rw [e1] at ho; cases ho
  | some d =>
    rw [e1] at ho
    refine k1 σ W ρ μ F S d e1 _ fun v W1 G1 x1 r1 => ?_
    cases d with
    | int i =>
      cases ho
      exact ⟨i, r1.1, q W1 x1⟩
    | _ => cases ho
def cut {α : Type} (xs : List α) (lo hi : Option Int) : List α := (xs.drop (HT.sIx xs.length 0 lo)).take (HT.sIx xs.length xs.length hi - HT.sIx xs.length 0 lo)
def dSl (x : D) (lo hi : Option Int) : Option D := match x with
  | .str s => if s.length ≤ LIM then some (.str (cut s lo hi)) else none
  | .tup ds => if dataL ds = true then some (.tup (cut ds lo hi)) else none
  | x => (asL x).map fun ds => .lst (cut ds lo hi)
def qSl (f : FQ) (lo hi : FO) : FQ := fun ρ μ => (f ρ μ).bind fun x => (lo ρ μ).bind fun l => (hi ρ μ).bind fun h => dSl x l h
theorem RL_cut {W : Wd} {ds : List D} {vs : List V} {lo hi : Option Int} (h : RL K W ds vs []) : RL K W (cut ds lo hi) (cutV vs lo hi) [] := by
  have hl := RL_len h
  unfold cut cutV
  rw [hl]
  exact RL_take (RL_drop h)
theorem cut_all {α : Type} {xs : List α} {lo hi : Option Int} (h : HT.sIx xs.length 0 lo = 0 ∧ HT.sIx xs.length xs.length hi = xs.length) : cut xs lo hi = xs := by
  unfold cut
  rw [h.1, h.2, List.drop_zero, Nat.sub_zero, List.take_length]
theorem pq_sl {e : Expr} {lo hi : Option Expr} {f : FQ} {l h : FO} {pos p2 : Pos} (he : PQ X e f) (hl : POQ X lo l) (hh : POQ X hi h) : PQ X (.Subscript e (.Slice lo hi none p2) pos) (qSl f l h) := by
  obtain ⟨t1, p1, k1⟩ := he
  obtain ⟨t2, p2', k2⟩ := hl
  obtain ⟨t3, p3, k3⟩ := hh
  refine ⟨_, pe_slice (sl_list.or (sl_tupA.or sl_str)) p1 p2' p3, fun σ W ρ μ F S d hd Q q => ?_⟩
  obtain ⟨x, e1, hd⟩ := bind_some hd
  obtain ⟨li, e2, hd⟩ := bind_some hd
  obtain ⟨hi', e3, hd⟩ := bind_some hd
  refine k1 σ W ρ μ F S x e1 _ fun v W1 G1 x1 r1 => ?_
  refine k2 σ W1 ρ μ F (S.ext x1) li e2 _ fun W2 x2 => ?_
  refine k3 σ W2 ρ μ F ((S.ext x1).ext x2) hi' e3 _ fun W3 x3 => ?_
  have r3 := R_ext (x2.trans x3) x r1
  have x13 := (x1.trans x2).trans x3
  have viaL : ((asL x).map fun ds => D.lst (cut ds li hi')) = some d → rSlL X.K v li hi' W3.H Q := fun hd => by
    obtain ⟨ds, e4, z⟩ := map_some hd
    subst z
    obtain ⟨a, vs, rfl, h2, h3⟩ := R_asL e4 r3
    exact ⟨a, vs, rfl, h2, fun p hp => q _ (W3.frz p (cutV vs li hi')) [] (x13.trans (Ext.frz x3.ok hp)) (R_newL x3.ok hp (RL_cut h3))⟩
  cases x with
  | str s =>
    have hd2 : (if s.length ≤ LIM then some (D.str (cut s li hi')) else none) = some d := hd
    by_cases hl : s.length ≤ LIM
    · rw [if_pos hl] at hd2
      cases hd2
      refine .inr (.inr ⟨tr s, r3.1, by rw [tr_length]; exact lim_ok hl, q _ W3 [] x13 ⟨?_, rfl⟩⟩)
      show V.str (cutS (tr s) li hi') = V.str (tr (cut s li hi'))
      unfold cutS cut
      rw [tr_length]
    · rw [if_neg hl] at hd2
      cases hd2
  | tup ds =>
    have hd2 : (if dataL ds = true then some (D.tup (cut ds li hi')) else none) = some d := hd
    by_cases hl : dataL ds = true
    · rw [if_pos hl] at hd2
      cases hd2
      obtain ⟨a, vs, rfl, h2, h3⟩ := r3
      have z := RL_data ds hl h3
      subst z
      have ln := RL_len h3
      refine .inr (.inl ⟨a, vs, rfl, h2, fun hw => ?_, fun hw p hp => ?_⟩)
      · rw [ln] at hw
        rw [cut_all hw] at q
        exact q _ W3 [] x13 ⟨a, vs, rfl, h2, h3⟩
      · exact q _ (W3.put p (.tup (cutV vs li hi'))) [] (x13.trans (Ext.put x3.ok hp)) (R_newT x3.ok hp (RL_cut h3))
    · rw [if_neg hl] at hd2
      cases hd2
  | lst ds => exact .inl (viaL hd)
  | ml ds => exact .inl (viaL hd)
  | _ => cases hd
/-! ### built-ins -/
def CallD (X : Cx) (f : Value) (o : List D → Option D) : Prop := ∃ r : List V → Hp → VK → Prop, CallR X f r ∧ ∀ (W : Wd) (ds : List D) (vs : List V) (G : List Addr), WOk W → RL X.K W ds vs G → ∀ d, o ds = some d →
  ∀ Q : VK, (∀ v W' G, Ext W W' → R X.K W' d v G → Q v W'.H) → r vs W.H Q
def qCall (o : List D → Option D) (k : FA) : FQ := fun ρ μ => (k ρ μ).bind o
theorem runC {t : TA} {k : FA} {o : List D → Option D} {r : List V → Hp → VK → Prop}
    (k1 : ∀ (σ : L2.St) (W : Wd) (ρ μ : List D) (F : List Addr), Sta X.K W σ ρ μ F → ∀ ds, k ρ μ = some ds → ∀ Q : List V → Hp → Prop, (∀ vs W' G, Ext W W' → RL X.K W' ds vs G → Q vs W'.H) → t σ W.H Q)
    (k2 : ∀ (W : Wd) (ds : List D) (vs : List V) (G : List Addr), WOk W → RL X.K W ds vs G → ∀ d, o ds = some d → ∀ Q : VK, (∀ v W' G, Ext W W' → R X.K W' d v G → Q v W'.H) → r vs W.H Q)
    (σ : L2.St) (W : Wd) (ρ μ : List D) (F : List Addr) (S : Sta X.K W σ ρ μ F) (d : D) (hd : qCall o k ρ μ = some d) (Q : VK) (q : ∀ v W' G, Ext W W' → R X.K W' d v G → Q v W'.H) : tCB r t σ W.H Q := by
  obtain ⟨ds, e1, hd⟩ := bind_some hd
  refine k1 σ W ρ μ F S ds e1 _ fun vs W1 G1 x1 r1 => ?_
  exact k2 W1 ds vs G1 x1.ok r1 d hd _ fun v W2 G2 x2 r2 => q v W2 G2 (x1.trans x2) r2
theorem pq_callB {id : String} {x : Str} {p pos : Pos} {e : Expr} {es : List Expr} {k : FA} {o : List D → Option D} (h : CallD X (.builtin id) o) (hm : X.mg x = none) (hv : bootBuiltins x = some (.builtin id)) (ha : PAQ X (e :: es) k) (hg : Gl X x := by rfl)
    (hn : x ≠ "__name__" := by decide) (hdb : (x == ("__debug__" : Str)) = false := by decide) (he : starEach (e :: es) X.env = (false, eval e X.env) :: starEach es X.env := by rfl) (hpl : (backTo pos (starEach es X.env)).any (·.1) = false := by rfl) : PQ X (.Call (.Name x p) (e :: es) [] pos) (qCall o k) := by
  obtain ⟨r, hr, k2⟩ := h
  obtain ⟨t, pt, k1⟩ := ha
  exact ⟨_, pe_callB hr hg hm hv pt hn hdb he hpl, runC k1 k2⟩
theorem pq_callTy {T : String} {x : Str} {p pos : Pos} {e : Expr} {es : List Expr} {k : FA} {o : List D → Option D} (h : CallD X (.type T) o) (hm : X.mg x = none) (hv : bootBuiltins x = some (.type T)) (ha : PAQ X (e :: es) k) (hg : Gl X x := by rfl)
    (hn : x ≠ "__name__" := by decide) (hdb : (x == ("__debug__" : Str)) = false := by decide) (he : starEach (e :: es) X.env = (false, eval e X.env) :: starEach es X.env := by rfl) (hpl : (backTo pos (starEach es X.env)).any (·.1) = false := by rfl) : PQ X (.Call (.Name x p) (e :: es) [] pos) (qCall o k) := by
  obtain ⟨r, hr, k2⟩ := h
  obtain ⟨t, pt, k1⟩ := ha
  exact ⟨_, pe_callTy hr hg hm hv pt hn hdb he hpl, runC k1 k2⟩
/-- one argument -/
def o1 (g : D → Option D) : List D → Option D
  | [d] => g d
  | _ => none
def o2 (g : D → D → Option D) : List D → Option D
  | [d, e] => g d e
  | _ => none
theorem RL_one {W : Wd} {d : D} {vs : List V} {G : List Addr} (h : RL K W [d] vs G) : ∃ v, vs = [v] ∧ R K W d v G := by
  obtain ⟨v, vs', F1, F2, h1, h2, h3, h4⟩ := h
  obtain ⟨e1, e2⟩ := h3
  rw [h1, e1]
  rw [e2, List.append_nil] at h4
  exact ⟨v, rfl, by rw [h4]; exact h2⟩
theorem RL_two {W : Wd} {d e : D} {vs : List V} {G : List Addr} (h : RL K W [d, e] vs G) : ∃ u v G1 G2, vs = [u, v] ∧ R K W d u G1 ∧ R K W e v G2 := by
  obtain ⟨u, vs', F1, F2, h1, h2, h3, h4⟩ := h
  obtain ⟨v, e1, h5⟩ := RL_one h3
  exact ⟨u, v, F1, F2, by rw [h1, e1], h2, h5⟩
def dLen : D → Option D
  | .str s => if s.length ≤ LIM then some (.int s.length) else none
  | .tup ds => some (.int ds.length)
  | .lst ds => some (.int ds.length)
  | .ml ds => some (.int ds.length)
  | _ => none
theorem cd_len : CallD X (.builtin "len") (o1 dLen) := by
  refine ⟨_, call_len, fun W ds vs G ok r d hd Q q => ?_⟩
  match ds, hd with
  | [x], hd =>
    obtain ⟨v, rfl, r1⟩ := RL_one r
    have hd : dLen x = some d := hd
    cases x with
    | str s =>
      have hd2 : (if s.length ≤ LIM then some (D.int s.length) else none) = some d := hd
      by_cases hl : s.length ≤ LIM
      · rw [if_pos hl] at hd2
        cases hd2
        obtain ⟨rfl, _⟩ := r1
        exact ⟨_, s.length, rfl, ⟨by rw [tr_length]; exact lim_ok hl, (tr_length s).symm⟩, q _ W [] (Ext.refl ok) ⟨rfl, rfl⟩⟩
      · rw [if_neg hl] at hd2
        cases hd2
    | tup es =>
      cases hd
      obtain ⟨a, ws, rfl, h2, h3⟩ := r1
      exact ⟨_, es.length, rfl, .inr ⟨ws, h2, (RL_len h3).symm⟩, q _ W [] (Ext.refl ok) ⟨rfl, rfl⟩⟩
    | lst es =>
      cases hd
      obtain ⟨a, ws, rfl, h2, h3, _⟩ := r1
      exact ⟨_, es.length, rfl, .inl ⟨ws, h2.sq, (RL_len h3).symm⟩, q _ W [] (Ext.refl ok) ⟨rfl, rfl⟩⟩
    | ml es =>
      cases hd
      obtain ⟨a, ws, F', rfl, h2, h3, _⟩ := r1
      exact ⟨_, es.length, rfl, .inl ⟨ws, Evl.sq_of h2, (RL_len h3).symm⟩, q _ W [] (Ext.refl ok) ⟨rfl, rfl⟩⟩
    | _ => cases hd
def boolsD : List D → Option (List Bool)
  | [] => some []
  | .bl b :: ds => (boolsD ds).map fun bs => b :: bs
  | _ => none
theorem R_bools {W : Wd} : ∀ {ds : List D} {bs : List Bool} {vs : List V} {G : List Addr}, boolsD ds = some bs → RL K W ds vs G → vs = bs.map V.bl
  | [], _, _, _, h, r => by
    cases h
    exact r.1
  | d :: ds, bs, _, _, h, r => by
    obtain ⟨v, vs', F1, F2, h1, h2, h3, _⟩ := r
    cases d with
    | bl b =>
      obtain ⟨us, e2, z⟩ := map_some (show (boolsD ds).map (fun bs => b :: bs) = some bs from h)
      rw [← z, h1, h2.1, R_bools e2 h3]
      rfl
    | _ => cases h
def intsD : List D → Option (List Int)
  | [] => some []
  | .int b :: ds => (intsD ds).map fun bs => b :: bs
  | _ => none
theorem R_ints {W : Wd} : ∀ {ds : List D} {bs : List Int} {vs : List V} {G : List Addr}, intsD ds = some bs → RL K W ds vs G → vs = bs.map V.int
  | [], _, _, _, h, r => by
    cases h
    exact r.1
  | d :: ds, bs, _, _, h, r => by
    obtain ⟨v, vs', F1, F2, h1, h2, h3, _⟩ := r
    cases d with
    | int b =>
      obtain ⟨us, e2, z⟩ := map_some (show (intsD ds).map (fun bs => b :: bs) = some bs from h)
      rw [← z, h1, h2.1, R_ints e2 h3]
      rfl
    | _ => cases h
def strsD : List D → Option (List (List Nat))
  | [] => some []
  | .str b :: ds => (strsD ds).map fun bs => b :: bs
  | _ => none
theorem R_strs {W : Wd} : ∀ {ds : List D} {bs : List (List Nat)} {vs : List V} {G : List Addr}, strsD ds = some bs → RL K W ds vs G → vs = (bs.map tr).map V.str
  | [], _, _, _, h, r => by
    cases h
    exact r.1
  | d :: ds, bs, _, _, h, r => by
    obtain ⟨v, vs', F1, F2, h1, h2, h3, _⟩ := r
    cases d with
    | str b =>
      obtain ⟨us, e2, z⟩ := map_some (show (strsD ds).map (fun bs => b :: bs) = some bs from h)
      rw [← z, h1, h2.1, R_strs e2 h3]
      rfl
    | _ => cases h
theorem cd_all (hc : X.calm = true) : CallD X (.builtin "all") (o1 fun x => (asL x).bind fun ds => (boolsD ds).map fun bs => .bl (bs.all id)) := by
  refine ⟨_, cr_all hc, fun W ds vs G ok r d hd Q q => ?_⟩
  match ds, hd with
  | [x], hd =>
    obtain ⟨v, rfl, r1⟩ := RL_one r
    obtain ⟨es, e1, hd⟩ := bind_some (show (asL x).bind (fun ds => (boolsD ds).map fun bs => D.bl (bs.all id)) = some d from hd)
    obtain ⟨bs, e2, z⟩ := map_some hd
    obtain ⟨a, ws, rfl, h2, h3⟩ := R_asL e1 r1
    rw [R_bools e2 h3] at h2
    subst z
    exact ⟨a, bs, rfl, h2, q _ W [] (Ext.refl ok) ⟨rfl, rfl⟩⟩
theorem cd_any (hc : X.calm = true) : CallD X (.builtin "any") (o1 fun x => (asL x).bind fun ds => (boolsD ds).map fun bs => .bl (bs.any id)) := by
  refine ⟨_, cr_any hc, fun W ds vs G ok r d hd Q q => ?_⟩
  match ds, hd with
  | [x], hd =>
    obtain ⟨v, rfl, r1⟩ := RL_one r
    obtain ⟨es, e1, hd⟩ := bind_some (show (asL x).bind (fun ds => (boolsD ds).map fun bs => D.bl (bs.any id)) = some d from hd)
    obtain ⟨bs, e2, z⟩ := map_some hd
    obtain ⟨a, ws, rfl, h2, h3⟩ := R_asL e1 r1
    rw [R_bools e2 h3] at h2
    subst z
    exact ⟨a, bs, rfl, h2, q _ W [] (Ext.refl ok) ⟨rfl, rfl⟩⟩
theorem cd_sum (hc : X.calm = true) : CallD X (.builtin "sum") (o1 fun x => (asL x).bind fun ds => (intsD ds).map fun bs => .int bs.sum) := by
  refine ⟨_, cr_sum hc, fun W ds vs G ok r d hd Q q => ?_⟩
  match ds, hd with
  | [x], hd =>
    obtain ⟨v, rfl, r1⟩ := RL_one r
    obtain ⟨es, e1, hd⟩ := bind_some (show (asL x).bind (fun ds => (intsD ds).map fun bs => D.int bs.sum) = some d from hd)
    obtain ⟨bs, e2, z⟩ := map_some hd
    obtain ⟨a, ws, rfl, h2, h3⟩ := R_asL e1 r1
    rw [R_ints e2 h3] at h2
    subst z
    exact ⟨a, bs, rfl, h2, q _ W [] (Ext.refl ok) ⟨rfl, rfl⟩⟩
/-- tuple(a list | a tuple) -/
def dTuple : D → Option D
  | .tup ds => some (.tup ds)
  | x => (asL x).map .tup
theorem cd_tuple : CallD X (.type "tuple") (o1 dTuple) := by
  refine ⟨_, call_tuple_of, fun W ds vs G ok r d hd Q q => ?_⟩
  match ds, hd with
  | [x], hd =>
    obtain ⟨v, rfl, r1⟩ := RL_one r
    have viaL : (asL x).map D.tup = some d → ∃ p ys, [v] = [.ref p] ∧ ((SqL X.K W.H p ys ∧ ∀ l, W.H l = none → Q (.ref l) (upd W.H l (.tup ys))) ∨ (SqT X.K W.H p ys ∧ Q (.ref p) W.H)) := fun hd => by
      obtain ⟨es, e1, z⟩ := map_some hd
      subst z
      obtain ⟨a, ws, rfl, h2, h3⟩ := R_asL e1 r1
      exact ⟨a, ws, rfl, .inl ⟨h2, fun l hl => q _ (W.put l (.tup ws)) [] (Ext.put ok hl) (R_newT ok hl h3)⟩⟩
    cases x with
    | tup es =>
      cases hd
      obtain ⟨a, ws, rfl, h2, h3⟩ := r1
      exact ⟨a, ws, rfl, .inr ⟨h2, q _ W G (Ext.refl ok) ⟨a, ws, rfl, h2, h3⟩⟩⟩
    | _ => exact viaL hd
theorem cd_str : CallD X (.type "str") (o1 fun x => match x with | .int i => if i.natAbs.log2 < 1920 then some (.str (ofS (toString i))) else none | _ => none) := by
  refine ⟨_, call_str_int, fun W ds vs G ok r d hd Q q => ?_⟩
  match ds, hd with
  | [x], hd =>
    obtain ⟨v, rfl, r1⟩ := RL_one r
    cases x with
    | int i =>
      have hd2 : (if i.natAbs.log2 < 1920 then some (D.str (ofS (toString i))) else none) = some d := hd
      by_cases hl : i.natAbs.log2 < 1920
      · rw [if_pos hl] at hd2
        cases hd2
        obtain ⟨rfl, _⟩ := r1
        exact ⟨i, rfl, hl, q _ W [] (Ext.refl ok) ⟨congrArg V.str (tr_ofS _), rfl⟩⟩
      · rw [if_neg hl] at hd2
        cases hd2
    | _ => cases hd
def dDivmod : D → D → Option D
  | .int i, .int j => if 0 < j ∧ j < 1073741824 then some (.tup [.int (i / j), .int (i % j)]) else none
  | _, _ => none
theorem cd_divmod : CallD X (.builtin "divmod") (o2 dDivmod) := by
  refine ⟨_, call_divmod, fun W ds vs G ok r d hd Q q => ?_⟩
  match ds, hd with
  | [x, y], hd =>
    obtain ⟨u, v, G1, G2, rfl, r1, r2⟩ := RL_two r
    cases x with
    | int i =>
      cases y with
      | int j =>
        have hd2 : (if 0 < j ∧ j < 1073741824 then some (D.tup [.int (i / j), .int (i % j)]) else none) = some d := hd
        by_cases hl : 0 < j ∧ j < 1073741824
        · rw [if_pos hl] at hd2
          cases hd2
          obtain ⟨rfl, _⟩ := r1
          obtain ⟨rfl, _⟩ := r2
          exact ⟨i, j, rfl, hl, fun p hp => q _ (W.put p (.tup [.int (i / j), .int (i % j)])) [] (Ext.put ok hp) (R_newT ok hp ⟨_, _, [], [], rfl, ⟨rfl, rfl⟩, ⟨_, _, [], [], rfl, ⟨rfl, rfl⟩, ⟨rfl, rfl⟩, rfl⟩, rfl⟩)⟩
        · rw [if_neg hl] at hd2
          cases hd2
      | _ => cases hd
    | _ => cases y <;> cases hd
theorem cd_min (hc : X.calm = true) : CallD X (.builtin "min") (o2 fun x y => match x, y with | .int i, .int j => some (.int (if j < i then j else i)) | _, _ => none) := by
  refine ⟨_, call_min2 hc, fun W ds vs G ok r d hd Q q => ?_⟩
  match ds, hd with
  | [x, y], hd =>
    obtain ⟨u, v, G1, G2, rfl, r1, r2⟩ := RL_two r
    cases x with
    | int i =>
      cases y with
      | int j =>
        cases hd
        obtain ⟨rfl, _⟩ := r1
        obtain ⟨rfl, _⟩ := r2
        exact ⟨i, j, rfl, q _ W [] (Ext.refl ok) ⟨rfl, rfl⟩⟩
      | _ => cases hd
    | _ => cases y <;> cases hd
theorem cd_max (hc : X.calm = true) : CallD X (.builtin "max") (o2 fun x y => match x, y with | .int i, .int j => some (.int (if j > i then j else i)) | _, _ => none) := by
  refine ⟨_, call_max2 hc, fun W ds vs G ok r d hd Q q => ?_⟩
  match ds, hd with
  | [x, y], hd =>
    obtain ⟨u, v, G1, G2, rfl, r1, r2⟩ := RL_two r
    cases x with
    | int i =>
      cases y with
      | int j =>
        cases hd
        obtain ⟨rfl, _⟩ := r1
        obtain ⟨rfl, _⟩ := r2
        exact ⟨i, j, rfl, q _ W [] (Ext.refl ok) ⟨rfl, rfl⟩⟩
      | _ => cases hd
    | _ => cases y <;> cases hd
/-! ### isinstance of a built-in class -/
def tyN : D → Option String
  | .non => some "NoneType"
  | .bl _ => some "bool"
  | .int _ => some "int"
  | .str _ => some "str"
  | .lst _ => some "list"
  | .ml _ => some "list"
  | .tup _ => some "tuple"
  | _ => none
theorem R_ty {W : Wd} {d : D} {n : String} {v : V} {G : List Addr} (h : tyN d = some n) (r : R K W d v G) : TyX K W.H v (.type n) := by
  cases d with
  | non => cases h; rw [r.1]; exact .base .non
  | bl b => cases h; rw [r.1]; exact .base (.bl b)
  | int i => cases h; rw [r.1]; exact .base (.int i)
  | str s => cases h; rw [r.1]; exact .base (.str _)
  | lst ds =>
    cases h
    obtain ⟨a, vs, rfl, h2, _⟩ := r
    rcases h2.sq (K := K) with (h2 | ⟨o, h2⟩) | ⟨o, its, n, h2, h3, _⟩
    · exact .base (.lst h2)
    · exact .base (.frz h2)
    · exact .kList h2 h3
  | ml ds =>
    cases h
    obtain ⟨a, vs, F', rfl, h2, _⟩ := r
    exact .base (.lst h2)
  | tup ds =>
    cases h
    obtain ⟨a, vs, rfl, h2, _⟩ := r
    rcases h2 with (h2 | ⟨o, h2⟩) | ⟨o, its, n, h2, h3, _⟩
    · exact .base (.tup h2)
    · exact .fTuple h2
    · exact .kTuple h2 h3
  | _ => cases h
/-- a built-in class by its name in a call -/
def qIsi (T : String) (f : FQ) : FQ := fun ρ μ => (f ρ μ).bind fun d => (tyN d).bind fun n => (kitB n T).map D.bl
theorem pq_isi {T : String} {x : Str} {px p pos : Pos} {e : Expr} {f : FQ} (he : PQ X e f) (hmi : X.mg "isinstance" = none) (hmx : X.mg x = none) (hv : bootBuiltins x = some (.type T)) (hgi : Gl X "isinstance" := by rfl) (hg : Gl X x := by rfl)
    (hvi : bootBuiltins "isinstance" = some (.builtin "isinstance") := by decide +kernel) (hn : x ≠ "__name__" := by decide) (hd : (x == ("__debug__" : Str)) = false := by decide)
    (hs1 : starEach [e, .Name x px] X.env = (false, eval e X.env) :: starEach [.Name x px] X.env := by rfl) (hs2 : starEach [.Name x px] X.env = (false, eval (.Name x px) X.env) :: starEach [] X.env := by rfl) (hpl : (backTo pos (starEach [.Name x px] X.env)).any (·.1) = false := by rfl) :
    PQ X (.Call (.Name "isinstance" p) [e, .Name x px] [] pos) (qIsi T f) := by
  obtain ⟨t, pt, k1⟩ := he
  refine ⟨_, pe_callB call_isi hgi hmi hvi (pa_cons pt (pa_cons (pe_bltn (v := .ty T) hg hmx hv rfl hn hd) pa_nil hs2) hs1) (by decide) (by decide) hs1 hpl, fun σ W ρ μ F S d hd Q q => ?_⟩
  obtain ⟨x', e1, hd⟩ := bind_some hd
  obtain ⟨n, e2, hd⟩ := bind_some hd
  obtain ⟨b, e3, z⟩ := map_some hd
  subst z
  refine k1 σ W ρ μ F S x' e1 _ fun v W1 G1 x1 r1 => ?_
  exact ⟨v, .ty T, .type n, .type T, b, rfl, .ty T, R_ty e2 r1, kit_ty e3, q _ W1 [] x1 ⟨rfl, rfl⟩⟩
end
end Fw
/-! # what is walked, targets, comprehensions, calls of quiet defs, methods of texts -/
namespace Fw
open PySem PySem.Spec PyProof.Rows L2
open Evl (Ex)
/-- J yields ds, one by one, in every world that is Rel to W0 -/
structure ItD (K : PySem.W.Frag) (J : It) (W0 : Wd) (ds : List D) (Rel : Wd → Wd → Prop) : Prop where
  go : ∀ i W, Rel W0 W → i < ds.length → J.go i W.H
  st : ∀ i W, Rel W0 W → ds.length ≤ i → J.stop i W.H
  yl : ∀ i W x H', Rel W0 W → WOk W → i < ds.length → J.yld i W.H x H' → ∃ W' d, W'.H = H' ∧ ds[i]? = some d ∧ Ext W W' ∧ R K W' d x []
/-- walked while nothing changes; while what stands still stays -/
def PIQ (X : Cx) (tg e : Expr) (f : FA) : Prop := ∃ wi : TI, PI X tg e wi ∧ ∀ (σ : L2.St) (W : Wd) (ρ μ : List D) (F : List Addr), Sta X.K W σ ρ μ F → ∀ ds, f ρ μ = some ds →
  ∀ Q : It → Hp → Prop, (∀ J W', Ext W W' → ItD X.K J W' ds Ext → Q J W'.H) → wi σ W.H Q
def PIF (X : Cx) (tg e : Expr) (f : FA) : Prop := ∃ wi : TI, PI X tg e wi ∧ ∀ (σ : L2.St) (W : Wd) (ρ μ : List D) (F : List Addr), Sta X.K W σ ρ μ F → ∀ ds, f ρ μ = some ds →
  ∀ Q : It → Hp → Prop, (∀ J W', Ext W W' → ItD X.K J W' ds Lt → Q J W'.H) → wi σ W.H Q
theorem PIF.piq {X : Cx} {tg e : Expr} {f : FA} (h : PIF X tg e f) : PIQ X tg e f := by
  obtain ⟨wi, p, k⟩ := h
  exact ⟨wi, p, fun σ W ρ μ F S ds hd Q q => k σ W ρ μ F S ds hd Q fun J W' x it => q J W' x ⟨fun i W2 r => it.go i W2 r.lt, fun i W2 r => it.st i W2 r.lt, fun i W2 y H' r => it.yl i W2 y H' r.lt⟩⟩
/-! ### lists, tuples, texts -/
def iAny (K : PySem.W.Frag) (tl : TE) : TI := fun σ H Q => tl σ H fun x H1 => (∃ a xs, x = .ref a ∧ SqL K H1 a xs ∧ Q (Itl K a) H1) ∨ (∃ a xs, x = .ref a ∧ SqT K H1 a xs ∧ Q (Itt K a) H1) ∨ (∃ z, x = .str z ∧ Q (Its z) H1)
theorem pi_any {X : Cx} {tg l : Expr} {tl : TE} (hl : PE X l tl) : PI X tg l (iAny X.K tl) := by
  refine ⟨fun pins s σ H Rk I h => thn (hl.run pins s σ H _ I h) ?_⟩
  rintro v s1 ⟨x, H1, I1, r1, ⟨a, xs, rfl, hq, q⟩ | ⟨a, xs, rfl, hq, q⟩ | ⟨z, rfl, q⟩⟩
  · cases r1
    obtain ⟨its, rv, pl, hz⟩ := I1.list hq
    exact wpAny_pyIter_list pl.isList (pi_one (tk := s1.toks) I1 _ (turn_list a _) ⟨_, Heap.get?_push_size _ rfl, rfl, rfl⟩ q)
  · cases r1
    obtain ⟨its, rv, pl, hz⟩ := I1.tuple hq
    exact wpAny_pyIter_tuple (show s1.heap.IsTuple a its.toArray from pl) (pi_one (tk := s1.toks) I1 _ (turn_tuple a _) ⟨_, Heap.get?_push_size _ rfl, rfl, rfl⟩ q)
  · obtain ⟨t, rfl⟩ := r1
    cases ha : z.cps.all (· < 128)
    · exact wpAny_pyIter_wide ha (pi_one (tk := s1.toks) I1 _ (turn_str _ z t "str_iterator" (.inr rfl)) ⟨_, Heap.get?_push_size _ rfl, rfl, rfl⟩ q)
    · exact wpAny_pyIter_ascii ha (pi_one (tk := s1.toks) I1 _ (turn_str _ z t "str_ascii_iterator" (.inl rfl)) ⟨_, Heap.get?_push_size _ rfl, rfl, rfl⟩ q)
section
variable {K : PySem.W.Frag} {W0 : Wd}
theorem it_list {Rel : Wd → Wd → Prop} {a : Addr} {vs : List V} {ds : List D} (hs : ∀ W, Rel W0 W → SqL K W.H a vs) (hr : ∀ W, Rel W0 W → RL K W ds vs []) : ItD K (Itl K a) W0 ds Rel where
  go := fun i W r hi => by
    have hl := RL_len (hr W r)
    exact ⟨vs, vs[i]'(by omega), hs W r, by simp [hl, hi]⟩
  st := fun i W r hi => ⟨vs, hs W r, by rw [RL_len (hr W r)]; exact hi⟩
  yl := fun i W x H' r ok hi y => by
    obtain ⟨e, y⟩ := y
    have y1 := y vs (hs W r)
    obtain ⟨v, G, q1, q2, q3⟩ := RL_get (hr W r) (List.getElem?_eq_getElem hi)
    rw [y1] at q1
    cases q1
    have z : G = [] := List.eq_nil_iff_forall_not_mem.mpr fun b hb => by
      have := q3 b hb
      cases this
    subst z
    exact ⟨W, _, e.symm, List.getElem?_eq_getElem hi, Ext.refl ok, q2⟩
theorem it_tup {Rel : Wd → Wd → Prop} {a : Addr} {vs : List V} {ds : List D} (hs : ∀ W, Rel W0 W → SqT K W.H a vs) (hr : ∀ W, Rel W0 W → RL K W ds vs []) : ItD K (Itt K a) W0 ds Rel where
  go := fun i W r hi => by
    have hl := RL_len (hr W r)
    exact ⟨vs, vs[i]'(by omega), hs W r, by simp [hl, hi]⟩
  st := fun i W r hi => ⟨vs, hs W r, by rw [RL_len (hr W r)]; exact hi⟩
  yl := fun i W x H' r ok hi y => by
    obtain ⟨e, y⟩ := y
    have y1 := y vs (hs W r)
    obtain ⟨v, G, q1, q2, q3⟩ := RL_get (hr W r) (List.getElem?_eq_getElem hi)
    rw [y1] at q1
    cases q1
    have z : G = [] := List.eq_nil_iff_forall_not_mem.mpr fun b hb => by
      have := q3 b hb
      cases this
    subst z
    exact ⟨W, _, e.symm, List.getElem?_eq_getElem hi, Ext.refl ok, q2⟩
theorem it_str {Rel : Wd → Wd → Prop} {z : List Nat} : ItD K (Its (tr z)) W0 (z.map fun c => .str [c]) Rel where
  go := fun i W r hi => by
    rw [List.length_map] at hi
    show i < z.toArray.size
    rw [List.size_toArray]
    exact hi
  st := fun i W r hi => by
    rw [List.length_map] at hi
    show z.toArray.size ≤ i
    rw [List.size_toArray]
    exact hi
  yl := fun i W x H' r ok hi y => by
    rw [List.length_map] at hi
    obtain ⟨e, c, h1, rfl⟩ := y
    have h2 : z.toArray[i]? = some c := h1
    rw [List.getElem?_toArray] at h2
    exact ⟨W, .str [c], e.symm, by rw [List.getElem?_map, h2]; rfl, Ext.refl ok, rfl, rfl⟩
end
/-- the items of what stands still | of any such thing -/
def itemsF : D → Option (List D)
  | .lst ds => some ds
  | .tup ds => if dataL ds = true then some ds else none
  | .str s => some (s.map fun c => .str [c])
  | _ => none
def itemsQ : D → Option (List D)
  | .ml ds => if dataL ds = true then some ds else none
  | d => itemsF d
def aF (f : FQ) : FA := fun ρ μ => (f ρ μ).bind itemsF
def aQ (f : FQ) : FA := fun ρ μ => (f ρ μ).bind itemsQ
section
variable {X : Cx} {tg e : Expr} {f : FQ}
theorem items_run {Rel : Wd → Wd → Prop} (hR : ∀ {W W' : Wd}, Rel W W' → Lt W W') {W : Wd} {d : D} {ds : List D} {v : V} {G : List Addr} (hd : itemsF d = some ds) (r : R X.K W d v G) (Q : It → Hp → Prop) (q : ∀ J, ItD X.K J W ds Rel → Q J W.H) :
    (∃ a xs, v = .ref a ∧ SqL X.K W.H a xs ∧ Q (Itl X.K a) W.H) ∨ (∃ a xs, v = .ref a ∧ SqT X.K W.H a xs ∧ Q (Itt X.K a) W.H) ∨ (∃ z, v = .str z ∧ Q (Its z) W.H) := by
  cases d with
  | lst es =>
    cases hd
    obtain ⟨a, vs, rfl, h2, h3, _⟩ := r
    exact .inl ⟨a, vs, rfl, h2.sq, q _ (it_list (fun W2 r2 => (h2.lt (hR r2)).sq) fun W2 r2 => RL_lt (hR r2) _ h3)⟩
  | tup es =>
    have hd2 : (if dataL es = true then some es else none) = some ds := hd
    by_cases hl : dataL es = true
    · rw [if_pos hl] at hd2
      cases hd2
      obtain ⟨a, vs, rfl, h2, h3⟩ := r
      have z := RL_data ds hl h3
      subst z
      exact .inr (.inl ⟨a, vs, rfl, h2, q _ (it_tup (fun W2 r2 => (hR r2).sqT h2) fun W2 r2 => RL_lt (hR r2) _ h3)⟩)
    · rw [if_neg hl] at hd2
      cases hd2
  | str s =>
    cases hd
    obtain ⟨rfl, _⟩ := r
    exact .inr (.inr ⟨_, rfl, q _ it_str⟩)
  | _ => cases hd
theorem pif_any (h : PQ X e f) : PIF X tg e (aF f) := by
  obtain ⟨t1, p1, k1⟩ := h
  refine ⟨_, pi_any p1, fun σ W ρ μ F S ds hd Q q => ?_⟩
  obtain ⟨d, e1, hd⟩ := bind_some hd
  refine k1 σ W ρ μ F S d e1 _ fun v W1 G1 x1 r1 => ?_
  exact items_run (Rel := Lt) (fun r => r) hd r1 Q fun J it => q J W1 x1 it
theorem piq_any (h : PQ X e f) : PIQ X tg e (aQ f) := by
  obtain ⟨t1, p1, k1⟩ := h
  refine ⟨_, pi_any p1, fun σ W ρ μ F S ds hd Q q => ?_⟩
  obtain ⟨d, e1, hd⟩ := bind_some hd
  refine k1 σ W ρ μ F S d e1 _ fun v W1 G1 x1 r1 => ?_
  cases d with
  | ml es =>
    have hd2 : (if dataL es = true then some es else none) = some ds := hd
    by_cases hl : dataL es = true
    · rw [if_pos hl] at hd2
      cases hd2
      obtain ⟨a, vs, F', rfl, h2, h3, _⟩ := r1
      have z := RL_data ds hl h3
      subst z
      exact .inl ⟨a, vs, rfl, Evl.sq_of h2, q _ W1 x1 (it_list (fun W2 r2 => Evl.sq_of (r2.ex _ _ h2)) fun W2 r2 => RL_ext r2 _ h3)⟩
    · rw [if_neg hl] at hd2
      cases hd2
  | _ => exact items_run (Rel := Ext) (fun r => r.lt) (by exact hd) r1 Q fun J it => q J W1 x1 it
/-! ### ranges -/
def rangeD (lo hi : Int) : List D := (List.range (hi - lo).toNat).map fun (i : Nat) => .int (lo + (i : Int))
def small62 (i : Int) : Bool := decide (-4611686018427387904 ≤ i ∧ i < 4611686018427387904)
def aR1 (f : FQ) : FA := fun ρ μ => match f ρ μ with
  | some (.int j) => if small62 j = true then some (rangeD 0 j) else none
  | _ => none
def aR2 (f g : FQ) : FA := fun ρ μ => match f ρ μ, g ρ μ with
  | some (.int i), some (.int j) => if small62 i = true ∧ small62 j = true then some (rangeD i j) else none
  | _, _ => none
theorem it_range {K : PySem.W.Frag} {W0 : Wd} {Rel : Wd → Wd → Prop} {lo hi : Int} : ItD K (Itr lo (hi - lo).toNat) W0 (rangeD lo hi) Rel where
  go := fun i W r h => by
    unfold rangeD at h
    rw [List.length_map, List.length_range] at h
    exact h
  st := fun i W r h => by
    unfold rangeD at h
    rw [List.length_map, List.length_range] at h
    exact h
  yl := fun i W x H' r ok h y => by
    obtain ⟨e, rfl⟩ := y
    unfold rangeD at h ⊢
    rw [List.length_map, List.length_range] at h
    exact ⟨W, .int (lo + (i : Int)), e.symm, by rw [List.getElem?_map, List.getElem?_range h]; rfl, Ext.refl ok, rfl, rfl⟩
theorem sm62 {i : Int} (h : small62 i = true) : -(2 ^ 62) ≤ i ∧ i < 2 ^ 62 := by
  have z : -4611686018427387904 ≤ i ∧ i < 4611686018427387904 := of_decide_eq_true h
  omega
theorem pif_range1 {a : Expr} {p pos : Pos} (ha : PQ X a f) (hm : X.mg "range" = none) (hg : Gl X "range" := by rfl) (hs : starEach [a] X.env = [(false, eval a X.env)] := by rfl) : PIF X tg (.Call (.Name "range" p) [a] [] pos) (aR1 f) := by
  obtain ⟨t1, p1, k1⟩ := ha
  refine ⟨_, pi_range1 hg hm (pa_cons p1 pa_nil hs) hs, fun σ W ρ μ F S ds hd Q q => ?_⟩
  unfold aR1 at hd
  cases e1 : f ρ μ with
  | none => rw [e1] at hd; cases hd
  | some d =>
    rw [e1] at hd
    refine k1 σ W ρ μ F S d e1 _ fun v W1 G1 x1 r1 => ?_
    cases d with
    | int j =>
      have hd2 : (if small62 j = true then some (rangeD 0 j) else none) = some ds := hd
      by_cases hl : small62 j = true
      · rw [if_pos hl] at hd2
        cases hd2
        have z := sm62 hl
        have z2 : j.toNat = (j - 0).toNat := by rw [Int.sub_zero]
        refine ⟨j, congrArg (fun z => [z]) r1.1, z.1, z.2, ?_⟩
        rw [z2]
        exact q _ W1 x1 it_range
      · rw [if_neg hl] at hd2
        cases hd2
    | _ => cases hd
theorem pif_range2 {a b : Expr} {g : FQ} {p pos : Pos} (ha : PQ X a f) (hb : PQ X b g) (hm : X.mg "range" = none) (hg : Gl X "range" := by rfl) (hs : starEach [a, b] X.env = [(false, eval a X.env), (false, eval b X.env)] := by rfl)
    (hs2 : starEach [b] X.env = [(false, eval b X.env)] := by rfl) : PIF X tg (.Call (.Name "range" p) [a, b] [] pos) (aR2 f g) := by
  obtain ⟨t1, p1, k1⟩ := ha
  obtain ⟨t2, p2, k2⟩ := hb
  refine ⟨_, pi_range2 hg hm (pa_cons p1 (pa_cons p2 pa_nil hs2) (hs.trans (congrArg _ hs2.symm))) hs hs2, fun σ W ρ μ F S ds hd Q q => ?_⟩
  unfold aR2 at hd
  cases e1 : f ρ μ with
  | none => rw [e1] at hd; cases hd
  | some d =>
    cases e2 : g ρ μ with
    | none => rw [e1, e2] at hd; cases d <;> cases hd
    | some d' =>
      rw [e1, e2] at hd
      refine k1 σ W ρ μ F S d e1 _ fun v W1 G1 x1 r1 => ?_
      refine k2 σ W1 ρ μ F (S.ext x1) d' e2 _ fun v' W2 G2 x2 r2 => ?_
      cases d with
      | int i =>
        cases d' with
        | int j =>
          have hd2 : (if small62 i = true ∧ small62 j = true then some (rangeD i j) else none) = some ds := hd
          by_cases hl : small62 i = true ∧ small62 j = true
          · rw [if_pos hl] at hd2
            cases hd2
            have z1 := sm62 hl.1
            have z2 := sm62 hl.2
            obtain ⟨rfl, _⟩ := r1
            obtain ⟨rfl, _⟩ := r2
            exact ⟨i, j, rfl, ⟨z1.1, z1.2, z2.1, z2.2⟩, q _ W2 (x1.trans x2) it_range⟩
          · rw [if_neg hl] at hd2
            cases hd2
        | _ => cases hd
      | _ => cases d' <;> cases hd
/-! ### targets -/
def PGD (X : Cx) (tg : Expr) (vs : List Nat) (t : D → List D → Option (List D)) : Prop := ∃ g : TG, PG X tg g ∧ ∀ (σ : L2.St) (W : Wd) (ρ μ : List D) (F : List Addr) (d : D) (v : V), Sta X.K W σ ρ μ F → R X.K W d v [] → ∀ ρ', t d ρ = some ρ' →
  ∀ Q : L2.St → Hp → Prop, (∀ σ' F', Sta X.K W σ' ρ' μ F' → (∀ a ∈ F', a ∈ F) → wipe σ' vs = wipe σ vs → Q σ' W.H) → g v σ W.H Q
def tgN (i : Nat) : D → List D → Option (List D) := fun d ρ => if data d = true then some (ρ.set i d) else none
theorem data_ne {d : D} (h : data d = true) : d ≠ .un := fun z => by rw [z] at h; cases h
theorem R1_of {K : PySem.W.Frag} {W : Wd} {d : D} {v : V} {G : List Addr} (r : R K W d v G) : R1 K W d (some v) G := R1_iff.mpr (.inr ⟨v, rfl, r⟩)
theorem wipe_set : ∀ {vs : List Nat} {i : Nat} {o : Option V} {σ : L2.St}, i ∈ vs → wipe (σ.set i o) vs = wipe σ vs
  | [], i, o, σ, h => by cases h
  | v :: vs, i, o, σ, h => by
    show (wipe (σ.set i o) vs).set v none = (wipe σ vs).set v none
    by_cases e : i ∈ vs
    · rw [wipe_set e]
    · have ev : i = v := by
        rcases List.mem_cons.mp h with h | h
        · exact h
        · exact absurd h e
      subst ev
      have comm : ∀ (us : List Nat) (τ : L2.St), i ∉ us → wipe (τ.set i o) us = (wipe τ us).set i o := by
        intro us
        induction us with
        | nil => intro τ _; rfl
        | cons u us ih =>
          intro τ hu
          show (wipe (τ.set i o) us).set u none = ((wipe τ us).set u none).set i o
          rw [ih τ fun z => hu (List.mem_cons_of_mem _ z)]
          exact List.set_comm _ _ fun z => hu (by rw [z]; exact List.mem_cons_self ..)
      rw [comm vs σ e, List.set_set]
theorem wipe_idem : ∀ (vs : List Nat) (σ : L2.St), wipe (wipe σ vs) vs = wipe σ vs := by
  intro vs σ
  have key : ∀ (us : List Nat) (τ : L2.St), (∀ u ∈ us, u ∈ vs) → wipe (wipe τ us) vs = wipe τ vs := by
    intro us
    induction us with
    | nil => intro τ _; rfl
    | cons u us ih =>
      intro τ h
      show wipe ((wipe τ us).set u none) vs = wipe τ vs
      rw [wipe_set (h u (List.mem_cons_self ..)), ih τ fun z hz => h z (List.mem_cons_of_mem _ hz)]
  exact key vs σ fun u hu => hu
theorem pgd_name {vs : List Nat} {i : Nat} {x : Str} {pos : Pos} (h : PG X (.Name x pos) (gName i)) (hi : i ∈ vs := by decide) : PGD X (.Name x pos) vs (tgN i) := by
  refine ⟨_, h, fun σ W ρ μ F d v S r ρ' hr Q q => ?_⟩
  unfold tgN at hr
  by_cases hl : data d = true
  · rw [if_pos hl] at hr
    cases hr
    obtain ⟨F', S', sub⟩ := S.set (i := i) (R1_of r)
    exact q _ F' S' sub (wipe_set hi)
  · rw [if_neg hl] at hr
    cases hr
/-- several names out of a tuple -/
def tgs : List Nat → List D → List D → Option (List D)
  | [], [], ρ => some ρ
  | i :: is, d :: ds, ρ => (tgN i d ρ).bind fun ρ' => tgs is ds ρ'
  | _, _, _ => none
def tgT (is : List Nat) : D → List D → Option (List D) := fun d ρ => match d with
  | .tup ds => tgs is ds ρ
  | _ => none
def gNames : List Nat → TGs
  | [] => gNil
  | i :: is => gCons (gName i) (gNames is)
theorem tgs_run {K : PySem.W.Frag} {vs : List Nat} : ∀ (is : List Nat) {ds : List D} {us : List V} {σ : L2.St} {W : Wd} {ρ μ ρ' : List D} {F : List Addr}, (∀ i ∈ is, i ∈ vs) → Sta K W σ ρ μ F → RL K W ds us [] → tgs is ds ρ = some ρ' →
    ∀ Q : L2.St → Hp → Prop, (∀ σ' F', Sta K W σ' ρ' μ F' → (∀ a ∈ F', a ∈ F) → wipe σ' vs = wipe σ vs → Q σ' W.H) → gNames is us σ W.H Q
  | [], [], us, σ, W, ρ, μ, ρ', F, _, S, r, h, Q, q => by
    cases h
    exact ⟨r.1, q σ F S (fun a h => h) rfl⟩
  | [], _ :: _, _, _, _, _, _, _, _, _, _, _, h, _, _ => by cases h
  | i :: is, [], us, σ, W, ρ, μ, ρ', F, _, S, r, h, Q, q => by cases h
  | i :: is, d :: ds, us, σ, W, ρ, μ, ρ', F, hv, S, r, h, Q, q => by
    obtain ⟨ρ1, e1, h⟩ := bind_some (show (tgN i d ρ).bind (fun ρ' => tgs is ds ρ') = some ρ' from h)
    obtain ⟨v, us', F1, F2, h1, h2, h3, h4⟩ := r
    obtain ⟨rfl, rfl⟩ := List.append_eq_nil_iff.mp h4.symm
    unfold tgN at e1
    by_cases hl : data d = true
    · rw [if_pos hl] at e1
      cases e1
      obtain ⟨F', S', sub⟩ := S.set (i := i) (R1_of h2)
      refine ⟨v, us', h1, ?_⟩
      exact tgs_run is (fun j hj => hv j (List.mem_cons_of_mem _ hj)) S' h3 h Q fun σ' F'' S'' sub' w => q σ' F'' S'' (fun a ha => sub a (sub' a ha)) (w.trans (wipe_set (hv i (List.mem_cons_self ..))))
    · rw [if_neg hl] at e1
      cases e1
theorem pgd_tup {vs is : List Nat} {es : List Expr} {k : Nat} {pos : Pos} (hc : X.calm = true) (h : PGs X es (gNames is)) (hv : ∀ i ∈ is, i ∈ vs) (hn : (assignEach es X.env).length = is.length := by rfl) (hst : (assignEach es X.env).findIdx? (·.1) = none := by rfl) : PGD X (.Tuple es k pos) vs (tgT is) := by
  refine ⟨_, pg_tup hc h hn hst, fun σ W ρ μ F d v S r ρ' hr Q q => ?_⟩
  cases d with
  | tup ds =>
    have hr2 : tgs is ds ρ = some ρ' := hr
    obtain ⟨a, us, rfl, h2, h3⟩ := r
    refine ⟨a, us, rfl, h2, ?_, tgs_run is hv S h3 hr2 Q q⟩
    rw [RL_len h3]
    have len : ∀ (is : List Nat) (ds ρ : List D), tgs is ds ρ = some ρ' → ds.length = is.length := by
      intro is
      induction is with
      | nil =>
        intro ds ρ h
        cases ds with
        | nil => rfl
        | cons _ _ => cases h
      | cons i is ih =>
        intro ds ρ h
        cases ds with
        | nil => cases h
        | cons d ds =>
          obtain ⟨ρ1, _, h⟩ := bind_some (show (tgN i d ρ).bind (fun ρ' => tgs is ds ρ') = some ρ' from h)
          rw [List.length_cons, List.length_cons, ih ds ρ1 h]
    exact len is ds ρ hr2
  | _ => cases hr
end
end Fw
/-! # comprehensions, calls of quiet defs, methods of texts -/
namespace Fw
open PySem PySem.Spec PyProof.Rows L2
open Evl (Ex)
/-! ### the readings by their mirrors alone -/
def tEv (K : PySem.W.Frag) (f : FQ) : TE := fun σ H Q => ∃ (W : Wd) (ρ μ : List D) (F : List Addr) (d : D), W.H = H ∧ Sta K W σ ρ μ F ∧ f ρ μ = some d ∧ ∀ v W' G, Ext W W' → R K W' d v G → Q v W'.H
def tBv (K : PySem.W.Frag) (f : FB) : TT := fun σ H Q => ∃ (W : Wd) (ρ μ : List D) (F : List Addr) (b : Bool), W.H = H ∧ Sta K W σ ρ μ F ∧ f ρ μ = some b ∧ ∀ W', Ext W W' → Q b W'.H
def gTv (K : PySem.W.Frag) (vs : List Nat) (t : D → List D → Option (List D)) : TG := fun v σ H Q => ∃ (W : Wd) (ρ μ : List D) (F : List Addr) (d : D) (ρ' : List D), W.H = H ∧ Sta K W σ ρ μ F ∧ R K W d v [] ∧ t d ρ = some ρ' ∧
  ∀ σ' F', Sta K W σ' ρ' μ F' → (∀ a ∈ F', a ∈ F) → wipe σ' vs = wipe σ vs → Q σ' W.H
section
variable {X : Cx} {e tg : Expr} {f : FQ} {t : FB}
theorem PQ.can (h : PQ X e f) : PE X e (tEv X.K f) := by
  obtain ⟨te, p, k⟩ := h
  refine ⟨fun pins s σ H Q I ⟨W, ρ, μ, F, d, hH, S, hd, q⟩ => ?_⟩
  subst hH
  exact p.run pins s σ _ Q I (k σ W ρ μ F S d hd Q q)
theorem PB.can (h : PB X e t) : PT X e (tBv X.K t) := by
  obtain ⟨te, p, k⟩ := h
  refine ⟨fun pins s σ H Q I ⟨W, ρ, μ, F, d, hH, S, hd, q⟩ => ?_⟩
  subst hH
  exact p.run pins s σ _ Q I (k σ W ρ μ F S d hd Q q)
theorem PGD.can {vs : List Nat} {g : D → List D → Option (List D)} (h : PGD X tg vs g) : PG X tg (gTv X.K vs g) := by
  obtain ⟨tt, p, k⟩ := h
  refine ⟨fun pins s σ H v u Q I r ⟨W, ρ, μ, F, d, ρ', hH, S, rv, hd, q⟩ => ?_⟩
  subst hH
  exact p.run pins s σ _ v u Q I r (k σ W ρ μ F d v S rv ρ' hd Q q)
/-- a comprehension's tests: none or one -/
def bYes : FB := fun _ _ => some true
def PTsB (X : Cx) (es : List Expr) (t : FB) : Prop := PTs X es (tBv X.K t)
theorem ptsb_nil : PTsB X [] bYes := by
  refine ⟨fun pins s σ H Q I ⟨W, ρ, μ, F, d, hH, S, hd, q⟩ => ?_⟩
  subst hH
  cases hd
  exact pts_nil.run pins s σ _ Q I (q W (Ext.refl S.ok))
theorem ptsb_one {c : Expr} (h : PB X c t) : PTsB X [c] t := pts_one h.can
end
def wipeD (ρ : List D) : List Nat → List D
  | [] => ρ
  | v :: vs => (wipeD ρ vs).set v .un
theorem Sta.wipe {K : PySem.W.Frag} {W : Wd} {μ : List D} : ∀ (vs : List Nat) {σ : L2.St} {ρ : List D} {F : List Addr}, Sta K W σ ρ μ F → ∃ F', Sta K W (L2.wipe σ vs) (wipeD ρ vs) μ F'
  | [], _, _, F, S => ⟨F, S⟩
  | v :: vs, _, _, F, S => by
    obtain ⟨F1, S1⟩ := Sta.wipe vs S
    obtain ⟨F2, S2, _⟩ := S1.set (i := v) (d := .un) (o := none) rfl
    exact ⟨F2, S2⟩
def lcL (g : D → List D → Option (List D)) (t : FB) (f : FQ) (ρ μ : List D) : List D → Option (List D)
  | [] => some []
  | d :: ds => (g d ρ).bind fun ρ' => (t ρ' μ).bind fun b => if b = true then (f ρ' μ).bind fun y => if data y = true then (lcL g t f ρ μ ds).map fun r => y :: r else none else lcL g t f ρ μ ds
def qLc (it : FA) (g : D → List D → Option (List D)) (vs : List Nat) (t : FB) (f : FQ) : FA := fun ρ μ => (it ρ μ).bind fun ds => if ds.length ≤ LIM then lcL g t f (wipeD ρ vs) μ ds else none
theorem Lt.upd_lst {W : Wd} {p : Addr} {xs ys : List V} (h : W.H p = some (.lst xs)) (hf : ¬ W.Fr p) : Lt W ⟨upd W.H p (.lst ys), W.Fr, W.m⟩ := by
  have ne : ∀ a o, Rd W.H a o → (∀ zs, o ≠ .lst zs) → a ≠ p := fun a o r n z => by
    subst z
    rcases r with r | ⟨ob, r⟩
    · rw [h] at r
      exact n _ (Option.some.inj r).symm
    · rw [h] at r
      cases r
  refine ⟨fun a zs r => ?_, fun a zs r => ?_, fun a C dx fs r r' => ⟨?_, r'⟩, fun _ _ z => z⟩
  · have z := ne a _ r fun _ q => nomatch q
    unfold Rd at r ⊢
    show upd W.H p _ a = _ ∨ ∃ o, upd W.H p _ a = _
    rw [upd_ne z]
    exact r
  · have z : a ≠ p := fun z => hf (z ▸ r.2)
    refine ⟨?_, r.2⟩
    have r1 := r.1
    unfold Rd at r1 ⊢
    show upd W.H p _ a = _ ∨ ∃ o, upd W.H p _ a = _
    rw [upd_ne z]
    exact r1
  · show upd W.H p _ a = _
    rw [upd_ne fun z => by subst z; rw [h] at r; cases r]
    exact r
section
variable {X : Cx} {elt tg iter : Expr} {ifs : List Expr} {scope : Scope} {own : List (Str × Nat)} {pos : Pos} {it : FA} {g : D → List D → Option (List D)} {t : FB} {f : FQ}
/-- the reading of a comprehension, whatever comes behind -/
theorem lc_run {K : PySem.W.Frag} {wi : TI} {vs : List Nat} {it : FA}
    (k0 : ∀ (σ : L2.St) (W : Wd) (ρ μ : List D) (F : List Addr), Sta K W σ ρ μ F → ∀ ds, it ρ μ = some ds → ∀ Q : It → Hp → Prop, (∀ J W', Ext W W' → ItD K J W' ds Ext → Q J W'.H) → wi σ W.H Q)
    (σ : L2.St) (W : Wd) (ρ μ : List D) (F : List Addr) (S : Sta K W σ ρ μ F) (out : List D) (hd : qLc it g vs t f ρ μ = some out) (Q : VK) (q : ∀ p W', NewL K W W' out p → Q (.ref p) W'.H) :
    tLc wi (gTv K vs g) (tBv K t) (tEv K f) vs σ W.H Q := by
  obtain ⟨ds, e1, hd⟩ := bind_some hd
  by_cases hlim : ds.length ≤ LIM
  case neg => rw [if_neg hlim] at hd; cases hd
  rw [if_pos hlim] at hd
  refine k0 σ W ρ μ F S ds e1 _ fun J W1 x1 itd => ?_
  intro Dl hDl
  obtain ⟨Fw, Sw⟩ := Sta.wipe vs (S.ext x1)
  refine ⟨fun i m H => m = ds.length - i ∧ i ≤ ds.length ∧ ∃ (W2 : Wd) (acc : List V) (done rest : List D), W2.H = H ∧ Ext W1 W2 ∧ ¬ W2.Fr Dl ∧ W2.H Dl = some (.lst acc) ∧ RL K W2 done acc [] ∧ lcL g t f (wipeD ρ vs) μ (ds.drop i) = some rest ∧ out = done ++ rest ∧ done.length ≤ i, ⟨_, rfl, Nat.zero_le _, ?_⟩, ?_⟩
  · exact ⟨W1.put Dl (.lst []), [], [], out, rfl, Ext.put x1.ok hDl, fun z => x1.ok Dl z hDl, upd_same, ⟨rfl, rfl⟩, hd, rfl, Nat.le_refl _⟩
  · rintro i m H ⟨rfl, hi, W2, acc, done, rest, rfl, x2, hf, hacc, hrl, hrest, hout, hdl⟩
    by_cases hlt : i < ds.length
    · refine .inr ⟨itd.go i W2 x2 hlt, ?_⟩
      have ed : ds.drop i = ds[i] :: ds.drop (i + 1) := List.drop_eq_getElem_cons hlt
      rw [ed] at hrest
      obtain ⟨ρ', e2, hrest⟩ := bind_some (show (g ds[i] (wipeD ρ vs)).bind _ = some rest from hrest)
      obtain ⟨b, e3, hrest⟩ := bind_some hrest
      refine ⟨fun H' => i + 1 ≤ ds.length ∧ ∃ (W2 : Wd) (acc : List V) (done rest : List D), W2.H = H' ∧ Ext W1 W2 ∧ ¬ W2.Fr Dl ∧ W2.H Dl = some (.lst acc) ∧ RL K W2 done acc [] ∧ lcL g t f (wipeD ρ vs) μ (ds.drop (i + 1)) = some rest ∧ out = done ++ rest ∧ done.length ≤ i + 1,
        fun H' n => ⟨ds.length - (i + 1), by omega, rfl, n⟩, fun x H' hy => ?_⟩
      obtain ⟨W3, d, hW3, hd3, x3, r3⟩ := itd.yl i W2 x H' x2 x2.ok hlt hy
      subst hW3
      rw [List.getElem?_eq_getElem hlt] at hd3
      cases hd3
      have nf3 : ∀ {W5 : Wd}, Ext W2 W5 → ¬ W5.Fr Dl := fun x z => by
        rcases x.nf Dl z with z | z
        · exact hf z
        · rw [hacc] at z
          cases z
      refine ⟨W3, wipeD ρ vs, μ, Fw, ds[i], ρ', rfl, (Sw.ext x2).ext x3, r3, e2, fun σ' F' S' _ hw => ⟨hw.trans (wipe_idem vs σ), ?_⟩⟩
      refine ⟨W3, ρ', μ, F', b, rfl, S', e3, fun W4 x4 => ?_⟩
      cases b with
      | true =>
        rw [if_pos rfl] at hrest ⊢
        obtain ⟨y, e4, hrest⟩ := bind_some hrest
        by_cases hdy : data y = true
        case neg => rw [if_neg hdy] at hrest; cases hrest
        rw [if_pos hdy] at hrest
        obtain ⟨rest', e5, z⟩ := map_some hrest
        refine ⟨W4, ρ', μ, F', y, rfl, S'.ext x4, e4, fun v W5 G x5 r5 => ?_⟩
        have zG := R_data y hdy r5
        subst zG
        have x25 := (x3.trans x4).trans x5
        have hacc5 := x25.ex _ _ hacc
        have la : acc.length = done.length := RL_len hrl
        refine ⟨acc, hacc5, lim_lt (by omega), by omega, ⟨upd W5.H Dl (.lst (acc ++ [v])), W5.Fr, W5.m⟩, acc ++ [v], done ++ [y], rest', rfl, ?_, (show ¬ W5.Fr Dl from nf3 x25), upd_same, ?_, e5, ?_, ?_⟩
        · have x15 := x2.trans x25
          refine ⟨fun a o h => ?_, x15.fr, x15.nf, x15.m, fun a h => ?_⟩
          · show upd W5.H Dl _ a = _
            rw [upd_ne (ne_of_none h hDl)]
            exact x15.ex a o h
          · show upd W5.H Dl _ a ≠ none
            by_cases ea : a = Dl
            · rw [ea, upd_same]
              exact fun z => nomatch z
            · rw [upd_ne ea]
              exact x15.ok a h
        · have lt5 : Lt W5 ⟨upd W5.H Dl (.lst (acc ++ [v])), W5.Fr, W5.m⟩ := Lt.upd_lst hacc5 (nf3 x25)
          exact RL_app (G := []) (RL_lt lt5 done (RL_ext x25 done hrl)) ⟨v, [], [], [], rfl, R_lt lt5 y r5, ⟨rfl, rfl⟩, rfl⟩
        · rw [hout, ← z, List.append_assoc]
          rfl
        · rw [List.length_append]
          show done.length + 1 ≤ i + 1
          omega
      | false =>
        rw [if_neg Bool.false_ne_true] at hrest ⊢
        have x24 := x3.trans x4
        exact ⟨by omega, W4, acc, done, rest, rfl, x2.trans x24, nf3 x24, x24.ex _ _ hacc, RL_ext x24 done hrl, hrest, hout, by omega⟩
    · refine .inl ⟨itd.st i W2 x2 (by omega), ?_⟩
      have e : ds.drop i = [] := List.drop_eq_nil_of_le (by omega)
      rw [e] at hrest
      cases hrest
      rw [List.append_nil] at hout
      subst hout
      exact q Dl W2 ⟨x1.trans x2, Evl.fresh_back x1.ex hDl, hf, acc, hacc, hrl⟩
theorem pn_lc (hc : X.calm = true) (hN : X.N.Nodup) (hi : PIQ X tg iter it) (ok : BlkOk X.N X.env.scope scope own)
    (hg : ∀ (s : Shared) (H : Hp) (C : Addr) (cl : List (Str × Addr)) (fp : List Addr), PGD (X.blk s H scope (compEnvC scope cl C X.env) fp) tg (own.map (·.2)) g)
    (ht : ∀ (s : Shared) (H : Hp) (C : Addr) (cl : List (Str × Addr)) (fp : List Addr), PTsB (X.blk s H scope (compEnvC scope cl C X.env) fp) ifs t)
    (he : ∀ (s : Shared) (H : Hp) (C : Addr) (cl : List (Str × Addr)) (fp : List Addr), PQ (X.blk s H scope (compEnvC scope cl C X.env) fp) elt f)
    (hs : ∀ x, foldedSetIterable iter X.env x = pure x := by intro _; rfl) : PN X (.ListComp elt [⟨tg, iter, ifs, 0⟩] scope pos) (qLc it g (own.map (·.2)) t f) := by
  obtain ⟨wi, p0, k0⟩ := hi
  refine ⟨_, pe_lc (g := gTv X.K (own.map (·.2)) g) (tt := tBv X.K t) (te := tEv X.K f) hc hN p0 ok (fun s H C cl fp => (hg s H C cl fp).can) (fun s H C cl fp => ht s H C cl fp) (fun s H C cl fp => (he s H C cl fp).can) hs, fun σ W ρ μ F S out hd Q q => ?_⟩
  exact lc_run k0 σ W ρ μ F S out hd Q q
end
/-! ### quiet defs -/
def spQ (K : PySem.W.Frag) (n : Nat) (run : List D → Option D) : Sp := fun vs H Q _ => ∃ (W : Wd) (ds : List D) (d : D), W.H = H ∧ W.m = [] ∧ WOk W ∧ RL K W ds vs [] ∧ dataL ds = true ∧ ds.length = n ∧ run ds = some d ∧ data d = true ∧ ∀ v W', Ext W W' → R K W' d v [] → Q v W'.H
/-- the module's def x is quiet and computes run; dd: the defaults that fill up -/
def OkQ (P : Program) (w : World) (K : PySem.W.Frag) (mg : Str → Option Value) (base : Heap) (x : Str) (k n : Nat) (dd : List D) (run : List D → Option D) : Prop :=
  ∃ (f : Addr) (fd : FuncData) (ps : List Str) (dvs : List V) (us : List Value), FnOk P w K mg base (L2.CX P w) k f fd ps (spQ K n run) ∧ Binds K fd ps us ∧ Vals dvs us ∧ (∀ W : Wd, RL K W dd dvs []) ∧ dataL dd = true ∧ mg x = some (.ref f) ∧ PySem.W.keepIn K (.ref f) = true
def qRun (n : Nat) (dd : List D) (run : List D → Option D) (k : FA) : FQ := fun ρ μ => (k ρ μ).bind fun ds => if dataL ds = true ∧ (ds ++ dd).length = n then (run (ds ++ dd)).bind fun d => if data d = true then some d else none else none
theorem dataL_app {ds es : List D} (h : dataL ds = true) (g : dataL es = true) : dataL (ds ++ es) = true := by
  rw [dataL_all] at h g ⊢
  rw [List.all_append, h, g]
  rfl
/-- into a quiet def and back: it sees nothing of what is shared -/
theorem call_back {K : PySem.W.Frag} {n : Nat} {run : List D → Option D} {W : Wd} {ds dd : List D} {vs : List V} {d : D} {Q : VK} {E : XK} (h1 : dataL ds = true) (h2 : dataL dd = true) (ok : WOk W) (r : RL K W (ds ++ dd) vs []) (hn : (ds ++ dd).length = n) (hr : run (ds ++ dd) = some d) (hd : data d = true)
    (q : ∀ v W', Ext W W' → R K W' d v [] → Q v W'.H) : spQ K n run vs W.H Q E :=
  ⟨⟨W.H, W.Fr, []⟩, ds ++ dd, d, rfl, rfl, ok, RL_m _ (dataL_app h1 h2) r, dataL_app h1 h2, hn, hr, hd, fun v W' x rv => q v ⟨W'.H, W'.Fr, W.m⟩ ⟨x.ex, x.fr, x.nf, rfl, x.ok⟩ (R_m d hd rv)⟩
section
variable {X : Cx} {e : Expr} {es : List Expr} {x : Str} {p pos : Pos} {k n : Nat} {dd : List D} {run : List D → Option D} {kf : FA}
theorem pq_call (O : OkQ X.prog X.w X.K X.mg X.base x k n dd run) (hr : Room k X.A) (ha : PAQ X (e :: es) kf) (hg : Gl X x := by rfl) (hdb : (x == ("__debug__" : Str)) = false := by decide)
    (he : starEach (e :: es) X.env = (false, eval e X.env) :: starEach es X.env := by rfl) (hpl : (backTo pos (starEach es X.env)).any (·.1) = false := by rfl) : PQ X (.Call (.Name x p) (e :: es) [] pos) (qRun n dd run kf) := by
  obtain ⟨f, fd, ps, dvs, us, hF, hb, hv, hdd, hdt, hm, hk⟩ := O
  obtain ⟨t, pt, k1⟩ := ha
  refine ⟨_, pe_call hF hr hg hm hk hb hv passL pt hdb he hpl, fun σ W ρ μ F S d hd Q q => ?_⟩
  obtain ⟨ds, e1, hd⟩ := bind_some hd
  by_cases hl : dataL ds = true ∧ (ds ++ dd).length = n
  case neg => rw [if_neg hl] at hd; cases hd
  rw [if_pos hl] at hd
  obtain ⟨d', e2, hd⟩ := bind_some hd
  by_cases hdd2 : data d' = true
  case neg => rw [if_neg hdd2] at hd; cases hd
  rw [if_pos hdd2] at hd
  cases hd
  refine k1 σ W ρ μ F S ds e1 _ fun vs W1 G1 x1 r1 => ?_
  have z := RL_data ds hl.1 r1
  subst z
  exact call_back hl.1 hdt x1.ok (RL_app r1 (hdd W1)) hl.2 e2 hdd2 fun v W2 x2 r2 => q v W2 [] (x1.trans x2) r2
theorem pq_call0 (O : OkQ X.prog X.w X.K X.mg X.base x k n dd run) (hr : Room k X.A) (hg : Gl X x := by rfl) (hdb : (x == ("__debug__" : Str)) = false := by decide) : PQ X (.Call (.Name x p) [] [] pos) (qRun n dd run aNil) := by
  obtain ⟨f, fd, ps, dvs, us, hF, hb, hv, hdd, hdt, hm, hk⟩ := O
  refine ⟨_, pe_call0 hF hr hg hm hk hb hv passL hdb, fun σ W ρ μ F S d hd Q q => ?_⟩
  obtain ⟨ds, e1, hd⟩ := bind_some hd
  cases e1
  by_cases hl : dataL ([] : List D) = true ∧ (([] : List D) ++ dd).length = n
  case neg => rw [if_neg hl] at hd; cases hd
  rw [if_pos hl] at hd
  obtain ⟨d', e2, hd⟩ := bind_some hd
  by_cases hdd2 : data d' = true
  case neg => rw [if_neg hdd2] at hd; cases hd
  rw [if_pos hdd2] at hd
  cases hd
  show spQ X.K n run ([] ++ dvs) W.H Q E0
  exact call_back (E := E0) (ds := []) rfl hdt S.ok (hdd W) hl.2 e2 hdd2 fun v W2 x2 r2 => q v W2 [] x2 r2
end
/-! ### methods of texts -/
/-- s.m(e): by the signs -/
def MtD (X : Cx) (id : String) (o : List Nat → List D → Option D) : Prop := ∃ r : V → List V → Hp → VK → Prop, MtR X id r ∧ ∀ (W : Wd) (s : List Nat) (ds : List D) (vs : List V) (G : List Addr), WOk W → RL X.K W ds vs G → ∀ d, o s ds = some d →
  ∀ Q : VK, (∀ v W' G, Ext W W' → R X.K W' d v G → Q v W'.H) → r (.str (tr s)) vs W.H Q
def qM0 (o : List Nat → List D → Option D) (f : FQ) : FQ := fun ρ μ => match f ρ μ with
  | some (.str s) => o s []
  | _ => none
def qM1 (o : List Nat → List D → Option D) (f g : FQ) : FQ := fun ρ μ => match f ρ μ with
  | some (.str s) => (g ρ μ).bind fun d => o s [d]
  | _ => none
section
variable {X : Cx} {a e : Expr} {f g : FQ} {name : Str} {apos pos : Pos} {id : String} {o : List Nat → List D → Option D}
theorem pq_m0 (h : MtD X id o) (slot : Slot "str" name id) (ty : typeOf (.builtin id) = pure (.type "method_descriptor")) (ha : PQ X a f) (hbase : attributeBase a name X.env (eval a X.env) = eval a X.env := by rfl) (hline : (apos.endLine == pos.line) = true := by rfl) : PQ X (.Call (.Attribute a name apos) [] [] pos) (qM0 o f) := by
  obtain ⟨r, hr, k2⟩ := h
  obtain ⟨t1, p1, k1⟩ := ha
  refine ⟨_, pe_m0 slot ty hr p1 hbase hline, fun σ W ρ μ F S d hd Q q => ?_⟩
  unfold qM0 at hd
  cases e1 : f ρ μ with
  | none => rw [e1] at hd; cases hd
  | some x =>
    rw [e1] at hd
    refine k1 σ W ρ μ F S x e1 _ fun v W1 G1 x1 r1 => ?_
    cases x with
    | str s =>
      obtain ⟨rfl, _⟩ := r1
      exact ⟨⟨_, rfl⟩, k2 W1 s [] [] [] x1.ok ⟨rfl, rfl⟩ d hd Q fun v W2 G x2 r2 => q v W2 G (x1.trans x2) r2⟩
    | _ => cases hd
theorem pq_m1 (h : MtD X id o) (slot : Slot "str" name id) (ty : typeOf (.builtin id) = pure (.type "method_descriptor")) (ha : PQ X a f) (he : PQ X e g) (hs : starEach [e] X.env = [(false, eval e X.env)] := by rfl) (hbase : attributeBase a name X.env (eval a X.env) = eval a X.env := by rfl) (hline : (apos.endLine == pos.line) = true := by rfl) :
    PQ X (.Call (.Attribute a name apos) [e] [] pos) (qM1 o f g) := by
  obtain ⟨r, hr, k2⟩ := h
  obtain ⟨t1, p1, k1⟩ := ha
  obtain ⟨t3, p3, k3⟩ := he
  refine ⟨_, pe_m1 slot ty hr p1 p3 hs hbase hline, fun σ W ρ μ F S d hd Q q => ?_⟩
  unfold qM1 at hd
  cases e1 : f ρ μ with
  | none => rw [e1] at hd; cases hd
  | some x =>
    rw [e1] at hd
    refine k1 σ W ρ μ F S x e1 _ fun v W1 G1 x1 r1 => ?_
    cases x with
    | str s =>
      obtain ⟨rfl, _⟩ := r1
      obtain ⟨y, e2, hd⟩ := bind_some (show (g ρ μ).bind (fun d => o s [d]) = some d from hd)
      refine ⟨⟨_, rfl⟩, k3 σ W1 ρ μ F (S.ext x1) y e2 _ fun u W2 G2 x2 r2 => ?_⟩
      exact k2 W2 s [y] [u] (G2 ++ []) x2.ok ⟨u, [], G2, [], rfl, r2, ⟨rfl, rfl⟩, rfl⟩ d hd Q fun v W3 G x3 r3 => q v W3 G ((x1.trans x2).trans x3) r3
    | _ => cases hd
/-- both texts -/
def oStr (h : List Nat → List Nat → D) : List Nat → List D → Option D
  | s, [.str t] => some (h s t)
  | _, _ => none
theorem mtd_str {h : Str → Str → V} {g : List Nat → List Nat → D} (r : MtR X id (fun x xs H Q => ∃ a b, x = .str a ∧ xs = [.str b] ∧ Q (h a b) H)) (hg : ∀ (W : Wd) s t, R X.K W (g s t) (h (tr s) (tr t)) []) : MtD X id (oStr g) := by
  refine ⟨_, r, fun W s ds vs G ok rl d hd Q q => ?_⟩
  match ds, hd with
  | [.str t], hd =>
    cases hd
    obtain ⟨v, rfl, r1⟩ := RL_one rl
    obtain ⟨rfl, _⟩ := r1
    exact ⟨tr s, tr t, rfl, rfl, q _ W [] (Ext.refl ok) (hg W s t)⟩
theorem mtd_find : MtD X "str.find" (oStr fun s t => .int (Txt.find (tr s) (tr t))) := mtd_str mt_find fun _ _ _ => ⟨rfl, rfl⟩
theorem mtd_starts : MtD X "str.startswith" (oStr fun s t => .bl (Txt.startswith (tr s) (tr t))) := mtd_str mt_startswith fun _ _ _ => ⟨rfl, rfl⟩
theorem mtd_ends : MtD X "str.endswith" (oStr fun s t => .bl (Txt.endswith (tr s) (tr t))) := mtd_str mt_endswith fun _ _ _ => ⟨rfl, rfl⟩
/-- sep.join(texts) -/
def joinLen (s : List Nat) (ts : List (List Nat)) : Nat := (ts.map (·.length)).sum + ts.length * s.length
def oJoin (s : List Nat) : List D → Option D
  | [x] => (seqD x).bind fun ds => (strsD ds).bind fun ts => if joinLen s ts ≤ LIM then some (.str (TL.joinL s ts)) else none
  | _ => none
theorem tl_tr (s : List Nat) : TL.tl (tr s) = s := rfl
theorem map_tl_tr (ts : List (List Nat)) : (ts.map tr).map TL.tl = ts := by
  rw [List.map_map]
  exact List.map_id _
theorem mtd_join : MtD X "str.join" oJoin := by
  refine ⟨_, mt_join, fun W s ds vs G ok rl d hd Q q => ?_⟩
  match ds, hd with
  | [x], hd =>
    obtain ⟨v, rfl, r1⟩ := RL_one rl
    obtain ⟨es, e1, hd⟩ := bind_some (show (seqD x).bind (fun ds => (strsD ds).bind fun ts => if joinLen s ts ≤ LIM then some (D.str (TL.joinL s ts)) else none) = some d from hd)
    obtain ⟨ts, e2, hd⟩ := bind_some hd
    by_cases hl : joinLen s ts ≤ LIM
    case neg => rw [if_neg hl] at hd; cases hd
    rw [if_pos hl] at hd
    cases hd
    obtain ⟨a, us, G', rfl, h2, h3⟩ := R_seq e1 r1
    rw [R_strs e2 h3] at h2
    refine ⟨tr s, a, ts.map tr, rfl, rfl, h2, ?_, q _ W [] (Ext.refl ok) ⟨?_, rfl⟩⟩
    · have e : ((ts.map tr).map (·.length)).sum + (ts.map tr).length * (tr s).length = joinLen s ts := by
        unfold joinLen
        rw [tr_length, List.length_map, List.map_map]
        congr 2
      rw [e]
      exact Nat.le_trans hl (by decide)
    · rw [TL.join_eq]
      refine congrArg V.str (TL.ext_tl ?_)
      rw [TL.tl_join, map_tl_tr, tl_tr, tl_tr]
end
end Fw
/-! # statements, quiet defs -/
namespace Fw
open PySem PySem.Spec PyProof.Rows L2
open Evl (Ex)
/-- how a statement ends: goes on, returns, breaks, continues, raises (the class, the fields) -/
inductive SO where
  | nx (ρ μ : List D) | rt (d : D) (ρ μ : List D) | bk (ρ μ : List D) | ct (ρ μ : List D) | ex (c : Str) (fs : List (Str × D)) (ρ μ : List D)
abbrev FS := List D → List D → Option SO
def Kept (ob : List Nat) (σ σ' : L2.St) : Prop := ∀ i ∈ ob, σ'[i]? = σ[i]?
theorem Kept.refl {ob : List Nat} {σ : L2.St} : Kept ob σ σ := fun _ _ => rfl
theorem Kept.trans {ob : List Nat} {σ σ' σ'' : L2.St} (h : Kept ob σ σ') (g : Kept ob σ' σ'') : Kept ob σ σ'' := fun i hi => (g i hi).trans (h i hi)
theorem Kept.set {ob : List Nat} {σ : L2.St} {i : Nat} {o : Option V} (h : i ∉ ob) : Kept ob σ (σ.set i o) := fun j hj => List.getElem?_set_ne (fun z => h (by rw [z]; exact hj))
/-- an exception's own fields, at its dict -/
def ExAt (K : PySem.W.Frag) (W : Wd) (fs : List (Str × D)) (dx : Option Addr) : Prop := (fs = [] ∧ dx = none) ∨ (∃ x d a v, fs = [(x, d)] ∧ dx = some a ∧ W.H a = some (.xd [(x, v)]) ∧ R K W d v [])
def Goes (K : PySem.W.Frag) (ob : List Nat) (Wx : WX) (E : Ends) (σ : L2.St) (W : Wd) (F : List Addr) : SO → Prop
  | .nx ρ' μ' => ∀ σ' W' F', Sta K W' σ' ρ' μ' F' → Mv W W' F F' → Kept ob σ σ' → E.nx σ' W'.H
  | .bk ρ' μ' => ∀ σ' W' F', Sta K W' σ' ρ' μ' F' → Mv W W' F F' → Kept ob σ σ' → E.bk σ' W'.H
  | .ct ρ' μ' => ∀ σ' W' F', Sta K W' σ' ρ' μ' F' → Mv W W' F F' → Kept ob σ σ' → E.ct σ' W'.H
  | .rt d ρ' μ' => ∀ v σ' W' G F', R K W' d v G → Sta K W' σ' ρ' μ' F' → (G ++ F').Nodup → (∀ a ∈ G, Own W' a) → Mv W W' F (G ++ F') → Kept ob σ σ' → E.rt v W'.H
  | .ex c fs ρ' μ' => ∀ dx σ' W' F', ExAt K W' fs dx → Sta K W' σ' ρ' μ' F' → Mv W W' F F' → Kept ob σ σ' → Wx (.ref (He.ga K c)) dx σ' W'.H
def PS1 (X : Cx) (ob : List Nat) (Wx : WX) (st : Stmt) (f : FS) : Prop := ∃ ts : TS, PS X st ts ∧ ∀ (E : Ends) (σ : L2.St) (W : Wd) (ρ μ : List D) (F : List Addr), Sta X.K W σ ρ μ F → ∀ o, f ρ μ = some o → Goes X.K ob Wx E σ W F o → ts E σ W.H
def PSS (X : Cx) (ob : List Nat) (Wx : WX) (ss : List Stmt) (f : FS) : Prop := ∃ ts : TS, PSs X ss ts ∧ ∀ (E : Ends) (σ : L2.St) (W : Wd) (ρ μ : List D) (F : List Addr), Sta X.K W σ ρ μ F → ∀ o, f ρ μ = some o → Goes X.K ob Wx E σ W F o → ts E σ W.H
/-- from a later point, what was wanted at the earlier one -/
theorem Goes.after {K : PySem.W.Frag} {ob : List Nat} {Wx : WX} {E : Ends} {σ σ1 : L2.St} {W W1 : Wd} {F F1 : List Addr} {o : SO} (h : Goes K ob Wx E σ W F o) (m : Mv W W1 F F1) (kp : Kept ob σ σ1) : Goes K ob Wx E σ1 W1 F1 o := by
  cases o with
  | nx ρ' μ' => exact fun σ' W' F' S mv kp' => h σ' W' F' S (m.trans mv) (kp.trans kp')
  | bk ρ' μ' => exact fun σ' W' F' S mv kp' => h σ' W' F' S (m.trans mv) (kp.trans kp')
  | ct ρ' μ' => exact fun σ' W' F' S mv kp' => h σ' W' F' S (m.trans mv) (kp.trans kp')
  | rt d ρ' μ' => exact fun v σ' W' G F' r S nd own mv kp' => h v σ' W' G F' r S nd own (m.trans mv) (kp.trans kp')
  | ex c fs ρ' μ' => exact fun dx σ' W' F' r S mv kp' => h dx σ' W' F' r S (m.trans mv) (kp.trans kp')
theorem Ext.mvr {W W' : Wd} {F : List Addr} (e : Ext W W') : Mv W W' F F := e.mv fun _ h => h
section
variable {X : Cx} {ob : List Nat} {Wx : WX} {st : Stmt} {rest ss ss' : List Stmt} {f g : FS} {e a : Expr} {q q' : FQ} {t : FB} {pos : Pos}
/-! ### one behind the other -/
def fNext : FS := fun ρ μ => some (.nx ρ μ)
def fSeq (f g : FS) : FS := fun ρ μ => (f ρ μ).bind fun o => match o with
  | .nx ρ' μ' => g ρ' μ'
  | o => some o
theorem pss_nil' : PSS X ob Wx [] fNext := ⟨_, pss_nil, fun E σ W ρ μ F S o ho h => by
  cases ho
  exact h σ W F S (Ext.refl S.ok).mvr Kept.refl⟩
theorem seq_run {t u : TS} (k1 : ∀ (E : Ends) (σ : L2.St) (W : Wd) (ρ μ : List D) (F : List Addr), Sta X.K W σ ρ μ F → ∀ o, f ρ μ = some o → Goes X.K ob Wx E σ W F o → t E σ W.H)
    (k2 : ∀ (E : Ends) (σ : L2.St) (W : Wd) (ρ μ : List D) (F : List Addr), Sta X.K W σ ρ μ F → ∀ o, g ρ μ = some o → Goes X.K ob Wx E σ W F o → u E σ W.H)
    (E : Ends) (σ : L2.St) (W : Wd) (ρ μ : List D) (F : List Addr) (S : Sta X.K W σ ρ μ F) (o : SO) (ho : fSeq f g ρ μ = some o) (h : Goes X.K ob Wx E σ W F o) : tSeq t u E σ W.H := by
  obtain ⟨o1, e1, ho⟩ := bind_some ho
  refine k1 { E with nx := u E } σ W ρ μ F S o1 e1 ?_
  cases o1 with
  | nx ρ1 μ1 => exact fun σ1 W1 F1 S1 m1 kp => k2 E σ1 W1 ρ1 μ1 F1 S1 o ho (h.after m1 kp)
  | _ =>
    cases ho
    exact h
theorem pss_cons' (h1 : PS1 X ob Wx st f) (h2 : PSS X ob Wx rest g) : PSS X ob Wx (st :: rest) (fSeq f g) := by
  obtain ⟨t1, p1, k1⟩ := h1
  obtain ⟨t2, p2, k2⟩ := h2
  exact ⟨_, pss_cons p1 p2, seq_run k1 k2⟩
theorem pss_one' (h1 : PS1 X ob Wx st f) : PSS X ob Wx [st] f := by
  obtain ⟨t1, p1, k1⟩ := h1
  exact ⟨_, pss_one p1, k1⟩
theorem ps1_pass : PS1 X ob Wx (.Pass pos) fNext := ⟨_, ps_pass, fun E σ W ρ μ F S o ho h => by
  cases ho
  exact h σ W F S (Ext.refl S.ok).mvr Kept.refl⟩
/-! ### a name is set -/
def fSet (i : Nat) (q : FQ) : FS := fun ρ μ => (q ρ μ).bind fun d => if data d = true then some (.nx (ρ.set i d) μ) else none
theorem set_run {te : TE} {i : Nat} (k1 : ∀ (σ : L2.St) (W : Wd) (ρ μ : List D) (F : List Addr), Sta X.K W σ ρ μ F → ∀ d, q ρ μ = some d → ∀ Q : VK, (∀ v W' G, Ext W W' → R X.K W' d v G → Q v W'.H) → te σ W.H Q) (hi : i ∉ ob)
    (E : Ends) (σ : L2.St) (W : Wd) (ρ μ : List D) (F : List Addr) (S : Sta X.K W σ ρ μ F) (o : SO) (ho : fSet i q ρ μ = some o) (h : Goes X.K ob Wx E σ W F o) : tAsg te (gName i) E σ W.H := by
  obtain ⟨d, e1, ho⟩ := bind_some ho
  by_cases hd : data d = true
  case neg => rw [if_neg hd] at ho; cases ho
  rw [if_pos hd] at ho
  cases ho
  refine k1 σ W ρ μ F S d e1 _ fun v W1 G x1 r1 => ?_
  have z := R_data d hd r1
  subst z
  obtain ⟨F', S', sub⟩ := (S.ext x1).set (i := i) (R1_of r1)
  exact h _ W1 F' S' (x1.mv sub) (Kept.set hi)
theorem ps1_set {i : Nat} {x : Str} {pos' : Pos} (hN : X.N.Nodup) (hi : X.N[i]? = some x) (hx : Loc X.env.scope x) (he : PQ X e q) (hs : swapsWith e (some (.Name x pos')) pos.line X.env = pure false := by rfl) (hf : X.fn x = true ∨ X.env.scope.names.lookup x = some .local := by first | exact .inl rfl | exact .inr rfl) (ho : i ∉ ob := by decide) :
    PS1 X ob Wx (.Assign [.Name x pos'] e pos) (fSet i q) := by
  obtain ⟨te, p, k⟩ := he
  exact ⟨_, ps_set hN hi hx p hs hf, set_run k ho⟩
/-- a name gets a new list, its own -/
def fSetN (i : Nat) (k : FA) : FS := fun ρ μ => (k ρ μ).map fun ds => .nx (ρ.set i (.ml ds)) μ
theorem Sta.setN {K : PySem.W.Frag} {W W' : Wd} {σ : L2.St} {ρ μ ds : List D} {F : List Addr} {i : Nat} {p : Addr} (S : Sta K W σ ρ μ F) (n : NewL K W W' ds p) : ∃ F', Sta K W' (σ.set i (some (.ref p))) (ρ.set i (.ml ds)) μ F' ∧ Mv W W' F F' := by
  obtain ⟨x, new, nofr, vs, h1, h2⟩ := n
  have S1 := S.ext x
  obtain ⟨⟨F1, F2, q1, q2, q3⟩, nd, own, ok⟩ := S1
  have r : R K W' (.ml ds) (.ref p) [p] := ⟨p, vs, [], rfl, h1, h2, rfl⟩
  have pF : p ∉ F := fun z => by
    obtain ⟨_, w⟩ := S.own p z
    rcases w with ⟨xs, w⟩ | ⟨C, dx, fs, w⟩ <;> rw [new] at w <;> cases w
  by_cases hi : i < ρ.length
  · obtain ⟨A, B, C, e1, e2⟩ := RS_set (R1_of r) q1 hi
    have sub : (A ++ C ++ F2).Sublist F := by
      rw [q3, e1]
      exact List.Sublist.append (List.Sublist.append (List.Sublist.refl A) (List.sublist_append_right B C)) (List.Sublist.refl F2)
    have pm : (A ++ ([p] ++ C) ++ F2).Perm (p :: (A ++ C ++ F2)) := by
      rw [List.append_assoc, List.append_assoc, List.append_assoc]
      exact List.perm_middle
    refine ⟨A ++ ([p] ++ C) ++ F2, ⟨⟨_, F2, e2, q2, rfl⟩, pm.nodup_iff.mpr (List.nodup_cons.mpr ⟨fun z => pF (sub.subset z), nd.sublist sub⟩), fun a ha => ?_, ok⟩, ⟨fun a o h _ => x.ex a o h, x.fr, fun a h => (x.nf a h).elim .inl fun z => .inr (.inl z), fun a ha => ?_, ⟨[], by rw [x.m, List.append_nil]⟩⟩⟩
    · rcases List.mem_cons.mp (pm.mem_iff.mp ha) with z | z
      · subst z
        exact ⟨nofr, .inl ⟨vs, h1⟩⟩
      · exact own a (sub.subset z)
    · rcases List.mem_cons.mp (pm.mem_iff.mp ha) with z | z
      · subst z
        exact .inr new
      · exact .inl (sub.subset z)
  · have hl := RS_len q1
    rw [List.set_eq_of_length_le (by omega), List.set_eq_of_length_le (by omega)]
    exact ⟨F, ⟨⟨F1, F2, q1, q2, q3⟩, nd, own, ok⟩, x.mvr⟩
theorem setN_run {te : TE} {i : Nat} {k : FA} (k1 : ∀ (σ : L2.St) (W : Wd) (ρ μ : List D) (F : List Addr), Sta X.K W σ ρ μ F → ∀ ds, k ρ μ = some ds → ∀ Q : VK, (∀ p W', NewL X.K W W' ds p → Q (.ref p) W'.H) → te σ W.H Q) (hi : i ∉ ob)
    (E : Ends) (σ : L2.St) (W : Wd) (ρ μ : List D) (F : List Addr) (S : Sta X.K W σ ρ μ F) (o : SO) (ho : fSetN i k ρ μ = some o) (h : Goes X.K ob Wx E σ W F o) : tAsg te (gName i) E σ W.H := by
  obtain ⟨ds, e1, z⟩ := map_some ho
  subst z
  refine k1 σ W ρ μ F S ds e1 _ fun p W1 n => ?_
  obtain ⟨F', S', m⟩ := S.setN (i := i) n
  exact h _ W1 F' S' m (Kept.set hi)
theorem ps1_setN {i : Nat} {x : Str} {pos' : Pos} {k : FA} (hN : X.N.Nodup) (hi : X.N[i]? = some x) (hx : Loc X.env.scope x) (he : PN X e k) (hs : swapsWith e (some (.Name x pos')) pos.line X.env = pure false := by rfl) (hf : X.fn x = true ∨ X.env.scope.names.lookup x = some .local := by first | exact .inl rfl | exact .inr rfl) (ho : i ∉ ob := by decide) :
    PS1 X ob Wx (.Assign [.Name x pos'] e pos) (fSetN i k) := by
  obtain ⟨te, p, k1⟩ := he
  exact ⟨_, ps_set hN hi hx p hs hf, setN_run k1 ho⟩
/-- y = [.. for ..] on one line: the list is the name's own, or stands still at once -/
theorem ps1_setLc {i : Nat} {y : Str} {py : Pos} {elt tg iter : Expr} {ifs : List Expr} {scope : Scope} {own : List (Str × Nat)} {spos : Pos} {it : FA} {g : D → List D → Option (List D)} {t : FB} {q : FQ} (hc : X.calm = true) (hN : X.N.Nodup) (hy : X.N[i]? = some y) (hyl : X.env.scope.names.lookup y = some .local)
    (hsw : swapsWith (.ListComp elt [⟨tg, iter, ifs, 0⟩] scope pos) (some (.Name y py)) spos.line X.env = pure true) (hi : PIQ X tg iter it) (ok : BlkOk X.N X.env.scope scope own)
    (hg : ∀ (s : Shared) (H : Hp) (C : Addr) (cl : List (Str × Addr)) (fp : List Addr), PGD (X.blk s H scope (compEnvC scope cl C X.env) fp) tg (own.map (·.2)) g)
    (ht : ∀ (s : Shared) (H : Hp) (C : Addr) (cl : List (Str × Addr)) (fp : List Addr), PTsB (X.blk s H scope (compEnvC scope cl C X.env) fp) ifs t)
    (he : ∀ (s : Shared) (H : Hp) (C : Addr) (cl : List (Str × Addr)) (fp : List Addr), PQ (X.blk s H scope (compEnvC scope cl C X.env) fp) elt q)
    (hs : ∀ x, foldedSetIterable iter X.env x = pure x := by intro _; rfl) (ho : i ∉ ob := by decide) : PS1 X ob Wx (.Assign [.Name y py] (.ListComp elt [⟨tg, iter, ifs, 0⟩] scope pos) spos) (fSetN i (qLc it g (own.map (·.2)) t q)) := by
  obtain ⟨wi, p0, k0⟩ := hi
  exact ⟨_, ps_setLc (g := gTv X.K (own.map (·.2)) g) (tt := tBv X.K t) (te := tEv X.K q) hc hN hy hyl hsw p0 ok (fun s H C cl fp => (hg s H C cl fp).can) (fun s H C cl fp => ht s H C cl fp) (fun s H C cl fp => (he s H C cl fp).can) hs,
    setN_run (fun σ W ρ μ F S out hd Q q => lc_run k0 σ W ρ μ F S out hd Q q) ho⟩
/-! ### an own list that nobody will change any more -/
def fzAt (i : Nat) (ρ : List D) : List D := match ρ[i]? with
  | some (.ml ds) => if dataL ds = true then ρ.set i (.lst ds) else ρ
  | _ => ρ
def fFz (i : Nat) (f : FS) : FS := fun ρ μ => f (fzAt i ρ) μ
theorem RS_set' {K : PySem.W.Frag} {W W' : Wd} {d' : D} {i : Nat} : ∀ {ρ : List D} {σ : List (Option V)} {F : List Addr} {j : Nat} {d : D}, RS K W ρ σ F → ρ[j]? = some d → d ≠ .un → ∃ v A B C, σ[j]? = some (some v) ∧ F = A ++ (B ++ C) ∧ R K W d v B ∧
    ∀ (G : List Addr), R K W d' v G → RS K W (ρ.set j d') σ (A ++ (G ++ C))
  | [], _, _, j, _, _, h, _ => by simp at h
  | d0 :: ρ, _, _, 0, d, h, h1, h2 => by
    obtain ⟨o, σ', F1, F2, e1, e2, e3, e4⟩ := h
    have e : d0 = d := Option.some.inj h1
    subst e
    rw [R1_iff] at e2
    rcases e2 with ⟨q, _⟩ | ⟨v, q1, q2⟩
    · exact absurd q h2
    · subst q1
      exact ⟨v, [], F1, F2, by rw [e1]; rfl, e4, q2, fun G r => ⟨some v, σ', G, F2, e1, R1_of r, e3, rfl⟩⟩
  | d0 :: ρ, _, _, j + 1, d, h, h1, h2 => by
    obtain ⟨o, σ', F1, F2, e1, e2, e3, e4⟩ := h
    obtain ⟨v, A, B, C, q1, q2, q3, q4⟩ := RS_set' (W' := W) (d' := d') (i := i) (j := j) e3 (by simpa using h1) h2
    refine ⟨v, F1 ++ A, B, C, by rw [e1]; simpa using q1, by rw [e4, q2, List.append_assoc], q3, fun G r => ?_⟩
    exact ⟨o, σ', F1, A ++ (G ++ C), e1, e2, q4 G r, by rw [List.append_assoc]⟩
theorem Sta.fz {K : PySem.W.Frag} {W : Wd} {σ : L2.St} {ρ μ : List D} {F : List Addr} (i : Nat) (S : Sta K W σ ρ μ F) : ∃ W' F', W'.H = W.H ∧ Sta K W' σ (fzAt i ρ) μ F' ∧ Mv W W' F F' := by
  have none_ : ∃ W' F', W'.H = W.H ∧ Sta K W' σ ρ μ F' ∧ Mv W W' F F' := ⟨W, F, rfl, S, (Ext.refl S.ok).mvr⟩
  unfold fzAt
  split
  case h_2 => exact none_
  case h_1 ds heq =>
    by_cases hd : dataL ds = true
    case neg => rw [if_neg hd]; exact none_
    rw [if_pos hd]
    obtain ⟨⟨F1, F2, h1, h2, h3⟩, nd, own, ok⟩ := S
    have look : ∀ (W' : Wd), ∃ v A B C, σ[i]? = some (some v) ∧ F1 = A ++ (B ++ C) ∧ R K W (.ml ds) v B ∧ True := fun _ => by
      obtain ⟨v, A, B, C, q1, q2, q3, _⟩ := RS_set' (W' := W) (d' := .non) (i := i) (j := i) h1 heq (fun z => nomatch z)
      exact ⟨v, A, B, C, q1, q2, q3, trivial⟩
    obtain ⟨v, A, B, C, q1, q2, ⟨a, vs, F', rfl, hH, hR, hB⟩, _⟩ := look W
    have z := RL_data ds hd hR
    subst z
    subst hB
    have aF : a ∈ F := by
      rw [h3, q2]
      simp
    -- the world where a stands still
    have lt : Lt W ⟨W.H, fun b => W.Fr b ∨ b = a, W.m⟩ := ⟨fun _ _ z => z, fun _ _ z => ⟨z.1, Or.inl z.2⟩, fun _ _ _ _ z z' => ⟨z, Or.inl z'⟩, fun _ _ z => z⟩
    have same : ∀ (d : D) (v : V) (G : List Addr), R K W d v G → R K ⟨W.H, fun b => W.Fr b ∨ b = a, W.m⟩ d v G := fun d v G r => R_same lt rfl d r
    have h1' : RS K ⟨W.H, fun b => W.Fr b ∨ b = a, W.m⟩ ρ σ F1 := RS_same lt rfl h1
    obtain ⟨v', A', B', C', p1, p2, p3, p4⟩ := RS_set' (W' := W) (d' := .lst ds) (i := i) (j := i) h1' heq (fun z => nomatch z)
    rw [q1] at p1
    cases p1
    obtain ⟨a', vs', F'', e1, e2, e3, e4⟩ := p3
    cases e1
    have z2 := RL_data ds hd e3
    subst z2
    subst e4
    have r2 : R K ⟨W.H, fun b => W.Fr b ∨ b = a, W.m⟩ (.lst ds) (.ref a) [] := ⟨a, vs', rfl, Or.inl ⟨Or.inl e2, Or.inr rfl⟩, e3, rfl⟩
    have p5 := p4 [] r2
    have sub : (A' ++ ([] ++ C') ++ F2).Sublist F := by
      rw [h3, p2]
      exact List.Sublist.append (List.Sublist.append (List.Sublist.refl A') (List.Sublist.append (List.nil_sublist _) (List.Sublist.refl C'))) (List.Sublist.refl F2)
    have na : a ∉ A' ++ ([] ++ C') ++ F2 := fun z => by
      rw [h3, p2] at nd
      have pm : (A' ++ ([a] ++ C') ++ F2).Perm (a :: (A' ++ C' ++ F2)) := by
        rw [List.append_assoc, List.append_assoc, List.append_assoc]
        exact List.perm_middle
      have nd2 := pm.nodup_iff.mp nd
      rw [List.nil_append] at z
      exact (List.nodup_cons.mp nd2).1 z
    refine ⟨⟨W.H, fun b => W.Fr b ∨ b = a, W.m⟩, _, rfl, ⟨⟨_, F2, p5, RL_same lt rfl μ h2, rfl⟩, nd.sublist sub, fun b hb => ?_, fun b hb => ?_⟩, ⟨fun b o h _ => h, fun b h => .inl h, fun b h => ?_, fun b hb => .inl (sub.subset hb), ⟨[], (List.append_nil _).symm⟩⟩⟩
    · obtain ⟨w1, w2⟩ := own b (sub.subset hb)
      exact ⟨fun z => z.elim w1 fun z => na (z ▸ hb), w2⟩
    · rcases hb with hb | hb
      · exact ok b hb
      · show W.H b ≠ none
        rw [hb, hH]
        exact fun z => nomatch z
    · rcases h with h | h
      · exact .inl h
      · exact .inr (.inr (by rw [h]; exact aF))
theorem pss_fz (i : Nat) (h : PSS X ob Wx ss f) : PSS X ob Wx ss (fFz i f) := by
  obtain ⟨t1, p1, k1⟩ := h
  refine ⟨_, p1, fun E σ W ρ μ F S o ho h => ?_⟩
  obtain ⟨W', F', e, S', m⟩ := S.fz i
  have z := k1 E σ W' _ μ F' S' o ho (h.after m Kept.refl)
  rw [e] at z
  exact z
theorem ps1_fz (i : Nat) (h : PS1 X ob Wx st f) : PS1 X ob Wx st (fFz i f) := by
  obtain ⟨t1, p1, k1⟩ := h
  refine ⟨_, p1, fun E σ W ρ μ F S o ho h => ?_⟩
  obtain ⟨W', F', e, S', m⟩ := S.fz i
  have z := k1 E σ W' _ μ F' S' o ho (h.after m Kept.refl)
  rw [e] at z
  exact z
end
end Fw
/-! # more statements; a def as a whole -/
namespace Fw
open PySem PySem.Spec PyProof.Rows L2
open Evl (Ex)
/-! ### a change at one's own places -/
section
variable {K : PySem.W.Frag} {W W' : Wd}
mutual
theorem R_keep (e : Lt W W') : ∀ (d : D) {v : V} {F : List Addr}, (∀ b ∈ F, W'.H b = W.H b) → R K W d v F → R K W' d v F
  | .non, _, _, _, h => h
  | .bl _, _, _, _, h => h
  | .int _, _, _, _, h => h
  | .str _, _, _, _, h => h
  | .tup ds, _, _, k, h => by
    obtain ⟨a, vs, h1, h2, h3⟩ := h
    exact ⟨a, vs, h1, e.sqT h2, RL_keep e ds k h3⟩
  | .lst ds, _, _, k, h => by
    obtain ⟨a, vs, h1, h2, h3, h4⟩ := h
    exact ⟨a, vs, h1, h2.lt e, RL_keep e ds (fun b hb => nomatch hb) h3, h4⟩
  | .ml ds, _, _, k, h => by
    obtain ⟨a, vs, F', h1, h2, h3, h4⟩ := h
    subst h4
    exact ⟨a, vs, F', h1, by rw [k a (List.mem_cons_self ..)]; exact h2, RL_keep e ds (fun b hb => k b (List.mem_cons_of_mem _ hb)) h3, rfl⟩
  | .obj c ns ds, _, _, k, h => by
    obtain ⟨a, dx, vs, F', h1, h2, h3, h4, h5⟩ := h
    subst h5
    exact ⟨a, dx, vs, F', h1, by rw [k a (List.mem_cons_self ..)]; exact h2, h3, RL_keep e ds (fun b hb => k b (List.mem_cons_of_mem _ hb)) h4, rfl⟩
  | .fo c ns ds, _, _, k, h => by
    obtain ⟨a, dx, vs, h1, h2, h3, h4, h5, h6⟩ := h
    obtain ⟨q1, q2⟩ := e.fi _ _ _ _ h2 h3
    exact ⟨a, dx, vs, h1, q1, q2, h4, RL_keep e ds (fun b hb => nomatch hb) h5, h6⟩
  | .ref k', _, _, k, h => by
    obtain ⟨a, h1, h2, h3⟩ := h
    exact ⟨a, h1, e.m _ _ h2, h3⟩
  | .un, _, _, _, h => h.elim
theorem RL_keep (e : Lt W W') : ∀ (ds : List D) {vs : List V} {F : List Addr}, (∀ b ∈ F, W'.H b = W.H b) → RL K W ds vs F → RL K W' ds vs F
  | [], _, _, _, h => h
  | d :: ds, _, _, k, h => by
    obtain ⟨v, vs', F1, F2, h1, h2, h3, h4⟩ := h
    subst h4
    exact ⟨v, vs', F1, F2, h1, R_keep e d (fun b hb => k b (List.mem_append_left _ hb)) h2, RL_keep e ds (fun b hb => k b (List.mem_append_right _ hb)) h3, rfl⟩
end
theorem R1_keep (e : Lt W W') {d : D} {o : Option V} {F : List Addr} (k : ∀ b ∈ F, W'.H b = W.H b) (h : R1 K W d o F) : R1 K W' d o F := by
  rw [R1_iff] at h ⊢
  rcases h with h | ⟨v, h1, h2⟩
  · exact .inl h
  · exact .inr ⟨v, h1, R_keep e d k h2⟩
theorem RS_keep (e : Lt W W') : ∀ {ds : List D} {σ : List (Option V)} {F : List Addr}, (∀ b ∈ F, W'.H b = W.H b) → RS K W ds σ F → RS K W' ds σ F
  | [], _, _, _, h => h
  | d :: ds, _, _, k, h => by
    obtain ⟨o, σ', F1, F2, h1, h2, h3, h4⟩ := h
    subst h4
    exact ⟨o, σ', F1, F2, h1, R1_keep e (fun b hb => k b (List.mem_append_left _ hb)) h2, RS_keep e (fun b hb => k b (List.mem_append_right _ hb)) h3, rfl⟩
/-- one slot seen apart from the others -/
theorem RS_lens : ∀ {ρ : List D} {σ : List (Option V)} {F : List Addr} {j : Nat} {d : D}, RS K W ρ σ F → ρ[j]? = some d → d ≠ .un → ∃ v A B C, σ[j]? = some (some v) ∧ F = A ++ (B ++ C) ∧ R K W d v B ∧
    ∀ (W' : Wd) (d' : D) (G : List Addr), Lt W W' → (∀ b ∈ A ++ C, W'.H b = W.H b) → R K W' d' v G → RS K W' (ρ.set j d') σ (A ++ (G ++ C))
  | [], _, _, j, _, _, h, _ => by simp at h
  | d0 :: ρ, _, _, 0, d, h, h1, h2 => by
    obtain ⟨o, σ', F1, F2, e1, e2, e3, e4⟩ := h
    have e : d0 = d := Option.some.inj h1
    subst e
    rw [R1_iff] at e2
    rcases e2 with ⟨q, _⟩ | ⟨v, q1, q2⟩
    · exact absurd q h2
    · subst q1
      exact ⟨v, [], F1, F2, by rw [e1]; rfl, e4, q2, fun W' d' G lt k r => ⟨some v, σ', G, F2, e1, R1_of r, RS_keep lt (fun b hb => k b hb) e3, rfl⟩⟩
  | d0 :: ρ, _, _, j + 1, d, h, h1, h2 => by
    obtain ⟨o, σ', F1, F2, e1, e2, e3, e4⟩ := h
    obtain ⟨v, A, B, C, q1, q2, q3, q4⟩ := RS_lens (j := j) e3 (by simpa using h1) h2
    refine ⟨v, F1 ++ A, B, C, by rw [e1]; simpa using q1, by rw [e4, q2, List.append_assoc], q3, fun W' d' G lt k r => ?_⟩
    refine ⟨o, σ', F1, A ++ (G ++ C), e1, R1_keep lt (fun b hb => k b ?_) e2, q4 W' d' G lt (fun b hb => k b ?_) r, by rw [List.append_assoc]⟩
    · exact List.mem_append_left _ (List.mem_append_left _ hb)
    · rcases List.mem_append.mp hb with z | z
      · exact List.mem_append_left _ (List.mem_append_right _ z)
      · exact List.mem_append_right _ z
end
section
variable {X : Cx} {ob : List Nat} {Wx : WX} {st : Stmt} {rest ss ss' : List Stmt} {f g : FS} {e a : Expr} {q q' : FQ} {t : FB} {pos : Pos}
/-! ### if, return -/
def fIf (t : FB) (f g : FS) : FS := fun ρ μ => (t ρ μ).bind fun b => if b = true then f ρ μ else g ρ μ
theorem ps1_if (hc : PB X e t) (ha : PSS X ob Wx ss f) (hb : PSS X ob Wx ss' g) : PS1 X ob Wx (.If e ss ss' pos) (fIf t f g) := by
  obtain ⟨t0, p0, k0⟩ := hc
  obtain ⟨t1, p1, k1⟩ := ha
  obtain ⟨t2, p2, k2⟩ := hb
  refine ⟨_, ps_if p0 p1 p2, fun E σ W ρ μ F S o ho h => ?_⟩
  obtain ⟨b, e1, ho⟩ := bind_some ho
  refine k0 σ W ρ μ F S b e1 _ fun W1 x1 => ?_
  cases b with
  | true =>
    rw [if_pos rfl] at ho ⊢
    exact k1 E σ W1 ρ μ F (S.ext x1) o ho (h.after x1.mvr Kept.refl)
  | false =>
    rw [if_neg Bool.false_ne_true] at ho ⊢
    exact k2 E σ W1 ρ μ F (S.ext x1) o ho (h.after x1.mvr Kept.refl)
def fRet (q : FQ) : FS := fun ρ μ => (q ρ μ).bind fun d => if data d = true then some (.rt d ρ μ) else none
theorem ps1_ret (he : PQ X e q) : PS1 X ob Wx (.Return (some e) pos) (fRet q) := by
  obtain ⟨te, p, k⟩ := he
  refine ⟨_, ps_ret p, fun E σ W ρ μ F S o ho h => ?_⟩
  obtain ⟨d, e1, ho⟩ := bind_some ho
  by_cases hd : data d = true
  case neg => rw [if_neg hd] at ho; cases ho
  rw [if_pos hd] at ho
  cases ho
  refine k σ W ρ μ F S d e1 _ fun v W1 G x1 r1 => ?_
  have z := R_data d hd r1
  subst z
  exact h v σ W1 [] F r1 (S.ext x1) S.nd (fun _ hb => nomatch hb) x1.mvr Kept.refl
def fRetN : FS := fun ρ μ => some (.rt .non ρ μ)
theorem ps1_retN : PS1 X ob Wx (.Return none pos) fRetN := ⟨_, ps_retN, fun E σ W ρ μ F S o ho h => by
  cases ho
  exact h .non σ W [] F ⟨rfl, rfl⟩ S S.nd (fun _ hb => nomatch hb) (Ext.refl S.ok).mvr Kept.refl⟩
/-! ### for -/
def forL (g : D → List D → Option (List D)) (b : FS) : List D → List D → List D → Option SO
  | ρ, μ, [] => some (.nx ρ μ)
  | ρ, μ, d :: ds => (g d ρ).bind fun ρ1 => (b ρ1 μ).bind fun o => match o with
    | .nx ρ2 μ2 => forL g b ρ2 μ2 ds
    | .ct ρ2 μ2 => forL g b ρ2 μ2 ds
    | .bk ρ2 μ2 => some (.nx ρ2 μ2)
    | o => some o
def fFor (it : FA) (g : D → List D → Option (List D)) (b : FS) : FS := fun ρ μ => (it ρ μ).bind fun ds => forL g b ρ μ ds
theorem wipe_other : ∀ {vs : List Nat} {σ : L2.St} {i : Nat}, i ∉ vs → (wipe σ vs)[i]? = σ[i]?
  | [], _, _, _ => rfl
  | v :: vs, σ, i, h => by
    show ((wipe σ vs).set v none)[i]? = σ[i]?
    rw [List.getElem?_set_ne (fun z => h (by rw [z]; exact List.mem_cons_self ..)), wipe_other fun z => h (List.mem_cons_of_mem _ z)]
theorem Kept.of_wipe {vs : List Nat} {σ σ' : L2.St} (h : wipe σ' vs = wipe σ vs) (d : ∀ i ∈ ob, i ∉ vs) : Kept ob σ σ' := fun i hi => by
  rw [← wipe_other (d i hi) (σ := σ'), h, wipe_other (d i hi)]
theorem ps1_for {tg iter : Expr} {body : List Stmt} {vs : List Nat} {it : FA} {gt : D → List D → Option (List D)} {b : FS} (hp : PassesOwn (model X.prog X.w) X.A X.env X.xe) (hc : X.calm = true) (hi : PIF X tg iter it) (hg : PGD X tg vs gt) (hb : PSS X ob Wx body b)
    (hs : ∀ x, foldedSetIterable iter X.env x = pure x := by intro _; rfl) (hv : ∀ i ∈ ob, i ∉ vs := by decide) : PS1 X ob Wx (.For tg iter body [] pos) (fFor it gt b) := by
  obtain ⟨wi, p0, k0⟩ := hi
  obtain ⟨tgt, p1, k1⟩ := hg
  obtain ⟨tb, p2, k2⟩ := hb
  refine ⟨_, ps_for hp hc p0 p1 p2 hs, fun E σ W ρ μ F S o ho h => ?_⟩
  obtain ⟨ds, e1, ho⟩ := bind_some ho
  refine k0 σ W ρ μ F S ds e1 _ fun J W1 x1 itd => ?_
  have S1 := S.ext x1
  refine ⟨fun i m σ2 H => m = ds.length - i ∧ i ≤ ds.length ∧ ∃ (W2 : Wd) (ρ2 μ2 : List D) (F2 : List Addr), W2.H = H ∧ Sta X.K W2 σ2 ρ2 μ2 F2 ∧ Mv W1 W2 F F2 ∧ Kept ob σ σ2 ∧ forL gt b ρ2 μ2 (ds.drop i) = some o, ⟨_, rfl, Nat.zero_le _, W1, ρ, μ, F, rfl, S1, (Ext.refl x1.ok).mvr, Kept.refl, ho⟩, ?_⟩
  rintro i m σ2 H ⟨rfl, hil, W2, ρ2, μ2, F2, rfl, S2, mv2, kp2, ho2⟩
  have lt2 := mv2.lt S1.own
  have h2 := h.after (x1.mvr.trans mv2) kp2
  by_cases hlt : i < ds.length
  · refine .inr ⟨itd.go i W2 lt2 hlt, ?_⟩
    have ed : ds.drop i = ds[i] :: ds.drop (i + 1) := List.drop_eq_getElem_cons hlt
    rw [ed] at ho2
    obtain ⟨ρ', e2, ho2⟩ := bind_some (show (gt ds[i] ρ2).bind _ = some o from ho2)
    obtain ⟨o1, e3, ho2⟩ := bind_some ho2
    refine ⟨fun σ3 H3 => i + 1 ≤ ds.length ∧ ∃ (W2 : Wd) (ρ2 μ2 : List D) (F2 : List Addr), W2.H = H3 ∧ Sta X.K W2 σ3 ρ2 μ2 F2 ∧ Mv W1 W2 F F2 ∧ Kept ob σ σ3 ∧ forL gt b ρ2 μ2 (ds.drop (i + 1)) = some o,
      fun σ3 H3 n => ⟨ds.length - (i + 1), by omega, rfl, n⟩, fun x H' hy => ?_⟩
    obtain ⟨W3, d, hW3, hd3, x3, r3⟩ := itd.yl i W2 x H' lt2 S2.ok hlt hy
    subst hW3
    rw [List.getElem?_eq_getElem hlt] at hd3
    cases hd3
    refine k1 σ2 W3 ρ2 μ2 F2 ds[i] x (S2.ext x3) r3 ρ' e2 _ fun σ3 F3 S3 sub hw => ?_
    have kp3 : Kept ob σ2 σ3 := Kept.of_wipe hw hv
    have mv3 : Mv W2 W3 F2 F3 := x3.mv sub
    refine k2 _ σ3 W3 ρ' μ2 F3 S3 o1 e3 ?_
    cases o1 with
    | nx ρ4 μ4 => exact fun σ4 W4 F4 S4 mv4 kp4 => ⟨by omega, W4, ρ4, μ4, F4, rfl, S4, (mv2.trans mv3).trans mv4, (kp2.trans kp3).trans kp4, ho2⟩
    | ct ρ4 μ4 => exact fun σ4 W4 F4 S4 mv4 kp4 => ⟨by omega, W4, ρ4, μ4, F4, rfl, S4, (mv2.trans mv3).trans mv4, (kp2.trans kp3).trans kp4, ho2⟩
    | bk ρ4 μ4 =>
      cases ho2
      exact fun σ4 W4 F4 S4 mv4 kp4 => h2 σ4 W4 F4 S4 (mv3.trans mv4) (kp3.trans kp4)
    | rt d ρ4 μ4 =>
      cases ho2
      exact fun v σ4 W4 G F4 r S4 nd own mv4 kp4 => h2 v σ4 W4 G F4 r S4 nd own (mv3.trans mv4) (kp3.trans kp4)
    | ex c fs ρ4 μ4 =>
      cases ho2
      exact fun dx σ4 W4 F4 r S4 mv4 kp4 => h2 dx σ4 W4 F4 r S4 (mv3.trans mv4) (kp3.trans kp4)
  · refine .inl ⟨itd.st i W2 lt2 (by omega), ?_⟩
    have e : ds.drop i = [] := List.drop_eq_nil_of_le (by omega)
    rw [e] at ho2
    cases ho2
    exact h2 σ2 W2 F2 S2 (Ext.refl S2.ok).mvr Kept.refl
/-! ### while -/
def whL (t : FB) (b : FS) : Nat → List D → List D → Option SO
  | 0, _, _ => none
  | n + 1, ρ, μ => (t ρ μ).bind fun c => if c = true then (b ρ μ).bind fun o => match o with
    | .nx ρ2 μ2 => whL t b n ρ2 μ2
    | .ct ρ2 μ2 => whL t b n ρ2 μ2
    | .bk ρ2 μ2 => some (.nx ρ2 μ2)
    | o => some o
    else some (.nx ρ μ)
def fWh (fuel : List D → List D → Nat) (t : FB) (b : FS) : FS := fun ρ μ => whL t b (fuel ρ μ) ρ μ
theorem ps1_while {c : Expr} {body : List Stmt} {b : FS} (fuel : List D → List D → Nat) (hp : PassesOwn (model X.prog X.w) X.A X.env X.xe) (hc : PB X c t) (hb : PSS X ob Wx body b) : PS1 X ob Wx (.While c body [] pos) (fWh fuel t b) := by
  obtain ⟨tc, p1, k1⟩ := hc
  obtain ⟨tb, p2, k2⟩ := hb
  refine ⟨_, ps_while hp p1 p2, fun E σ W ρ μ F S o ho h => ?_⟩
  refine ⟨fun m σ2 H => ∃ (W2 : Wd) (ρ2 μ2 : List D) (F2 : List Addr), W2.H = H ∧ Sta X.K W2 σ2 ρ2 μ2 F2 ∧ Mv W W2 F F2 ∧ Kept ob σ σ2 ∧ whL t b m ρ2 μ2 = some o, ⟨fuel ρ μ, W, ρ, μ, F, rfl, S, (Ext.refl S.ok).mvr, Kept.refl, ho⟩, ?_⟩
  rintro m σ2 H ⟨W2, ρ2, μ2, F2, rfl, S2, mv2, kp2, ho2⟩
  have h2 := h.after mv2 kp2
  cases m with
  | zero => cases ho2
  | succ m =>
    obtain ⟨c1, e1, ho2⟩ := bind_some (show (t ρ2 μ2).bind _ = some o from ho2)
    refine k1 σ2 W2 ρ2 μ2 F2 S2 c1 e1 _ fun W3 x3 => ?_
    have S3 := S2.ext x3
    cases c1 with
    | true =>
      rw [if_pos rfl] at ho2 ⊢
      obtain ⟨o1, e2, ho2⟩ := bind_some ho2
      refine ⟨fun σ3 H3 => ∃ (W2 : Wd) (ρ2 μ2 : List D) (F2 : List Addr), W2.H = H3 ∧ Sta X.K W2 σ3 ρ2 μ2 F2 ∧ Mv W W2 F F2 ∧ Kept ob σ σ3 ∧ whL t b m ρ2 μ2 = some o, fun σ3 H3 n => ⟨m, Nat.lt_succ_self m, n⟩, ?_⟩
      refine k2 _ σ2 W3 ρ2 μ2 F2 S3 o1 e2 ?_
      cases o1 with
      | nx ρ4 μ4 => exact fun σ4 W4 F4 S4 mv4 kp4 => ⟨W4, ρ4, μ4, F4, rfl, S4, (mv2.trans x3.mvr).trans mv4, kp2.trans kp4, ho2⟩
      | ct ρ4 μ4 => exact fun σ4 W4 F4 S4 mv4 kp4 => ⟨W4, ρ4, μ4, F4, rfl, S4, (mv2.trans x3.mvr).trans mv4, kp2.trans kp4, ho2⟩
      | bk ρ4 μ4 =>
        cases ho2
        exact fun σ4 W4 F4 S4 mv4 kp4 => h2 σ4 W4 F4 S4 (x3.mvr.trans mv4) kp4
      | rt d ρ4 μ4 =>
        cases ho2
        exact fun v σ4 W4 G F4 r S4 nd own mv4 kp4 => h2 v σ4 W4 G F4 r S4 nd own (x3.mvr.trans mv4) kp4
      | ex c fs ρ4 μ4 =>
        cases ho2
        exact fun dx σ4 W4 F4 r S4 mv4 kp4 => h2 dx σ4 W4 F4 r S4 (x3.mvr.trans mv4) kp4
    | false =>
      rw [if_neg Bool.false_ne_true] at ho2 ⊢
      cases ho2
      exact h2 σ2 W3 F2 S3 x3.mvr Kept.refl
/-! ### a, b = e -/
def fSetT (gt : D → List D → Option (List D)) (q : FQ) : FS := fun ρ μ => (q ρ μ).bind fun d => if data d = true then (gt d ρ).map fun ρ' => .nx ρ' μ else none
theorem ps1_setT {tg : Expr} {vs : List Nat} {gt : D → List D → Option (List D)} (he : PQ X e q) (hg : PGD X tg vs gt) (hs : swapsWithSole [tg] e pos.line X.env = pure false := by rfl) (hw : swappedStores [tg] e X.env = pure none := by rfl)
    (h1 : (assignEach [tg] X.env).map (·.2) = [assign tg X.env] := by rfl) (hv : ∀ i ∈ ob, i ∉ vs := by decide) : PS1 X ob Wx (.Assign [tg] e pos) (fSetT gt q) := by
  obtain ⟨te, p, k⟩ := he
  obtain ⟨tgt, p1, k1⟩ := hg
  refine ⟨_, ps_asg p p1 hs hw h1, fun E σ W ρ μ F S o ho h => ?_⟩
  obtain ⟨d, e1, ho⟩ := bind_some ho
  by_cases hd : data d = true
  case neg => rw [if_neg hd] at ho; cases ho
  rw [if_pos hd] at ho
  obtain ⟨ρ', e2, z⟩ := map_some ho
  subst z
  refine k σ W ρ μ F S d e1 _ fun v W1 G x1 r1 => ?_
  have z := R_data d hd r1
  subst z
  exact k1 σ W1 ρ μ F d v (S.ext x1) r1 ρ' e2 _ fun σ' F' S' sub hw => h σ' W1 F' S' (x1.mv sub) (Kept.of_wipe hw hv)
/-! ### x += e -/
def fAug (i : Nat) (o : D → D → Option D) (q : FQ) : FS := fun ρ μ => (qVar i ρ μ).bind fun x => (q ρ μ).bind fun y => (o x y).bind fun d => if data x = true ∧ data d = true then some (.nx (ρ.set i d) μ) else none
theorem ps1_aug {i : Nat} {x : Str} {pos' : Pos} {op : Operator} {o : D → D → Option D} (hN : X.N.Nodup) (hi : X.N[i]? = some x) (hx : Loc X.env.scope x) (ho : OpD X (inplaceOp op) o) (he : PQ X e q) (hf : X.fn x = true ∨ X.env.scope.names.lookup x = some .local := by first | exact .inl rfl | exact .inr rfl) (hob : i ∉ ob := by decide) :
    PS1 X ob Wx (.AugAssign (.Name x pos') op e pos) (fAug i o q) := by
  obtain ⟨r, hr, kr⟩ := ho
  obtain ⟨te, p, k⟩ := he
  refine ⟨_, ps_aug hN hi hx p (ti := r) hr hf, fun E σ W ρ μ F S so hso h => ?_⟩
  obtain ⟨d0, e1, hso⟩ := bind_some hso
  obtain ⟨d1, e2, hso⟩ := bind_some hso
  obtain ⟨d, e3, hso⟩ := bind_some hso
  by_cases hd : data d0 = true ∧ data d = true
  case neg => rw [if_neg hd] at hso; cases hso
  rw [if_pos hd] at hso
  cases hso
  have hr0 : ρ[i]? = some d0 ∧ d0 ≠ .un := by
    unfold qVar at e1
    cases e : ρ[i]? with
    | none => rw [e] at e1; cases e1
    | some dd =>
      rw [e] at e1
      cases dd <;> first
        | (cases e1; done)
        | (have z := Option.some.inj e1; subst z; exact ⟨rfl, fun z => nomatch z⟩)
  obtain ⟨F1, F2, h1, h2, h3⟩ := S.ex
  obtain ⟨v0, G0, s1, s2⟩ := RS_get h1 hr0.1 hr0.2
  refine ⟨v0, s1, k σ W ρ μ F S d1 e2 _ fun v1 W1 G1 x1 r1 => ?_⟩
  refine kr W1 d0 d1 v0 v1 G0 G1 x1.ok (R_ext x1 d0 s2) r1 d e3 _ fun v W2 G x2 r2 => ?_
  have z := R_data d hd.2 r2
  subst z
  have x12 := x1.trans x2
  obtain ⟨F', S', sub⟩ := (S.ext x12).set (i := i) (R1_of r2)
  exact h _ W2 F' S' (x12.mv sub) (Kept.set hob)
def dIAdd : D → D → Option D
  | .int i, .int j => some (.int (i + j))
  | .str a, .str b => if a.length + b.length ≤ LIM then some (.str (a ++ b)) else none
  | _, _ => none
theorem opd_iadd : OpD X (inplaceOp .Add) dIAdd := by
  refine ⟨_, (iop_add (X := X)).or iop_add_str, fun W x y u v G1 G2 ok r1 r2 d hd Q q => ?_⟩
  cases x with
  | int i =>
    cases y with
    | int j =>
      cases hd
      obtain ⟨rfl, _⟩ := r1
      obtain ⟨rfl, _⟩ := r2
      exact .inl ⟨i, j, rfl, rfl, q _ W [] (Ext.refl ok) ⟨rfl, rfl⟩⟩
    | _ => cases hd
  | str a =>
    cases y with
    | str b =>
      obtain ⟨rfl, _⟩ := r1
      obtain ⟨rfl, _⟩ := r2
      have hd2 : (if a.length + b.length ≤ LIM then some (D.str (a ++ b)) else none) = some d := hd
      by_cases hl : a.length + b.length ≤ LIM
      · rw [if_pos hl] at hd2
        cases hd2
        exact .inr ⟨tr a, tr b, rfl, rfl, by rw [tr_length, tr_length]; exact lim_ok hl, q _ W [] (Ext.refl ok) ⟨by rw [tr_append], rfl⟩⟩
      · rw [if_neg hl] at hd2
        cases hd2
    | _ => cases hd
  | _ => cases y <;> cases hd
theorem opd_isub : OpD X (inplaceOp .Sub) dSub := opd_int0 iop_sub fun _ _ _ => ⟨rfl, rfl⟩
end
/-! ### one slot changed in place -/
theorem Sta.lens {K : PySem.W.Frag} {W : Wd} {σ : L2.St} {ρ μ : List D} {F : List Addr} {i : Nat} {d : D} (S : Sta K W σ ρ μ F) (hi : ρ[i]? = some d) (hne : d ≠ .un) : ∃ v B, σ[i]? = some (some v) ∧ R K W d v B ∧ (∀ a ∈ B, a ∈ F) ∧ B.Nodup ∧
    ∀ (W' : Wd) (d' : D) (G : List Addr), WOk W' → W'.m = W.m → Mv W W' B G → R K W' d' v G → G.Nodup → (∀ a ∈ G, Own W' a) → ∃ F', Sta K W' σ (ρ.set i d') μ F' ∧ Mv W W' F F' := by
  obtain ⟨⟨F1, F2, h1, h2, h3⟩, nd, own, ok⟩ := S
  obtain ⟨v, A, B, C, q1, q2, q3, q4⟩ := RS_lens h1 hi hne
  subst q2
  subst h3
  have pm : ∀ B : List Addr, (A ++ (B ++ C) ++ F2).Perm (B ++ (A ++ C ++ F2)) := fun B => by
    rw [List.append_assoc A, List.append_assoc B, List.append_assoc A]
    refine (List.perm_append_comm_assoc A B (C ++ F2)).trans ?_
    exact List.Perm.refl _
  have nd2 := (pm B).nodup_iff.mp nd
  have ndB := List.nodup_append.mp nd2
  have inB : ∀ a ∈ B, a ∈ A ++ (B ++ C) ++ F2 := fun a ha => (pm B).mem_iff.mpr (List.mem_append_left _ ha)
  have inO : ∀ a ∈ A ++ C ++ F2, a ∈ A ++ (B ++ C) ++ F2 ∧ a ∉ B := fun a ha => ⟨(pm B).mem_iff.mpr (List.mem_append_right _ ha), fun z => ndB.2.2 a z a ha rfl⟩
  refine ⟨v, B, q1, q3, inB, ndB.1, fun W' d' G ok' hm mv r ndG ownG => ?_⟩
  have lt := mv.lt fun a ha => own a (inB a ha)
  have stay : ∀ a ∈ A ++ C ++ F2, W'.H a = W.H a := fun a ha => by
    obtain ⟨h4, h5⟩ := inO a ha
    obtain ⟨_, w⟩ := own a h4
    rcases w with ⟨xs, w⟩ | ⟨Cc, dx, fs, w⟩
    · rw [w]
      exact mv.keep a _ w h5
    · rw [w]
      exact mv.keep a _ w h5
  have freshG : ∀ a ∈ G, a ∉ A ++ C ++ F2 := fun a ha z => by
    obtain ⟨h4, h5⟩ := inO a z
    rcases mv.own a ha with q | q
    · exact h5 q
    · obtain ⟨_, w⟩ := own a h4
      rcases w with ⟨xs, w⟩ | ⟨Cc, dx, fs, w⟩ <;> rw [q] at w <;> cases w
  refine ⟨A ++ (G ++ C) ++ F2, ⟨⟨_, F2, q4 W' d' G lt (fun b hb => stay b (List.mem_append_left _ hb)) r, by rw [hm]; exact RL_keep lt μ (fun b hb => stay b (List.mem_append_right _ hb)) h2, rfl⟩, ?_, fun a ha => ?_, ok'⟩, ⟨fun a o e h => mv.keep a o e fun z => h (inB a z), mv.fr, fun a h => ?_, fun a ha => ?_, mv.m⟩⟩
  · refine (pm G).nodup_iff.mpr (List.nodup_append.mpr ⟨ndG, ndB.2.1, fun a ha b hb z => ?_⟩)
    subst z
    exact freshG a ha hb
  · rcases List.mem_append.mp ((pm G).mem_iff.mp ha) with z | z
    · exact ownG a z
    · obtain ⟨h4, h5⟩ := inO a z
      obtain ⟨w1, w2⟩ := own a h4
      refine ⟨fun z' => ?_, by rw [stay a z]; exact w2⟩
      rcases mv.nf a z' with q | q | q
      · exact w1 q
      · rcases w2 with ⟨xs, w⟩ | ⟨Cc, dx, fs, w⟩ <;> rw [q] at w <;> cases w
      · exact h5 q
  · rcases mv.nf a h with q | q | q
    · exact .inl q
    · exact .inr (.inl q)
    · exact .inr (.inr (inB a q))
  · rcases List.mem_append.mp ((pm G).mem_iff.mp ha) with z | z
    · rcases mv.own a z with q | q
      · exact .inl (inB a q)
      · exact .inr q
    · exact .inl (inO a z).1
section
variable {X : Cx} {ob : List Nat} {Wx : WX} {e : Expr} {q : FQ} {pos : Pos}
/-! ### x.append(e), x the name of an own list -/
def fApp (i : Nat) (q : FQ) : FS := fun ρ μ => match ρ[i]? with
  | some (.ml ds) => (q ρ μ).bind fun d => if data d = true ∧ ds.length ≤ LIM then some (.nx (ρ.set i (.ml (ds ++ [d]))) μ) else none
  | _ => none
theorem ps1_app {i : Nat} {x : Str} {px apos cpos : Pos} (hcall : ∀ te : TE, PE X e te → PE X (.Call (.Attribute (.Name x px) "append" apos) [e] [] cpos) (tBM X.K "list" rAppend (tVar i) (tCons te tNil))) (he : PQ X e q)
    (hsw : swapsWith (.Call (.Attribute (.Name x px) "append" apos) [e] [] cpos) none pos.line X.env = pure false := by rfl) : PS1 X ob Wx (.Expr (.Call (.Attribute (.Name x px) "append" apos) [e] [] cpos) pos) (fApp i q) := by
  obtain ⟨te, p, k⟩ := he
  refine ⟨_, ps_expr (hcall te p) hsw, fun E σ W ρ μ F S o ho h => ?_⟩
  unfold fApp at ho
  split at ho
  case h_2 => cases ho
  case h_1 ds heq =>
    obtain ⟨d, e1, ho⟩ := bind_some ho
    by_cases hd : data d = true ∧ ds.length ≤ LIM
    case neg => rw [if_neg hd] at ho; cases ho
    rw [if_pos hd] at ho
    cases ho
    obtain ⟨v, B, q1, ⟨a, vs, F', rfl, h2, h3, hB⟩, _⟩ := S.lens heq (fun z => nomatch z)
    refine ⟨.ref a, q1, .inl ⟨rfl, vs, Evl.sq_of h2⟩, ?_⟩
    refine k σ W ρ μ F S d e1 _ fun y W1 G x1 r1 => ?_
    have z := R_data d hd.1 r1
    subst z
    have S1 := S.ext x1
    obtain ⟨v, B, q2, ⟨a2, vs2, F2, e2, h4, h5, hB2⟩, inF, ndB, next⟩ := S1.lens heq (fun z => nomatch z)
    rw [q1] at q2
    cases q2
    cases e2
    rw [x1.ex _ _ h2] at h4
    cases h4
    have ha : Own W1 a := S1.own a (inF a (by rw [hB2]; exact List.mem_cons_self ..))
    have lt : Lt W1 ⟨upd W1.H a (.lst (vs ++ [y])), W1.Fr, W1.m⟩ := Lt.upd_lst (x1.ex _ _ h2) ha.1
    have nd2 := List.nodup_cons.mp (hB2 ▸ ndB)
    obtain ⟨F3, S3, mv3⟩ := next ⟨upd W1.H a (.lst (vs ++ [y])), W1.Fr, W1.m⟩ (.ml (ds ++ [d])) (a :: F2) (fun b hb => by
        show upd W1.H a _ b ≠ none
        by_cases z : b = a
        · rw [z, upd_same]
          exact fun z => nomatch z
        · rw [upd_ne z]
          exact x1.ok b hb) rfl
      ⟨fun b o hb nb => by
        show upd W1.H a _ b = some o
        rw [upd_ne fun z => nb (by rw [z, hB2]; exact List.mem_cons_self ..)]
        exact hb, fun _ h => h, fun _ h => .inl h, fun b hb => .inl (by rw [hB2]; exact hb), ⟨[], (List.append_nil _).symm⟩⟩
      ⟨a, vs ++ [y], F2, rfl, upd_same, by
        have k1 : RL X.K ⟨upd W1.H a (.lst (vs ++ [y])), W1.Fr, W1.m⟩ ds vs F2 := RL_keep lt ds (fun b hb => by
          show upd W1.H a _ b = W1.H b
          exact upd_ne fun z => nd2.1 (z ▸ hb)) h5
        have k2 : RL X.K ⟨upd W1.H a (.lst (vs ++ [y])), W1.Fr, W1.m⟩ [d] [y] [] := ⟨y, [], [], [], rfl, R_lt lt d r1, ⟨rfl, rfl⟩, rfl⟩
        have z := RL_app k1 k2
        rw [List.append_nil] at z
        exact z, rfl⟩ (hB2 ▸ ndB) (fun b hb => by
        by_cases z : b = a
        · subst z
          exact ⟨ha.1, .inl ⟨_, upd_same⟩⟩
        · obtain ⟨w1, w2⟩ := S1.own b (inF b (by rw [hB2]; exact hb))
          refine ⟨w1, ?_⟩
          show (∃ xs, upd W1.H a _ b = _) ∨ ∃ C dx fs, upd W1.H a _ b = _
          rw [upd_ne z]
          exact w2)
    have lv : vs.length = ds.length := RL_len h3
    refine ⟨a, vs, y, rfl, rfl, x1.ex _ _ h2, lim_lt (by omega), ?_⟩
    exact h σ _ F3 S3 (x1.mvr.trans mv3) Kept.refl
end
/-! ### a quiet def -/
def runQ (N n : Nat) (f : FS) (ds : List D) : Option D := match f (ds ++ List.replicate (N - n) .un) [] with
  | some (.rt d _ _) => if data d = true then some d else none
  | some (.nx _ _) => some .non
  | _ => none
theorem RS_start {K : PySem.W.Frag} {W : Wd} : ∀ {ds : List D} {vs : List V} (m : Nat), RL K W ds vs [] → RS K W (ds ++ List.replicate m .un) (vs.map some ++ List.replicate m none) []
  | [], vs, m, r => by
    rw [r.1]
    show RS K W (List.replicate m .un) (List.replicate m none) []
    induction m with
    | zero => exact ⟨rfl, rfl⟩
    | succ m ih => exact ⟨none, List.replicate m none, [], [], rfl, rfl, ih, rfl⟩
  | d :: ds, vs, m, r => by
    obtain ⟨v, vs', F1, F2, h1, h2, h3, h4⟩ := r
    obtain ⟨rfl, rfl⟩ := List.append_eq_nil_iff.mp h4.symm
    rw [h1]
    exact ⟨some v, vs'.map some ++ List.replicate m none, [], [], rfl, R1_of h2, RS_start m h3, rfl⟩
theorem Mv.nilQ {W W' : Wd} {G : List Addr} (m : Mv W W' [] G) (ok : WOk W') (hm : W.m = []) : Ext W ⟨W'.H, W'.Fr, []⟩ :=
  ⟨fun a o e => m.keep a o e (fun z => nomatch z), m.fr, fun a e => (m.nf a e).elim .inl (fun z => z.elim .inr (fun z => nomatch z)), hm.symm, ok⟩
theorem fnq_def {P : Program} {w : World} {K : PySem.W.Frag} {mg : Str → Option Value} {base : Heap} {nm qual : Str} {params : Arguments} {body : List Stmt} {scope : Scope} {dvs0 : List V} {kws : List (Str × V)} {fa : Addr} {fd : FuncData} {N ps : List Str} {k n : Nat} {f : FS} {run : List D → Option D}
    (F : FunD K nm qual params body scope dvs0 kws fa fd) (Sc : FnScope N ps scope) (hn : ps.length = n)
    (h : ∀ (cdv : Value) (A : Around) (outer : List Env) (s : Shared) (H : Hp) (E : XK), Room k (A.deeper (envOfC qual scope s.heap.objs.size fa cdv)) → PSS (cxOf (L2.CX P w) P w K mg base N qual scope fa cdv A outer s H E) [] (fun _ _ _ _ => False) body f)
    (hr : ∀ ds d, run ds = some d → runQ N.length n f ds = some d) : FnOk P w K mg base (L2.CX P w) (k + 1) fa fd ps (spQ K n run) := by
  refine F.ok Sc (fun vs H Q E q => ?_) (fun cdv A outer s H vs Q E hroom q => ?_)
  · obtain ⟨W, ds, d, _, _, _, r, _, hl, _⟩ := q
    rw [RL_len r, hl, hn]
  · obtain ⟨W, ds, d, hH, hWm, ok, r, hdat, hl, hrun, hdd2, q⟩ := q
    subst hH
    obtain ⟨ts, p, kk⟩ := h cdv A outer s W.H E hroom
    refine ⟨ts, p, ?_⟩
    have lv : vs.length = n := by rw [RL_len r, hl]
    have e0 : L2.start N vs = vs.map some ++ List.replicate (N.length - n) none := by
      unfold L2.start
      rw [lv]
    rw [e0]
    have S : Sta K W (vs.map some ++ List.replicate (N.length - n) none) (ds ++ List.replicate (N.length - n) .un) [] [] := ⟨⟨[], [], RS_start _ r, by rw [hWm]; exact ⟨rfl, rfl⟩, rfl⟩, List.nodup_nil, (fun _ h => nomatch h), ok⟩
    have hq := hr ds d hrun
    unfold runQ at hq
    have noM : ∀ {σ' : L2.St} {W' : Wd} {ρ' μ' : List D} {F' : List Addr}, Sta K W' σ' ρ' μ' F' → True := fun _ => trivial
    cases e1 : f (ds ++ List.replicate (N.length - n) .un) [] with
    | none => rw [e1] at hq; cases hq
    | some o =>
      rw [e1] at hq
      refine kk _ _ W _ [] [] S o e1 ?_
      cases o with
      | nx ρ' μ' =>
        cases hq
        intro σ' W' F' S' mv kp
        refine q .non ⟨W'.H, W'.Fr, []⟩ ?_ ⟨rfl, rfl⟩
        exact mv.nilQ S'.ok hWm
      | rt d' ρ' μ' =>
        have hq2 : (if data d' = true then some d' else none) = some d := hq
        by_cases hd' : data d' = true
        case neg => rw [if_neg hd'] at hq2; cases hq2
        rw [if_pos hd'] at hq2
        cases hq2
        intro v σ' W' G F' rv S' nd own mv kp
        have z := R_data d hd' rv
        subst z
        refine q v ⟨W'.H, W'.Fr, []⟩ ?_ (R_m d hd' rv)
        exact mv.nilQ S'.ok hWm
      | _ => cases hq
theorem okq_def {P : Program} {w : World} {K : PySem.W.Frag} {mg : Str → Option Value} {base : Heap} {x nm qual : Str} {params : Arguments} {body : List Stmt} {scope : Scope} {dvs0 : List V} {kws : List (Str × V)} {fa : Addr} {fd : FuncData} {N ps : List Str} {k n : Nat} {dd : List D} {dvs : List V} {us : List Value} {f : FS} {run : List D → Option D}
    (F : FunD K nm qual params body scope dvs0 kws fa fd) (Sc : FnScope N ps scope) (hn : ps.length = n) (hb : Binds K fd ps us) (hv : Vals dvs us) (hdd : ∀ W : Wd, RL K W dd dvs []) (hdt : dataL dd = true) (hm : mg x = some (.ref fa))
    (h : ∀ (cdv : Value) (A : Around) (outer : List Env) (s : Shared) (H : Hp) (E : XK), Room k (A.deeper (envOfC qual scope s.heap.objs.size fa cdv)) → PSS (cxOf (L2.CX P w) P w K mg base N qual scope fa cdv A outer s H E) [] (fun _ _ _ _ => False) body f)
    (hr : ∀ ds d, run ds = some d → runQ N.length n f ds = some d) : OkQ P w K mg base x (k + 1) n dd run :=
  ⟨fa, fd, ps, dvs, us, fnq_def F Sc hn h hr, hb, hv, hdd, hdt, hm, F.kp⟩
/-! ### what the module's names stand for -/
theorem gld_str {K : PySem.W.Frag} {mg : Str → Option Value} {x : Str} {s : String} (h : ∃ t, mg x = some (.str (Str.ofString s) t)) : GlD K mg x (.str (ofS s)) := by
  obtain ⟨t, h⟩ := h
  exact ⟨.str (Str.ofString s), _, h, ⟨t, rfl⟩, fun W => ⟨congrArg V.str (tr_ofS s), rfl⟩⟩
/-- a written value of the top -/
def dvD : He.Dv → Option D
  | .int i => some (.int i)
  | .bl b => some (.bl b)
  | .non => some .non
  | _ => none
theorem gld_tup {K : PySem.W.Frag} {mg : Str → Option Value} {x : Str} {vs : List He.Dv} {ds : List D} (h : mg x = some (.ref (He.ga K x))) (ht : He.tupB K x vs = true) (hr : ∀ W : Wd, RL K W ds (vs.map (He.Dv.v K)) []) : GlD K mg x (.tup ds) :=
  ⟨.ref (He.ga K x), _, h, rfl, fun W => ⟨_, _, rfl, He.tupB_ok ht W.H, hr W⟩⟩
theorem rl_int {K : PySem.W.Frag} {W : Wd} {i : Int} {ds : List D} {vs : List V} (h : RL K W ds vs []) : RL K W (.int i :: ds) (.int i :: vs) [] := ⟨_, _, [], [], rfl, ⟨rfl, rfl⟩, h, rfl⟩
theorem rl_str {K : PySem.W.Frag} {W : Wd} {s : String} {ds : List D} {vs : List V} (h : RL K W ds vs []) : RL K W (.str (ofS s) :: ds) (.str (Str.ofString s) :: vs) [] := ⟨_, _, [], [], rfl, ⟨congrArg V.str (tr_ofS s), rfl⟩, h, rfl⟩
/-- the law at its script -/
theorem law_sp {K : PySem.W.Frag} {run : List D → Option D} {H : Hp} {a : Addr} {ns : List Int} {E : XK} (hS : SqL K H a (ns.map V.int)) (hr : run [.lst (ns.map D.int)] = some (.bl true)) : spQ K 1 run [.ref a] H (fun v _ => v = .bl true) E := by
  have rl : ∀ (W : Wd) (l : List Int), RL K W (l.map D.int) (l.map V.int) [] := fun W l => by
    induction l with
    | nil => exact ⟨rfl, rfl⟩
    | cons i l ih => exact rl_int ih
  have dl : ∀ l : List Int, dataL (l.map D.int) = true := fun l => by
    induction l with
    | nil => rfl
    | cons i l ih => exact Bool.and_eq_true_iff.mpr ⟨rfl, ih⟩
  refine ⟨⟨H, fun b => H b ≠ none, []⟩, [.lst (ns.map D.int)], .bl true, rfl, rfl, fun b h => h, ⟨.ref a, [], [], [], rfl, ⟨a, _, rfl, ?_, rl _ ns, rfl⟩, ⟨rfl, rfl⟩, rfl⟩, Bool.and_eq_true_iff.mpr ⟨dl ns, rfl⟩, rfl, hr, rfl, fun v W' x r => r.1⟩
  rcases hS with h | h
  · refine .inl ⟨h, ?_⟩
    rcases h with h | ⟨o, h⟩
    · show H a ≠ none
      rw [h]
      exact fun z => nomatch z
    · show H a ≠ none
      rw [h]
      exact fun z => nomatch z
  · exact .inr (.inr h)
/-- any world's exceptions -/
def CXw : CXT := fun o H s E e s' => ∃ (P : Program) (w : World), L2.CX P w o H s E e s'
theorem cx_wide {P : Program} {w : World} {K : PySem.W.Frag} {mg : Str → Option Value} {base : Heap} {k : Nat} {f : Addr} {fd : FuncData} {ps : List Str} {sp : Sp} (F : FnOk P w K mg base (L2.CX P w) k f fd ps sp) : FnOk P w K mg base CXw k f fd ps sp :=
  ⟨F.len, fun A outer s H args us vs Q E hr e0 hb hv hs => codeAny_mono (F.run A outer s H args us vs Q E hr e0 hb hv hs) fun r s' q => by
    cases r with
    | error e => exact ⟨P, w, q⟩
    | ok fl => cases fl <;> exact q⟩
theorem cxw_none {o : List Env} {H : Hp} {s : Shared} {e : Value} {s' : Shared} (h : CXw o H s (fun _ _ _ => False) e s') : False := by
  obtain ⟨_, _, _, _, _, _, _, _, _, _, _, _, _, _, z⟩ := h
  exact z.elim
end Fw
/-! # reckoning mirrors: outermost first -/
namespace Fw
open PySem PySem.Spec PyProof.Rows L2
def seqK (o : Option SO) (g : FS) : Option SO := o.bind fun o => match o with
  | .nx ρ' μ' => g ρ' μ'
  | o => some o
theorem fSeq_eq (f g : FS) (x0 : D) (ρ μ : List D) : fSeq f g (x0 :: ρ) μ = seqK (f (x0 :: ρ) μ) g := rfl
theorem seqK_nx (ρ μ : List D) (g : FS) : seqK (some (.nx ρ μ)) g = g ρ μ := rfl
theorem seqK_rt (d : D) (ρ μ : List D) (g : FS) : seqK (some (.rt d ρ μ)) g = some (.rt d ρ μ) := rfl
theorem seqK_ex (c : Str) (fs : List (Str × D)) (ρ μ : List D) (g : FS) : seqK (some (.ex c fs ρ μ)) g = some (.ex c fs ρ μ) := rfl
/-- the end of a turn -/
def turnK (g : D → List D → Option (List D)) (b : FS) (ds : List D) (o : Option SO) : Option SO := o.bind fun o => match o with
  | .nx ρ2 μ2 => forL g b ρ2 μ2 ds
  | .ct ρ2 μ2 => forL g b ρ2 μ2 ds
  | .bk ρ2 μ2 => some (.nx ρ2 μ2)
  | o => some o
theorem forL_nil (g : D → List D → Option (List D)) (b : FS) (ρ μ : List D) : forL g b ρ μ [] = some (.nx ρ μ) := rfl
theorem forL_cons (g : D → List D → Option (List D)) (b : FS) (ρ μ : List D) (d : D) (ds : List D) : forL g b ρ μ (d :: ds) = (g d ρ).bind fun ρ1 => turnK g b ds (b ρ1 μ) := rfl
theorem turnK_nx (g : D → List D → Option (List D)) (b : FS) (ds ρ μ : List D) : turnK g b ds (some (.nx ρ μ)) = forL g b ρ μ ds := rfl
theorem turnK_rt (g : D → List D → Option (List D)) (b : FS) (ds : List D) (d : D) (ρ μ : List D) : turnK g b ds (some (.rt d ρ μ)) = some (.rt d ρ μ) := rfl
/-- one turn that goes on -/
theorem forL_turn {g : D → List D → Option (List D)} {b : FS} {ρ μ ρ1 ρ2 μ2 : List D} {d : D} {ds : List D} (h1 : g d ρ = some ρ1) (h2 : b ρ1 μ = some (.nx ρ2 μ2)) : forL g b ρ μ (d :: ds) = forL g b ρ2 μ2 ds := by
  rw [forL_cons, h1]
  show turnK g b ds (b ρ1 μ) = _
  rw [h2]
  rfl
/-- a loop all of whose turns go on, I kept -/
theorem forL_all {g : D → List D → Option (List D)} {b : FS} {μ : List D} {I : List D → Prop} : ∀ (ds : List D) (ρ : List D), I ρ → (∀ d ∈ ds, ∀ ρ, I ρ → ∃ ρ1 ρ2, g d ρ = some ρ1 ∧ b ρ1 μ = some (.nx ρ2 μ) ∧ I ρ2) → ∃ ρ', forL g b ρ μ ds = some (.nx ρ' μ) ∧ I ρ'
  | [], ρ, h, _ => ⟨ρ, rfl, h⟩
  | d :: ds, ρ, h, k => by
    obtain ⟨ρ1, ρ2, h1, h2, h3⟩ := k d (List.mem_cons_self ..) ρ h
    obtain ⟨ρ', h4, h5⟩ := forL_all ds ρ2 h3 fun d hd => k d (List.mem_cons_of_mem _ hd)
    exact ⟨ρ', by rw [forL_turn h1 h2, h4], h5⟩
/-- the def's end -/
def endK (o : Option SO) : Option D := match o with
  | some (.rt d _ _) => if data d = true then some d else none
  | some (.nx _ _) => some .non
  | _ => none
theorem runQ_eq (N n : Nat) (f : FS) (ds : List D) : runQ N n f ds = endK (f (ds ++ List.replicate (N - n) .un) []) := by
  unfold runQ endK
  cases f (ds ++ List.replicate (N - n) .un) [] with
  | none => rfl
  | some o => cases o <;> rfl
theorem endK_rt (d : D) (ρ μ : List D) : endK (some (.rt d ρ μ)) = if data d = true then some d else none := rfl
theorem endK_nx (ρ μ : List D) : endK (some (.nx ρ μ)) = some .non := rfl
/-! ### the pieces by value -/
def varK (o : Option D) : Option D := match o with
  | some .un => none
  | o => o
theorem qVar_zero (d : D) (ρ μ : List D) : qVar 0 (d :: ρ) μ = varK (some d) := by cases d <;> rfl
theorem qVar_succ (i : Nat) (d : D) (ρ μ : List D) : qVar (i + 1) (d :: ρ) μ = qVar i ρ μ := rfl
theorem varK_int (i : Int) : varK (some (.int i)) = some (.int i) := rfl
theorem varK_str (i : List Nat) : varK (some (.str i)) = some (.str i) := rfl
theorem varK_bl (i : Bool) : varK (some (.bl i)) = some (.bl i) := rfl
theorem varK_non : varK (some .non) = some .non := rfl
theorem varK_tup (i : List D) : varK (some (.tup i)) = some (.tup i) := rfl
theorem varK_lst (i : List D) : varK (some (.lst i)) = some (.lst i) := rfl
theorem varK_ml (i : List D) : varK (some (.ml i)) = some (.ml i) := rfl
def blK (o : Option D) : Option Bool := match o with
  | some (.bl b) => some b
  | _ => none
theorem qB_eq (f : FQ) (x0 : D) (ρ μ : List D) : qB f (x0 :: ρ) μ = blK (f (x0 :: ρ) μ) := rfl
theorem blK_bl (b : Bool) : blK (some (.bl b)) = some b := rfl
def andK (o : Option D) (r : Option D) : Option D := match o with
  | some (.bl true) => r
  | some (.bl false) => some (.bl false)
  | _ => none
def orK (o : Option D) (r : Option D) : Option D := match o with
  | some (.bl false) => r
  | some (.bl true) => some (.bl true)
  | _ => none
theorem qAnd_eq (f g : FQ) (x0 : D) (ρ μ : List D) : qAnd f g (x0 :: ρ) μ = andK (f (x0 :: ρ) μ) (g (x0 :: ρ) μ) := rfl
theorem qOr_eq (f g : FQ) (x0 : D) (ρ μ : List D) : qOr f g (x0 :: ρ) μ = orK (f (x0 :: ρ) μ) (g (x0 :: ρ) μ) := rfl
theorem andK_t (r : Option D) : andK (some (.bl true)) r = r := rfl
theorem andK_f (r : Option D) : andK (some (.bl false)) r = some (.bl false) := rfl
theorem orK_f (r : Option D) : orK (some (.bl false)) r = r := rfl
theorem orK_t (r : Option D) : orK (some (.bl true)) r = some (.bl true) := rfl
theorem andK_b (b c : Bool) : andK (some (.bl b)) (some (.bl c)) = some (.bl (b && c)) := by cases b <;> rfl
theorem orK_b (b c : Bool) : orK (some (.bl b)) (some (.bl c)) = some (.bl (b || c)) := by cases b <;> rfl
def notK (o : Option D) : Option D := match o with
  | some (.bl b) => some (.bl (!b))
  | _ => none
theorem qNot_eq (f : FQ) (x0 : D) (ρ μ : List D) : qNot f (x0 :: ρ) μ = notK (f (x0 :: ρ) μ) := rfl
theorem notK_b (b : Bool) : notK (some (.bl b)) = some (.bl (!b)) := rfl
/-- a chain of two comparisons -/
def chK (o : Option D) (r : Option D) : Option D := match o with
  | some (.bl true) => r
  | some (.bl false) => some (.bl false)
  | _ => none
theorem q3_eq (o o' : D → D → Option D) (f g h : FQ) (x0 : D) (ρ μ : List D) : q3 o o' f g h (x0 :: ρ) μ = (f (x0 :: ρ) μ).bind fun x => (g (x0 :: ρ) μ).bind fun y => andK (o x y) ((h (x0 :: ρ) μ).bind fun z => o' y z) := rfl
def appK (i : Nat) (ρ μ : List D) (q : FQ) (o : Option D) : Option SO := match o with
  | some (.ml ds) => (q ρ μ).bind fun d => if data d = true ∧ ds.length ≤ LIM then some (.nx (ρ.set i (.ml (ds ++ [d]))) μ) else none
  | _ => none
theorem fApp_eq (i : Nat) (q : FQ) (x0 : D) (ρ μ : List D) : fApp i q (x0 :: ρ) μ = appK i (x0 :: ρ) μ q (x0 :: ρ)[i]? := by
  unfold fApp appK
  rfl
theorem appK_ml (i : Nat) (ρ μ : List D) (q : FQ) (ds : List D) : appK i ρ μ q (some (.ml ds)) = (q ρ μ).bind fun d => if data d = true ∧ ds.length ≤ LIM then some (.nx (ρ.set i (.ml (ds ++ [d]))) μ) else none := rfl
def fzK (i : Nat) (ρ : List D) (o : Option D) : List D := match o with
  | some (.ml ds) => if dataL ds = true then ρ.set i (.lst ds) else ρ
  | _ => ρ
theorem fFz_eq (i : Nat) (f : FS) (x0 : D) (ρ μ : List D) : fFz i f (x0 :: ρ) μ = f (fzK i (x0 :: ρ) (x0 :: ρ)[i]?) μ := rfl
theorem fzK_ml (i : Nat) (ρ ds : List D) : fzK i ρ (some (.ml ds)) = if dataL ds = true then ρ.set i (.lst ds) else ρ := rfl
def rgK (o : Option D) : Option (List D) := match o with
  | some (.int j) => if small62 j = true then some (rangeD 0 j) else none
  | _ => none
theorem aR1_eq (f : FQ) (x0 : D) (ρ μ : List D) : aR1 f (x0 :: ρ) μ = rgK (f (x0 :: ρ) μ) := rfl
theorem rgK_int (j : Int) : rgK (some (.int j)) = if small62 j = true then some (rangeD 0 j) else none := rfl
def rg2K (x y : D) : Option (List D) := match x, y with
  | .int i, .int j => if small62 i = true ∧ small62 j = true then some (rangeD i j) else none
  | _, _ => none
theorem aR2_eq (f g : FQ) (x0 : D) (ρ μ : List D) : aR2 f g (x0 :: ρ) μ = (f (x0 :: ρ) μ).bind fun x => (g (x0 :: ρ) μ).bind fun y => rg2K x y := by
  unfold aR2
  cases f (x0 :: ρ) μ with
  | none => rfl
  | some x =>
    cases g (x0 :: ρ) μ with
    | none => cases x <;> rfl
    | some y => cases x <;> cases y <;> rfl
theorem rg2K_int (i j : Int) : rg2K (.int i) (.int j) = if small62 i = true ∧ small62 j = true then some (rangeD i j) else none := rfl
def osK (o : Option D) : Option (Option Int) := match o with
  | some (.int i) => some (some i)
  | _ => none
theorem oSome_eq (f : FQ) (x0 : D) (ρ μ : List D) : oSome f (x0 :: ρ) μ = osK (f (x0 :: ρ) μ) := rfl
theorem osK_int (i : Int) : osK (some (.int i)) = some (some i) := rfl
def m1K (o : List Nat → List D → Option D) (x : Option D) (r : Option D) : Option D := match x with
  | some (.str s) => r.bind fun d => o s [d]
  | _ => none
theorem qM1_eq (o : List Nat → List D → Option D) (f g : FQ) (x0 : D) (ρ μ : List D) : qM1 o f g (x0 :: ρ) μ = m1K o (f (x0 :: ρ) μ) (g (x0 :: ρ) μ) := rfl
theorem m1K_str (o : List Nat → List D → Option D) (s : List Nat) (d : D) : m1K o (some (.str s)) (some d) = o s [d] := rfl
def m0K (o : List Nat → List D → Option D) (x : Option D) : Option D := match x with
  | some (.str s) => o s []
  | _ => none
theorem qM0_eq (o : List Nat → List D → Option D) (f : FQ) (x0 : D) (ρ μ : List D) : qM0 o f (x0 :: ρ) μ = m0K o (f (x0 :: ρ) μ) := rfl
theorem m0K_str (o : List Nat → List D → Option D) (s : List Nat) : m0K o (some (.str s)) = o s [] := rfl
/-! ### operators at written kinds -/
theorem dAdd_int (i j : Int) : dAdd (.int i) (.int j) = some (.int (i + j)) := rfl
theorem dAdd_str (a b : List Nat) : dAdd (.str a) (.str b) = if a.length + b.length ≤ LIM then some (.str (a ++ b)) else none := rfl
theorem dAdd_tup (a b : List D) : dAdd (.tup a) (.tup b) = if a.length + b.length ≤ LIM ∧ dataL a = true ∧ dataL b = true then some (.tup (a ++ b)) else none := rfl
theorem dAdd_lst (a b : List D) : dAdd (.lst a) (.lst b) = if a.length + b.length ≤ LIM then some (.lst (a ++ b)) else none := rfl
theorem dAdd_mlst (a b : List D) : dAdd (.ml a) (.lst b) = if dataL a = true then (if a.length + b.length ≤ LIM then some (.lst (a ++ b)) else none) else none := by
  show ((if dataL a = true then some a else none).bind _) = _
  by_cases h : dataL a = true
  · rw [if_pos h, if_pos h]
    rfl
  · rw [if_neg h, if_neg h]
    rfl
theorem dInt_int (C : Int → Int → Bool) (g : Int → Int → D) (i j : Int) : dInt C g (.int i) (.int j) = if C i j = true then some (g i j) else none := rfl
theorem eqDB_atom {x y : D} {u v : V} (h1 : atom x = some u) (h2 : atom y = some v) (h3 : scal u v = true) : eqDB x y = some (decide (u = v)) := by
  unfold eqDB
  rw [h1, h2]
  exact if_pos h3
theorem dEq_int (i j : Int) : dEq (.int i) (.int j) = some (.bl (decide (i = j))) := by
  unfold dEq
  rw [eqDB_atom rfl rfl rfl]
  exact congrArg (fun b => some (D.bl b)) (by rw [dec_int]; exact (decide_eq_decide.mpr Iff.rfl ▸ rfl))
theorem dNe_int (i j : Int) : dNe (.int i) (.int j) = some (.bl (!decide (i = j))) := by
  unfold dNe
  rw [eqDB_atom rfl rfl rfl]
  exact congrArg (fun b => some (D.bl !b)) (by rw [dec_int]; exact (decide_eq_decide.mpr Iff.rfl ▸ rfl))
theorem dec_tr (a b : List Nat) : decide (V.str (tr a) = V.str (tr b)) = decide (a = b) := by
  by_cases h : a = b
  · subst h
    rw [decide_eq_true rfl, decide_eq_true rfl]
  · rw [decide_eq_false h, decide_eq_false]
    exact fun z => h (tr_inj (V.str.inj z))
theorem dEq_str (a b : List Nat) : dEq (.str a) (.str b) = some (.bl (decide (a = b))) := by
  unfold dEq
  rw [eqDB_atom rfl rfl rfl, dec_tr]
  rfl
theorem dNe_str (a b : List Nat) : dNe (.str a) (.str b) = some (.bl (!decide (a = b))) := by
  unfold dNe
  rw [eqDB_atom rfl rfl rfl, dec_tr]
  rfl
theorem dEq_bl (a b : Bool) : dEq (.bl a) (.bl b) = some (.bl (a == b)) := by cases a <;> cases b <;> rfl
theorem dNe_bl (a b : Bool) : dNe (.bl a) (.bl b) = some (.bl (a != b)) := by cases a <;> cases b <;> rfl
theorem dLt_int (i j : Int) : dLt (.int i) (.int j) = some (.bl (decide (i < j))) := rfl
theorem dLe_int (i j : Int) : dLe (.int i) (.int j) = some (.bl (decide (i ≤ j))) := rfl
theorem dGt_int (i j : Int) : dGt (.int i) (.int j) = some (.bl (decide (j < i))) := rfl
theorem dGe_int (i j : Int) : dGe (.int i) (.int j) = some (.bl (decide (j ≤ i))) := rfl
theorem dLe_str (a b : List Nat) : dLe (.str a) (.str b) = some (.bl (!decide (b < a))) := rfl
theorem dLen_str (s : List Nat) : dLen (.str s) = if s.length ≤ LIM then some (.int s.length) else none := rfl
theorem dLen_lst (s : List D) : dLen (.lst s) = some (.int s.length) := rfl
theorem dLen_ml (s : List D) : dLen (.ml s) = some (.int s.length) := rfl
theorem dLen_tup (s : List D) : dLen (.tup s) = some (.int s.length) := rfl
theorem dIx_lst (ds : List D) (i : Int) : dIx (.lst ds) (.int i) = ixAt ds i := rfl
theorem dIx_ml (ds : List D) (i : Int) : dIx (.ml ds) (.int i) = ixAt ds i := rfl
theorem dIx_tup (ds : List D) (i : Int) : dIx (.tup ds) (.int i) = ixAt ds i := rfl
theorem dIx_str (s : List Nat) (i : Int) : dIx (.str s) (.int i) = if s.length ≤ LIM then (ixAt s i).map fun c => .str [c] else none := rfl
theorem o1_eq (g : D → Option D) (d : D) : o1 g [d] = g d := rfl
theorem o2_eq (g : D → D → Option D) (d e : D) : o2 g [d, e] = g d e := rfl
theorem oStr_eq (h : List Nat → List Nat → D) (s t : List Nat) : oStr h s [.str t] = some (h s t) := rfl
theorem itemsF_lst (ds : List D) : itemsF (.lst ds) = some ds := rfl
theorem itemsF_str (s : List Nat) : itemsF (.str s) = some (s.map fun c => .str [c]) := rfl
theorem itemsF_tup (ds : List D) : itemsF (.tup ds) = if dataL ds = true then some ds else none := rfl
theorem dSl_str (s : List Nat) (lo hi : Option Int) : dSl (.str s) lo hi = if s.length ≤ LIM then some (.str (cut s lo hi)) else none := rfl
theorem dSl_lst (ds : List D) (lo hi : Option Int) : dSl (.lst ds) lo hi = some (.lst (cut ds lo hi)) := rfl
theorem dSl_tup (ds : List D) (lo hi : Option Int) : dSl (.tup ds) lo hi = if dataL ds = true then some (.tup (cut ds lo hi)) else none := rfl
/-- up to n -/
theorem cut_take {α : Type} (xs : List α) (n : Nat) : cut xs none (some (n : Int)) = xs.take n := by
  unfold cut
  rw [HT.sIx_none, HT.sIx_nat, List.drop_zero, Nat.sub_zero]
  by_cases h : n ≤ xs.length
  · rw [Nat.min_eq_left h]
  · rw [Nat.min_eq_right (by omega), List.take_of_length_le (by omega), List.take_of_length_le (by omega)]
theorem cut_drop {α : Type} (xs : List α) (n : Nat) : cut xs (some (n : Int)) none = xs.drop n := by
  unfold cut
  rw [HT.sIx_none, HT.sIx_nat]
  by_cases h : n ≤ xs.length
  · rw [Nat.min_eq_left h, List.take_of_length_le (by rw [List.length_drop]; omega)]
  · rw [Nat.min_eq_right (by omega), Nat.sub_self, List.take_zero, List.drop_eq_nil_of_le (by omega)]
theorem ixAt_nat {α : Type} (xs : List α) (i : Nat) : ixAt xs (i : Int) = xs[i]? := by
  unfold ixAt
  rw [if_pos (by omega), Int.toNat_natCast]
theorem ixAt_pos {α : Type} {xs : List α} {i : Int} (h : 0 ≤ i) : ixAt xs i = xs[i.toNat]? := by
  unfold ixAt
  rw [if_pos h]
theorem dataL_ints : ∀ l : List Int, dataL (l.map D.int) = true
  | [] => rfl
  | _ :: l => Bool.and_eq_true_iff.mpr ⟨rfl, dataL_ints l⟩
theorem dataL_strs : ∀ l : List (List Nat), dataL (l.map D.str) = true
  | [] => rfl
  | _ :: l => Bool.and_eq_true_iff.mpr ⟨rfl, dataL_strs l⟩
/-! ### all others, at a list of slots that is seen -/
section
variable (x0 : D) (ρ μ : List D)
theorem qC_eq (d : D) : qC d (x0 :: ρ) μ = some d := rfl
theorem q2_eq (o : D → D → Option D) (f g : FQ) : q2 o f g (x0 :: ρ) μ = (f (x0 :: ρ) μ).bind fun x => (g (x0 :: ρ) μ).bind fun y => o x y := rfl
theorem qIf_eq (t : FB) (f g : FQ) : qIf t f g (x0 :: ρ) μ = (t (x0 :: ρ) μ).bind fun x => if x = true then f (x0 :: ρ) μ else g (x0 :: ρ) μ := rfl
theorem qTup_eq (k : FA) : qTup k (x0 :: ρ) μ = (k (x0 :: ρ) μ).bind fun ds => if ds.length ≤ 100 then some (.tup ds) else none := rfl
theorem qN_eq (k : FA) : qN k (x0 :: ρ) μ = (k (x0 :: ρ) μ).map D.lst := rfl
theorem qSl_eq (f : FQ) (lo hi : FO) : qSl f lo hi (x0 :: ρ) μ = (f (x0 :: ρ) μ).bind fun x => (lo (x0 :: ρ) μ).bind fun l => (hi (x0 :: ρ) μ).bind fun h => dSl x l h := rfl
theorem oNone_eq : oNone (x0 :: ρ) μ = some none := rfl
theorem qCall_eq (o : List D → Option D) (k : FA) : qCall o k (x0 :: ρ) μ = (k (x0 :: ρ) μ).bind o := rfl
theorem qRun_eq (n : Nat) (dd : List D) (run : List D → Option D) (k : FA) : qRun n dd run k (x0 :: ρ) μ = (k (x0 :: ρ) μ).bind fun ds => if dataL ds = true ∧ (ds ++ dd).length = n then (run (ds ++ dd)).bind fun d => if data d = true then some d else none else none := rfl
theorem qIsi_eq (T : String) (f : FQ) : qIsi T f (x0 :: ρ) μ = (f (x0 :: ρ) μ).bind fun d => (tyN d).bind fun n => (kitB n T).map D.bl := rfl
theorem aNil_eq : aNil (x0 :: ρ) μ = some [] := rfl
theorem aCons_eq (f : FQ) (k : FA) : aCons f k (x0 :: ρ) μ = (f (x0 :: ρ) μ).bind fun d => (k (x0 :: ρ) μ).map fun ds => d :: ds := rfl
theorem aData_eq (k : FA) : aData k (x0 :: ρ) μ = (k (x0 :: ρ) μ).bind fun ds => if dataL ds = true ∧ ds.length ≤ 100 then some ds else none := rfl
theorem aF_eq (f : FQ) : aF f (x0 :: ρ) μ = (f (x0 :: ρ) μ).bind itemsF := rfl
theorem aQ_eq (f : FQ) : aQ f (x0 :: ρ) μ = (f (x0 :: ρ) μ).bind itemsQ := rfl
theorem bAnd_eq (t u : FB) : bAnd t u (x0 :: ρ) μ = (t (x0 :: ρ) μ).bind fun x => if x = true then u (x0 :: ρ) μ else some false := rfl
theorem bOr_eq (t u : FB) : bOr t u (x0 :: ρ) μ = (t (x0 :: ρ) μ).bind fun x => if x = true then some true else u (x0 :: ρ) μ := rfl
theorem bNot_eq (t : FB) : bNot t (x0 :: ρ) μ = (t (x0 :: ρ) μ).map not := rfl
theorem fNext_eq : fNext (x0 :: ρ) μ = some (.nx (x0 :: ρ) μ) := rfl
theorem fSet_eq (i : Nat) (q : FQ) : fSet i q (x0 :: ρ) μ = (q (x0 :: ρ) μ).bind fun d => if data d = true then some (.nx ((x0 :: ρ).set i d) μ) else none := rfl
theorem fSetN_eq (i : Nat) (k : FA) : fSetN i k (x0 :: ρ) μ = (k (x0 :: ρ) μ).map fun ds => .nx ((x0 :: ρ).set i (.ml ds)) μ := rfl
theorem fSetT_eq (gt : D → List D → Option (List D)) (q : FQ) : fSetT gt q (x0 :: ρ) μ = (q (x0 :: ρ) μ).bind fun d => if data d = true then (gt d (x0 :: ρ)).map fun ρ' => .nx ρ' μ else none := rfl
theorem fIf_eq (t : FB) (f g : FS) : fIf t f g (x0 :: ρ) μ = (t (x0 :: ρ) μ).bind fun b => if b = true then f (x0 :: ρ) μ else g (x0 :: ρ) μ := rfl
theorem fRet_eq (q : FQ) : fRet q (x0 :: ρ) μ = (q (x0 :: ρ) μ).bind fun d => if data d = true then some (.rt d (x0 :: ρ) μ) else none := rfl
theorem fRetN_eq : fRetN (x0 :: ρ) μ = some (.rt .non (x0 :: ρ) μ) := rfl
theorem fFor_eq (it : FA) (g : D → List D → Option (List D)) (b : FS) : fFor it g b (x0 :: ρ) μ = (it (x0 :: ρ) μ).bind fun ds => forL g b (x0 :: ρ) μ ds := rfl
theorem fAug_eq (i : Nat) (o : D → D → Option D) (q : FQ) : fAug i o q (x0 :: ρ) μ = (qVar i (x0 :: ρ) μ).bind fun x => (q (x0 :: ρ) μ).bind fun y => (o x y).bind fun d => if data x = true ∧ data d = true then some (.nx ((x0 :: ρ).set i d) μ) else none := rfl
theorem tgN_eq (i : Nat) (d : D) : tgN i d (x0 :: ρ) = if data d = true then some ((x0 :: ρ).set i d) else none := rfl
theorem tgT_eq (is : List Nat) (ds : List D) : tgT is (.tup ds) (x0 :: ρ) = tgs is ds (x0 :: ρ) := rfl
theorem tgs_cons (i : Nat) (is : List Nat) (d : D) (ds : List D) : tgs (i :: is) (d :: ds) ρ = (tgN i d ρ).bind fun ρ' => tgs is ds ρ' := rfl
theorem tgs_nil : tgs [] [] ρ = some ρ := rfl
end
theorem cMul_r {i j : Int} (h1 : -18446744073709551616 < j) (h2 : j < 18446744073709551616) : cMul i j = true := decide_eq_true (.inr ⟨h1, h2⟩)
theorem cMul_l {i j : Int} (h1 : -18446744073709551616 < i) (h2 : i < 18446744073709551616) : cMul i j = true := decide_eq_true (.inl ⟨h1, h2⟩)
theorem small62_of {i : Int} (h1 : -4611686018427387904 ≤ i) (h2 : i < 4611686018427387904) : small62 i = true := decide_eq_true ⟨h1, h2⟩
theorem tyN_NoneType : tyN .non = some "NoneType" := rfl
theorem tyN_bool (b : Bool) : tyN (.bl b) = some "bool" := rfl
theorem tyN_int (b : Int) : tyN (.int b) = some "int" := rfl
theorem tyN_str (b : List Nat) : tyN (.str b) = some "str" := rfl
theorem tyN_list (b : List D) : tyN (.lst b) = some "list" := rfl
theorem tyN_tuple (b : List D) : tyN (.tup b) = some "tuple" := rfl
theorem tyN_ml (b : List D) : tyN (.ml b) = some "list" := rfl
theorem kitB_NoneType_bool : kitB "NoneType" "bool" = some false := by decide +kernel
theorem kitB_NoneType_int : kitB "NoneType" "int" = some false := by decide +kernel
theorem kitB_NoneType_str : kitB "NoneType" "str" = some false := by decide +kernel
theorem kitB_NoneType_list : kitB "NoneType" "list" = some false := by decide +kernel
theorem kitB_NoneType_tuple : kitB "NoneType" "tuple" = some false := by decide +kernel
theorem kitB_bool_bool : kitB "bool" "bool" = some true := by decide +kernel
theorem kitB_bool_int : kitB "bool" "int" = some true := by decide +kernel
theorem kitB_bool_str : kitB "bool" "str" = some false := by decide +kernel
theorem kitB_bool_list : kitB "bool" "list" = some false := by decide +kernel
theorem kitB_bool_tuple : kitB "bool" "tuple" = some false := by decide +kernel
theorem kitB_int_bool : kitB "int" "bool" = some false := by decide +kernel
theorem kitB_int_int : kitB "int" "int" = some true := by decide +kernel
theorem kitB_int_str : kitB "int" "str" = some false := by decide +kernel
theorem kitB_int_list : kitB "int" "list" = some false := by decide +kernel
theorem kitB_int_tuple : kitB "int" "tuple" = some false := by decide +kernel
theorem kitB_str_bool : kitB "str" "bool" = some false := by decide +kernel
theorem kitB_str_int : kitB "str" "int" = some false := by decide +kernel
theorem kitB_str_str : kitB "str" "str" = some true := by decide +kernel
theorem kitB_str_list : kitB "str" "list" = some false := by decide +kernel
theorem kitB_str_tuple : kitB "str" "tuple" = some false := by decide +kernel
theorem kitB_list_bool : kitB "list" "bool" = some false := by decide +kernel
theorem kitB_list_int : kitB "list" "int" = some false := by decide +kernel
theorem kitB_list_str : kitB "list" "str" = some false := by decide +kernel
theorem kitB_list_list : kitB "list" "list" = some true := by decide +kernel
theorem kitB_list_tuple : kitB "list" "tuple" = some false := by decide +kernel
theorem kitB_tuple_bool : kitB "tuple" "bool" = some false := by decide +kernel
theorem kitB_tuple_int : kitB "tuple" "int" = some false := by decide +kernel
theorem kitB_tuple_str : kitB "tuple" "str" = some false := by decide +kernel
theorem kitB_tuple_list : kitB "tuple" "list" = some false := by decide +kernel
theorem kitB_tuple_tuple : kitB "tuple" "tuple" = some true := by decide +kernel
end Fw
/-! # expressions that change something: footprints, a part seen apart -/
namespace Fw
open PySem PySem.Spec PyProof.Rows L2
open Evl (Ex)
section
variable {K : PySem.W.Frag} {W W' : Wd}
theorem Mv.sub {F F1 G G1 : List Addr} (h : Mv W W' F G) (h1 : ∀ a ∈ F, a ∈ F1) (h2 : ∀ a ∈ G1, a ∈ G) : Mv W W' F1 G1 :=
  ⟨fun a o e n => h.keep a o e fun z => n (h1 a z), h.fr, fun a e => (h.nf a e).elim .inl fun z => .inr (z.elim .inl fun z => .inr (h1 a z)), fun a ha => (h.own a (h2 a ha)).elim (fun z => .inl (h1 a z)) .inr, h.m⟩
theorem Sta.len {σ : L2.St} {ρ μ : List D} {F : List Addr} (S : Sta K W σ ρ μ F) : σ.length = ρ.length := by
  obtain ⟨F1, F2, h1, _, _⟩ := S.ex
  exact RS_len h1
/-- a list that differs in the order alone -/
theorem nodup_of_perm {F F' : List Addr} (h : F'.Perm F) (n : F.Nodup) : F'.Nodup := h.nodup_iff.mpr n
/-! ### slots in two groups -/
theorem RS_app : ∀ {xs ρ : List D} {τ σ : List (Option V)} {F G : List Addr}, RS K W xs τ F → RS K W ρ σ G → RS K W (xs ++ ρ) (τ ++ σ) (F ++ G)
  | [], ρ, τ, σ, F, G, h, g => by
    rw [h.1, h.2]
    exact g
  | d :: xs, ρ, τ, σ, F, G, h, g => by
    obtain ⟨o, τ', F1, F2, e1, e2, e3, e4⟩ := h
    exact ⟨o, τ' ++ σ, F1, F2 ++ G, by rw [e1]; rfl, e2, RS_app e3 g, by rw [e4, List.append_assoc]⟩
theorem RS_cut : ∀ {xs ρ : List D} {τ σ : List (Option V)} {F : List Addr}, τ.length = xs.length → RS K W (xs ++ ρ) (τ ++ σ) F → ∃ F1 F2, F = F1 ++ F2 ∧ RS K W xs τ F1 ∧ RS K W ρ σ F2
  | [], ρ, τ, σ, F, hl, h => by
    obtain rfl := List.eq_nil_of_length_eq_zero hl
    exact ⟨[], F, rfl, ⟨rfl, rfl⟩, h⟩
  | d :: xs, ρ, [], σ, F, hl, h => by cases hl
  | d :: xs, ρ, t :: τ, σ, F, hl, h => by
    obtain ⟨o, τ', F1, F2, e1, e2, e3, e4⟩ := h
    rw [List.cons_append] at e1
    injection e1 with e5 e6
    subst e5
    rw [← e6] at e3
    obtain ⟨F3, F4, q1, q2, q3⟩ := RS_cut (Nat.succ.inj hl) e3
    exact ⟨F1 ++ F3, F4, by rw [e4, q1, List.append_assoc], ⟨t, τ, F1, F3, rfl, e2, q2, rfl⟩, q3⟩
/-- the slots ahead seen apart from those behind -/
theorem sta_frame {τ σ : L2.St} {xs ρ μ : List D} {F : List Addr} (S : Sta K W (τ ++ σ) (xs ++ ρ) μ F) (hl : τ.length = xs.length) : ∃ Fc, Sta K W τ xs μ Fc ∧ (∀ a ∈ Fc, a ∈ F) ∧
    ∀ (W' : Wd) (xs' μ' : List D) (Fc' G E : List Addr), Sta K W' τ xs' μ' Fc' → (G ++ Fc').Nodup → (∀ a ∈ G, Own W' a) → (∀ a ∈ E, Own W a ∧ a ∉ F) → Mv W W' (E ++ Fc) (G ++ Fc') → ∃ F', Sta K W' (τ ++ σ) (xs' ++ ρ) μ' F' ∧ (G ++ F').Nodup ∧ Mv W W' (E ++ F) (G ++ F') := by
  obtain ⟨⟨F1, F2, h1, h2, h3⟩, nd, own, ok⟩ := S
  obtain ⟨Fx, Fr, q1, q2, q3⟩ := RS_cut hl h1
  subst q1
  subst h3
  have pm : ∀ (A B C : List Addr), (A ++ B ++ C).Perm (A ++ C ++ B) := fun A B C => by
    rw [List.append_assoc, List.append_assoc]
    exact List.Perm.append_left A List.perm_append_comm
  have nd2 := nodup_of_perm (pm Fx Fr F2).symm nd
  have nd3 := List.nodup_append.mp nd2
  have inF : ∀ a ∈ Fx ++ F2, a ∈ Fx ++ Fr ++ F2 := fun a ha => (pm Fx Fr F2).mem_iff.mpr (List.mem_append_left _ ha)
  have inR : ∀ a ∈ Fr, a ∈ Fx ++ Fr ++ F2 ∧ a ∉ Fx ++ F2 := fun a ha => ⟨(pm Fx Fr F2).mem_iff.mpr (List.mem_append_right _ ha), fun z => nd3.2.2 a z a ha rfl⟩
  refine ⟨Fx ++ F2, ⟨⟨Fx, F2, q2, h2, rfl⟩, nd3.1, fun a ha => own a (inF a ha), ok⟩, inF, fun W' xs' μ' Fc' G E S' ndG ownG hE mv => ?_⟩
  have lt := mv.lt fun a ha => (List.mem_append.mp ha).elim (fun z => (hE a z).1) fun z => own a (inF a z)
  have nE : ∀ a, a ∈ Fx ++ Fr ++ F2 → a ∉ Fx ++ F2 → a ∉ E ++ (Fx ++ F2) := fun a h h' z => (List.mem_append.mp z).elim (fun z => (hE a z).2 h) h'
  have inEF : ∀ a, a ∈ E ++ (Fx ++ F2) → a ∈ E ++ (Fx ++ Fr ++ F2) := fun a z => (List.mem_append.mp z).elim (List.mem_append_left _) fun z => List.mem_append_right _ (inF a z)
  have stay : ∀ a ∈ Fr, W'.H a = W.H a := fun a ha => by
    obtain ⟨h4, h5⟩ := inR a ha
    obtain ⟨_, w⟩ := own a h4
    rcases w with ⟨ys, w⟩ | ⟨Cc, dx, fs, w⟩
    · rw [w]
      exact mv.keep a _ w (nE a h4 h5)
    · rw [w]
      exact mv.keep a _ w (nE a h4 h5)
  have apart : ∀ a ∈ G ++ Fc', a ∉ Fr := fun a ha z => by
    obtain ⟨h4, h5⟩ := inR a z
    rcases mv.own a ha with q | q
    · exact nE a h4 h5 q
    · obtain ⟨_, w⟩ := own a h4
      rcases w with ⟨ys, w⟩ | ⟨Cc, dx, fs, w⟩ <;> rw [q] at w <;> cases w
  obtain ⟨⟨G1, G2, p1, p2, p3⟩, nd', own', ok'⟩ := S'
  subst p3
  have rr : RS K W' ρ σ Fr := RS_keep lt stay q3
  have pm2 : (G ++ (G1 ++ Fr ++ G2)).Perm (G ++ (G1 ++ G2) ++ Fr) := by
    rw [List.append_assoc G]
    exact List.Perm.append_left G (pm G1 Fr G2)
  have ndA : (G ++ (G1 ++ Fr ++ G2)).Nodup := nodup_of_perm pm2 (List.nodup_append.mpr ⟨ndG, (List.nodup_append.mp nd2).2.1, fun a ha b hb z => apart a ha (z ▸ hb)⟩)
  refine ⟨G1 ++ Fr ++ G2, ⟨⟨G1 ++ Fr, G2, RS_app p1 rr, p2, rfl⟩, (List.nodup_append.mp ndA).2.1, fun a ha => ?_, ok'⟩, ndA, ⟨fun a o e n => mv.keep a o e fun z => n (inEF a z), mv.fr, fun a e => (mv.nf a e).elim .inl fun z => .inr (z.elim .inl fun z => .inr (inEF a z)), fun a ha => ?_, mv.m⟩⟩
  · rcases List.mem_append.mp ((pm G1 Fr G2).mem_iff.mp ha) with z | z
    · exact own' a z
    · obtain ⟨h4, h5⟩ := inR a z
      obtain ⟨w1, w2⟩ := own a h4
      refine ⟨fun z' => ?_, by rw [stay a z]; exact w2⟩
      rcases mv.nf a z' with q | q | q
      · exact w1 q
      · rcases w2 with ⟨ys, w⟩ | ⟨Cc, dx, fs, w⟩ <;> rw [q] at w <;> cases w
      · exact nE a h4 h5 q
  · rcases List.mem_append.mp (pm2.mem_iff.mp ha) with z | z
    · exact (mv.own a z).elim (fun q => .inl (inEF a q)) .inr
    · exact .inl (List.mem_append_right _ (inR a z).1)
/-! ### what a slot has is taken out, put in -/
theorem RS_un {d' : D} : ∀ {ρ : List D} {σ : List (Option V)} {F : List Addr} {j : Nat} {d : D}, RS K W ρ σ F → ρ[j]? = some d → d ≠ .un → ∃ v A B C, σ[j]? = some (some v) ∧ F = A ++ (B ++ C) ∧ R K W d v B ∧ RS K W (ρ.set j .un) σ (A ++ C)
  | [], _, _, j, _, _, h, _ => by simp at h
  | d0 :: ρ, _, _, 0, d, h, h1, h2 => by
    obtain ⟨o, σ', F1, F2, e1, e2, e3, e4⟩ := h
    have e : d0 = d := Option.some.inj h1
    subst e
    rw [R1_iff] at e2
    rcases e2 with ⟨q, _⟩ | ⟨v, q1, q2⟩
    · exact absurd q h2
    · subst q1
      exact ⟨v, [], F1, F2, by rw [e1]; rfl, e4, q2, ⟨some v, σ', [], F2, e1, rfl, e3, rfl⟩⟩
  | d0 :: ρ, _, _, j + 1, d, h, h1, h2 => by
    obtain ⟨o, σ', F1, F2, e1, e2, e3, e4⟩ := h
    obtain ⟨v, A, B, C, q1, q2, q3, q4⟩ := RS_un (d' := d') (j := j) e3 (by simpa using h1) h2
    exact ⟨v, F1 ++ A, B, C, by rw [e1]; simpa using q1, by rw [e4, q2, List.append_assoc], q3, ⟨o, σ', F1, A ++ C, e1, e2, q4, by rw [List.append_assoc]⟩⟩
theorem sta_out {σ : L2.St} {ρ μ : List D} {F : List Addr} {m : Nat} {d : D} (S : Sta K W σ ρ μ F) (hm : ρ[m]? = some d) (hne : d ≠ .un) : ∃ v F', σ[m]? = some (some v) ∧ Sta K W (some v :: σ) (d :: ρ.set m .un) μ F' ∧ F'.Perm F := by
  obtain ⟨⟨F1, F2, h1, h2, h3⟩, nd, own, ok⟩ := S
  obtain ⟨v, A, B, C, q1, q2, q3, q4⟩ := RS_un (d' := .un) h1 hm hne
  subst q2
  subst h3
  have pm : (B ++ (A ++ C) ++ F2).Perm (A ++ (B ++ C) ++ F2) := List.Perm.append_right F2 (List.perm_append_comm_assoc B A C)
  exact ⟨v, B ++ (A ++ C) ++ F2, q1, ⟨⟨B ++ (A ++ C), F2, ⟨some v, σ, B, A ++ C, rfl, R1_of q3, q4, rfl⟩, h2, rfl⟩, nodup_of_perm pm nd, fun a ha => own a (pm.mem_iff.mp ha), ok⟩, pm⟩
theorem set_self {α : Type} : ∀ {l : List α} {m : Nat} {x : α}, l[m]? = some x → l.set m x = l
  | [], _, _, h => by simp at h
  | y :: l, 0, x, h => by
    have e : y = x := Option.some.inj h
    rw [e]
    rfl
  | y :: l, m + 1, x, h => by
    rw [List.set_cons_succ, set_self (l := l) (m := m) (by simpa using h)]
theorem sta_in {σ : L2.St} {ρ μ : List D} {F : List Addr} {m : Nat} {d : D} {v : V} (S : Sta K W (some v :: σ) (d :: ρ) μ F) (hm : σ[m]? = some (some v)) : ∃ F', Sta K W σ (ρ.set m d) μ F' ∧ ∀ a ∈ F', a ∈ F := by
  obtain ⟨⟨F1, F2, h1, h2, h3⟩, nd, own, ok⟩ := S
  obtain ⟨o, σ', G, F3, e1, e2, e3, e4⟩ := h1
  injection e1 with e5 e6
  subst e5
  subst e6
  subst e4
  subst h3
  have hl := RS_len e3
  have hi : m < ρ.length := by
    rw [← hl]
    exact (List.getElem?_eq_some_iff.mp hm).1
  obtain ⟨A, B, C, q1, q2⟩ := RS_set e2 e3 hi
  rw [set_self hm] at q2
  subst q1
  have sub : ((G ++ (A ++ C)) ++ F2).Sublist ((G ++ (A ++ (B ++ C))) ++ F2) :=
    List.Sublist.append (List.Sublist.append (List.Sublist.refl G) (List.Sublist.append (List.Sublist.refl A) (List.sublist_append_right B C))) (List.Sublist.refl F2)
  have pm : (A ++ (G ++ C) ++ F2).Perm (G ++ (A ++ C) ++ F2) := List.Perm.append_right F2 (List.perm_append_comm_assoc A G C)
  exact ⟨A ++ (G ++ C) ++ F2, ⟨⟨_, F2, q2, h2, rfl⟩, nodup_of_perm pm (nd.sublist sub), fun a ha => own a (sub.subset (pm.mem_iff.mp ha)), ok⟩, fun a ha => sub.subset (pm.mem_iff.mp ha)⟩
theorem sta_tail {o : Option V} {σ : L2.St} {d : D} {ρ μ : List D} {F : List Addr} (S : Sta K W (o :: σ) (d :: ρ) μ F) : ∃ G F', R1 K W d o G ∧ Sta K W σ ρ μ F' ∧ F = G ++ F' := by
  obtain ⟨⟨F1, F2, h1, h2, h3⟩, nd, own, ok⟩ := S
  obtain ⟨o', σ', G, F3, e1, e2, e3, e4⟩ := h1
  injection e1 with e5 e6
  subst e5
  subst e6
  subst e4
  subst h3
  rw [List.append_assoc] at nd own
  exact ⟨G, F3 ++ F2, e2, ⟨⟨F3, F2, e3, h2, rfl⟩, (List.nodup_append.mp nd).2.1, fun a ha => own a (List.mem_append_right _ ha), ok⟩, by rw [List.append_assoc]⟩
theorem sta_cons {o : Option V} {σ : L2.St} {d : D} {ρ μ : List D} {G F : List Addr} (r : R1 K W d o G) (S : Sta K W σ ρ μ F) (nd : (G ++ F).Nodup) (own : ∀ a ∈ G, Own W a) : Sta K W (o :: σ) (d :: ρ) μ (G ++ F) := by
  obtain ⟨⟨F1, F2, h1, h2, h3⟩, nd2, own2, ok⟩ := S
  subst h3
  exact ⟨⟨G ++ F1, F2, ⟨o, σ, G, F1, rfl, r, h1, rfl⟩, h2, by rw [List.append_assoc]⟩, nd, fun a ha => (List.mem_append.mp ha).elim (own a) (own2 a), ok⟩
end
/-! ### a part seen apart -/
/-- the slots τ, with the trees xs, stand within σ, ρ; put tells how they go back -/
def Foc (K : PySem.W.Frag) (W : Wd) (σ : L2.St) (ρ μ : List D) (F : List Addr) (τ : L2.St) (xs : List D) (put : List D → Option (List D)) : Prop :=
  ∃ Fc, Sta K W τ xs μ Fc ∧ (∀ a ∈ Fc, a ∈ F) ∧ ∀ (W' : Wd) (xs' μ' : List D) (Fc' G E : List Addr) (ρ' : List D), put xs' = some ρ' → Sta K W' τ xs' μ' Fc' → (G ++ Fc').Nodup → (∀ a ∈ G, Own W' a) → (∀ a ∈ E, Own W a ∧ a ∉ F) → Mv W W' (E ++ Fc) (G ++ Fc') →
    ∃ F', Sta K W' σ ρ' μ' F' ∧ (G ++ F').Nodup ∧ Mv W W' (E ++ F) (G ++ F')
section
variable {K : PySem.W.Frag} {W : Wd} {σ τ τ2 : L2.St} {ρ μ xs xs2 : List D} {F : List Addr} {put put2 : List D → Option (List D)}
theorem Foc.trans (h : Foc K W σ ρ μ F τ xs put) (g : ∀ Fc, Sta K W τ xs μ Fc → Foc K W τ xs μ Fc τ2 xs2 put2) : Foc K W σ ρ μ F τ2 xs2 (fun ys => (put2 ys).bind put) := by
  obtain ⟨Fc, S, s1, k⟩ := h
  obtain ⟨Fd, S2, s2, k2⟩ := g Fc S
  refine ⟨Fd, S2, fun a ha => s1 a (s2 a ha), fun W' xs' μ' Fc' G E ρ' hp S' nd own hE mv => ?_⟩
  obtain ⟨ys, e1, e2⟩ := bind_some hp
  obtain ⟨Fe, S3, nd3, mv3⟩ := k2 W' xs' μ' Fc' G E ys e1 S' nd own (fun a ha => ⟨(hE a ha).1, fun z => (hE a ha).2 (s1 a z)⟩) mv
  exact k W' ys μ' Fe G E ρ' e2 S3 nd3 own hE mv3
theorem Foc.put_imp {put' : List D → Option (List D)} (h : Foc K W σ ρ μ F τ xs put) (e : ∀ ys zs, put' ys = some zs → put ys = some zs) : Foc K W σ ρ μ F τ xs put' := by
  obtain ⟨Fc, S, s1, k⟩ := h
  exact ⟨Fc, S, s1, fun W' xs' μ' Fc' G E ρ' hp => k W' xs' μ' Fc' G E ρ' (e _ _ hp)⟩
def put1 (g : D → Option (List D)) : List D → Option (List D)
  | [d] => g d
  | _ => none
theorem RS_one {K : PySem.W.Frag} {W : Wd} {xs : List D} {o : Option V} {F : List Addr} (h : RS K W xs [o] F) : ∃ d, xs = [d] := by
  have e := RS_len h
  match xs, e with
  | [d], _ => exact ⟨d, rfl⟩
/-- one slot -/
theorem foc_slot (S : Sta K W σ ρ μ F) {i : Nat} {d : D} (hi : ρ[i]? = some d) (hne : d ≠ .un) : ∃ v, σ[i]? = some (some v) ∧ Foc K W σ ρ μ F [some v] [d] (put1 fun d' => some (ρ.set i d')) := by
  obtain ⟨v, F', hv, S1, pm⟩ := sta_out S hi hne
  obtain ⟨Fc, S2, sub, k⟩ := sta_frame (τ := [some v]) (xs := [d]) S1 rfl
  refine ⟨v, hv, Fc, S2, fun a ha => pm.mem_iff.mp (sub a ha), fun W' xs' μ' Fc' G E ρ' hp S' nd own hE mv => ?_⟩
  obtain ⟨d', rfl⟩ : ∃ d', xs' = [d'] := by
    obtain ⟨F1, F2, h1, _, _⟩ := S'.ex
    exact RS_one h1
  cases hp
  obtain ⟨F3, S3, nd3, mv3⟩ := k W' [d'] μ' Fc' G E S' nd own (fun a ha => ⟨(hE a ha).1, fun z => (hE a ha).2 (pm.mem_iff.mp z)⟩) mv
  obtain ⟨F4, S4, sub4⟩ := sta_in (σ := σ) (ρ := ρ.set i .un) (m := i) S3 hv
  rw [List.set_set] at S4
  have ndG := List.nodup_append.mp nd3
  exact ⟨F4, S4, List.nodup_append.mpr ⟨ndG.1, S4.nd, fun a ha b hb => ndG.2.2 a ha b (sub4 b hb)⟩, mv3.sub (fun a ha => (List.mem_append.mp ha).elim (List.mem_append_left _) fun z => List.mem_append_right _ (pm.mem_iff.mp z)) fun a ha => (List.mem_append.mp ha).elim (List.mem_append_left _) fun z => List.mem_append_right _ (sub4 a z)⟩
/-- what stands at the front -/
theorem foc_front {o : Option V} {d : D} (S : Sta K W (o :: σ) (d :: ρ) μ F) : Foc K W (o :: σ) (d :: ρ) μ F [o] [d] (put1 fun d' => some (d' :: ρ)) := by
  obtain ⟨Fc, S2, sub, k⟩ := sta_frame (τ := [o]) (xs := [d]) S rfl
  refine ⟨Fc, S2, sub, fun W' xs' μ' Fc' G E ρ' hp S' nd own hE mv => ?_⟩
  obtain ⟨d', rfl⟩ : ∃ d', xs' = [d'] := by
    obtain ⟨F1, F2, h1, _, _⟩ := S'.ex
    exact RS_one h1
  cases hp
  exact k W' [d'] μ' Fc' G E S' nd own hE mv
/-- values without places of their own, besides -/
theorem foc_vals {ds : List D} {vs : List V} (S : Sta K W τ xs μ F) (r : RL K W ds vs []) : Foc K W τ xs μ F (τ ++ vs.map some) (xs ++ ds) (fun ys => some (ys.take xs.length)) := by
  have rs : ∀ {ds : List D} {vs : List V}, RL K W ds vs [] → RS K W ds (vs.map some) [] := by
    intro ds
    induction ds with
    | nil => exact fun {vs} h => by rw [h.1]; exact ⟨rfl, rfl⟩
    | cons d ds ih =>
      intro vs h
      obtain ⟨v, vs', F1, F2, h1, h2, h3, h4⟩ := h
      obtain ⟨rfl, rfl⟩ := List.append_eq_nil_iff.mp h4.symm
      rw [h1]
      exact ⟨some v, vs'.map some, [], [], rfl, R1_of h2, ih h3, rfl⟩
  obtain ⟨⟨F1, F2, h1, h2, h3⟩, nd, own, ok⟩ := S
  refine ⟨F, ⟨⟨F1, F2, by
    have := RS_app h1 (rs r)
    rw [List.append_nil] at this
    exact this, h2, h3⟩, nd, own, ok⟩, fun _ h => h, fun W' xs' μ' Fc' G E ρ' hp S' nd' own' hE mv => ?_⟩
  cases hp
  obtain ⟨⟨G1, G2, p1, p2, p3⟩, nd2, own2, ok2⟩ := S'
  subst p3
  have hl := RS_len p1
  have lx := RS_len h1
  have hx : xs' = xs'.take xs.length ++ xs'.drop xs.length := (List.take_append_drop ..).symm
  have hle : xs.length ≤ xs'.length := by
    rw [List.length_append] at hl
    omega
  rw [hx] at p1
  obtain ⟨G3, G4, q1, q2, q3⟩ := RS_cut (by rw [List.length_take, lx]; omega) p1
  subst q1
  have sub : (G3 ++ G2).Sublist (G3 ++ G4 ++ G2) := List.Sublist.append (List.sublist_append_left G3 G4) (List.Sublist.refl G2)
  refine ⟨G3 ++ G2, ⟨⟨G3, G2, q2, p2, rfl⟩, nd2.sublist sub, fun a ha => own2 a (sub.subset ha), ok2⟩, nd'.sublist (List.Sublist.append (List.Sublist.refl G) sub), mv.sub (fun a h => h) fun a ha => (List.Sublist.append (List.Sublist.refl G) sub).subset ha⟩
/-! ### fields -/
/-- the place of a name -/
def fidx (x : Str) : List Str → Option Nat
  | [] => none
  | y :: ns => if y = x then some 0 else (fidx x ns).map Nat.succ
theorem fidx_lookup {x : Str} : ∀ {ns : List Str} {vs : List V} {i : Nat}, fidx x ns = some i → ns.length = vs.length → (ns.zip vs).lookup x = vs[i]?
  | [], _, _, h, _ => by cases h
  | y :: ns, [], _, _, hl => by cases hl
  | y :: ns, v :: vs, i, h, hl => by
    unfold fidx at h
    by_cases e : y = x
    · rw [if_pos e] at h
      cases h
      subst e
      show List.lookup y ((y, v) :: ns.zip vs) = some v
      rw [List.lookup_cons, beq_self_eq_true]
    · rw [if_neg e] at h
      obtain ⟨j, h1, h2⟩ := map_some h
      subst h2
      show List.lookup x ((y, v) :: ns.zip vs) = _
      rw [List.lookup_cons, show (x == y) = false from beq_eq_false_iff_ne.mpr fun z => e z.symm]
      exact fidx_lookup h1 (Nat.succ.inj hl)
theorem fidx_none {x : Str} : ∀ {ns : List Str} {vs : List V}, fidx x ns = none → (ns.zip vs).lookup x = none
  | [], _, _ => rfl
  | y :: ns, [], _ => rfl
  | y :: ns, v :: vs, h => by
    unfold fidx at h
    by_cases e : y = x
    · rw [if_pos e] at h
      cases h
    · rw [if_neg e] at h
      have h1 : fidx x ns = none := Option.map_eq_none_iff.mp h
      show List.lookup x ((y, v) :: ns.zip vs) = _
      rw [List.lookup_cons, show (x == y) = false from beq_eq_false_iff_ne.mpr fun z => e z.symm]
      exact fidx_none h1
theorem fidx_lt {x : Str} : ∀ {ns : List Str} {i : Nat}, fidx x ns = some i → i < ns.length
  | [], _, h => by cases h
  | y :: ns, i, h => by
    unfold fidx at h
    by_cases e : y = x
    · rw [if_pos e] at h
      cases h
      exact Nat.succ_pos _
    · rw [if_neg e] at h
      obtain ⟨j, h1, h2⟩ := map_some h
      subst h2
      exact Nat.succ_lt_succ (fidx_lt h1)
theorem putF_set {x : Str} {v : V} : ∀ {ns : List Str} {vs : List V} {i : Nat}, fidx x ns = some i → ns.length = vs.length → putF x v (ns.zip vs) = ns.zip (vs.set i v)
  | [], _, _, h, _ => by cases h
  | y :: ns, [], _, _, hl => by cases hl
  | y :: ns, u :: vs, i, h, hl => by
    unfold fidx at h
    rw [List.zip_cons_cons, show putF x v ((y, u) :: ns.zip vs) = (if y = x then (y, v) :: ns.zip vs else (y, u) :: putF x v (ns.zip vs)) from rfl]
    by_cases e : y = x
    · rw [if_pos e] at h
      cases h
      rw [if_pos e]
      rfl
    · rw [if_neg e] at h
      obtain ⟨j, h1, h2⟩ := map_some h
      subst h2
      rw [if_neg e, putF_set h1 (Nat.succ.inj hl)]
      rfl
theorem putF_new {x : Str} {v : V} : ∀ {ns : List Str} {vs : List V}, fidx x ns = none → ns.length = vs.length → putF x v (ns.zip vs) = (ns ++ [x]).zip (vs ++ [v])
  | [], [], _, _ => rfl
  | [], _ :: _, _, hl => by cases hl
  | y :: ns, [], _, hl => by cases hl
  | y :: ns, u :: vs, h, hl => by
    unfold fidx at h
    rw [List.zip_cons_cons, show putF x v ((y, u) :: ns.zip vs) = (if y = x then (y, v) :: ns.zip vs else (y, u) :: putF x v (ns.zip vs)) from rfl]
    by_cases e : y = x
    · rw [if_pos e] at h
      cases h
    · rw [if_neg e] at h
      have h1 : fidx x ns = none := Option.map_eq_none_iff.mp h
      rw [if_neg e, putF_new h1 (Nat.succ.inj hl)]
      rfl
theorem RL_lens : ∀ {ds : List D} {vs : List V} {F : List Addr} {j : Nat} {d : D}, RL K W ds vs F → ds[j]? = some d → ∃ v A B C, vs[j]? = some v ∧ F = A ++ (B ++ C) ∧ R K W d v B ∧
    ∀ (W' : Wd) (d' : D) (v' : V) (G : List Addr), Lt W W' → (∀ b ∈ A ++ C, W'.H b = W.H b) → R K W' d' v' G → RL K W' (ds.set j d') (vs.set j v') (A ++ (G ++ C))
  | [], _, _, j, _, _, h => by simp at h
  | d0 :: ds, _, _, 0, d, h, h1 => by
    obtain ⟨v, vs', F1, F2, e1, e2, e3, e4⟩ := h
    have e : d0 = d := Option.some.inj h1
    subst e
    exact ⟨v, [], F1, F2, by rw [e1]; rfl, e4, e2, fun W' d' v' G lt k r => by rw [e1]; exact ⟨v', vs', G, F2, rfl, r, RL_keep lt ds (fun b hb => k b hb) e3, rfl⟩⟩
  | d0 :: ds, _, _, j + 1, d, h, h1 => by
    obtain ⟨v, vs', F1, F2, e1, e2, e3, e4⟩ := h
    obtain ⟨u, A, B, C, q1, q2, q3, q4⟩ := RL_lens (j := j) e3 (by simpa using h1)
    refine ⟨u, F1 ++ A, B, C, by rw [e1]; simpa using q1, by rw [e4, q2, List.append_assoc], q3, fun W' d' v' G lt k r => ?_⟩
    rw [e1]
    refine ⟨v, vs'.set j v', F1, A ++ (G ++ C), rfl, R_keep lt d0 (fun b hb => k b ?_) e2, q4 W' d' v' G lt (fun b hb => k b ?_) r, by rw [List.append_assoc]⟩
    · exact List.mem_append_left _ (List.mem_append_left _ hb)
    · rcases List.mem_append.mp hb with z | z
      · exact List.mem_append_left _ (List.mem_append_right _ z)
      · exact List.mem_append_right _ z
end
end Fw
/-! # fields seen apart and set; how an expression that changes something ends -/
namespace Fw
open PySem PySem.Spec PyProof.Rows L2
open Evl (Ex)
def isUn : D → Bool
  | .un => true
  | _ => false
theorem isUn_ne {d : D} (h : isUn d = false) : d ≠ .un := fun z => by
  subst z
  cases h
section
variable {K : PySem.W.Frag} {W : Wd} {σ τ τ2 : L2.St} {ρ μ xs xs2 : List D} {F : List Addr}
/-- a field of an instance that stands apart -/
theorem foc_fld {o : Option V} {c : Str} {ns : List Str} {ds : List D} {x : Str} {i : Nat} {d : D} (S : Sta K W [o] [.obj c ns ds] μ F) (hx : fidx x ns = some i) (hi : ds[i]? = some d) :
    ∃ a dx vs v, o = some (.ref a) ∧ W.H a = some (.ins (He.ga K c) dx (ns.zip vs)) ∧ ns.length = ds.length ∧ vs.length = ds.length ∧ (ns.zip vs).lookup x = some v ∧ Foc K W [o] [.obj c ns ds] μ F [some v] [d] (put1 fun d' => if isUn d' = true then none else some [.obj c ns (ds.set i d')]) := by
  obtain ⟨G0, F0, r, S0, e0⟩ := sta_tail S
  rw [R1_iff] at r
  rcases r with ⟨z, _⟩ | ⟨u, rfl, a, dx, vs, F', rfl, hH, hn, hR, rfl⟩
  · cases z
  obtain ⟨v, A, B, C, q1, q2, q3, q4⟩ := RL_lens hR hi
  subst q2
  have lv := RL_len hR
  have hv : (ns.zip vs).lookup x = some v := by
    rw [fidx_lookup hx (by rw [hn, lv])]
    exact q1
  refine ⟨a, dx, vs, v, rfl, hH, hn, lv, hv, ?_⟩
  obtain ⟨⟨F1, F2, p1, p2, p3⟩, nd0, own0, ok⟩ := S0
  obtain ⟨_, rfl⟩ := p1
  have e3 : F0 = F2 := p3
  subst e3
  have nd := S.nd
  have own := S.own
  rw [e0] at nd own
  -- B and the store on the one side; a, A, C on the other
  have pm : (a :: (A ++ (B ++ C)) ++ F0).Perm (B ++ F0 ++ (a :: (A ++ C))) := by
    have z1 : (a :: (A ++ (B ++ C)) ++ F0).Perm (B ++ (a :: (A ++ C)) ++ F0) := by
      refine List.Perm.append_right F0 ?_
      exact ((List.perm_append_comm_assoc A B C).cons a).trans List.perm_middle.symm
    refine z1.trans ?_
    rw [List.append_assoc, List.append_assoc]
    exact List.Perm.append_left B List.perm_append_comm
  have nd2 := nodup_of_perm pm.symm nd
  have nd3 := List.nodup_append.mp nd2
  have inB : ∀ b ∈ B ++ F0, b ∈ F := fun b hb => by
    rw [e0]
    exact pm.mem_iff.mpr (List.mem_append_left _ hb)
  have inR : ∀ b ∈ a :: (A ++ C), b ∈ F ∧ b ∉ B ++ F0 := fun b hb => ⟨by rw [e0]; exact pm.mem_iff.mpr (List.mem_append_right _ hb), fun z => nd3.2.2 b z b hb rfl⟩
  refine ⟨B ++ F0, ⟨⟨B, F0, ⟨some v, [], B, [], rfl, R1_of q3, ⟨rfl, rfl⟩, (List.append_nil B).symm⟩, p2, rfl⟩, nd3.1, fun b hb => S.own b (inB b hb), ok⟩, inB, fun W' xs' μ' Fc' G E ρ' hp S' ndG ownG hE mv => ?_⟩
  obtain ⟨d', rfl⟩ : ∃ d', xs' = [d'] := by
    obtain ⟨F1, F2, h1, _, _⟩ := S'.ex
    exact RS_one h1
  have hne : d' ≠ .un := fun z => by
    subst z
    cases hp
  have hp2 : ρ' = [.obj c ns (ds.set i d')] := by
    cases d' <;> first
      | exact absurd rfl hne
      | (cases hp; rfl)
  subst hp2
  have lt := mv.lt fun b hb => (List.mem_append.mp hb).elim (fun z => (hE b z).1) fun z => S.own b (inB b z)
  have nE : ∀ b, b ∈ F → b ∉ B ++ F0 → b ∉ E ++ (B ++ F0) := fun b h h' z => (List.mem_append.mp z).elim (fun z => (hE b z).2 h) h'
  have inEB : ∀ b, b ∈ E ++ (B ++ F0) → b ∈ E ++ F := fun b z => (List.mem_append.mp z).elim (List.mem_append_left _) fun z => List.mem_append_right _ (inB b z)
  have stay : ∀ b ∈ a :: (A ++ C), W'.H b = W.H b := fun b hb => by
    obtain ⟨h4, h5⟩ := inR b hb
    obtain ⟨_, w⟩ := S.own b h4
    rcases w with ⟨ys, w⟩ | ⟨Cc, dx, fs, w⟩
    · rw [w]
      exact mv.keep b _ w (nE b h4 h5)
    · rw [w]
      exact mv.keep b _ w (nE b h4 h5)
  have apart : ∀ b ∈ G ++ Fc', b ∉ a :: (A ++ C) := fun b hb z => by
    obtain ⟨h4, h5⟩ := inR b z
    rcases mv.own b hb with q | q
    · exact nE b h4 h5 q
    · obtain ⟨_, w⟩ := S.own b h4
      rcases w with ⟨ys, w⟩ | ⟨Cc, dx, fs, w⟩ <;> rw [q] at w <;> cases w
  obtain ⟨G1, Fs, r1, S1, e1⟩ := sta_tail S'
  rw [R1_iff] at r1
  rcases r1 with ⟨z, _⟩ | ⟨v', ev, r1⟩
  · exact absurd z hne
  injection ev with ev
  subst ev
  obtain ⟨⟨F5, F6, w1, w2, w3⟩, nd5, own5, ok5⟩ := S1
  obtain ⟨_, rfl⟩ := w1
  have e6 : Fs = F6 := w3
  subst e6
  subst e1
  have hset : vs.set i v = vs := set_self q1
  have rr := q4 W' d' v G1 lt (fun b hb => stay b (List.mem_cons_of_mem _ hb)) r1
  rw [hset] at rr
  have robj : R K W' (.obj c ns (ds.set i d')) (.ref a) (a :: (A ++ (G1 ++ C))) := ⟨a, dx, vs, _, rfl, by rw [stay a (List.mem_cons_self ..)]; exact hH, by rw [List.length_set]; exact hn, rr, rfl⟩
  have pm2 : (G ++ ((a :: (A ++ (G1 ++ C))) ++ Fs)).Perm (G ++ (G1 ++ Fs) ++ (a :: (A ++ C))) := by
    rw [List.append_assoc G]
    refine List.Perm.append_left G ?_
    have z1 : (a :: (A ++ (G1 ++ C)) ++ Fs).Perm (G1 ++ (a :: (A ++ C)) ++ Fs) := by
      refine List.Perm.append_right Fs ?_
      exact ((List.perm_append_comm_assoc A G1 C).cons a).trans List.perm_middle.symm
    refine z1.trans ?_
    rw [List.append_assoc, List.append_assoc]
    exact List.Perm.append_left G1 List.perm_append_comm
  have ndA : (G ++ ((a :: (A ++ (G1 ++ C))) ++ Fs)).Nodup := nodup_of_perm pm2 (List.nodup_append.mpr ⟨ndG, nd3.2.1, fun b hb b' hb' z => apart b hb (z ▸ hb')⟩)
  have ownA : ∀ b ∈ G ++ (G1 ++ Fs) ++ (a :: (A ++ C)), b ∉ G → Own W' b := fun b hb hG => by
    rcases List.mem_append.mp hb with z | z
    · rcases List.mem_append.mp z with z | z
      · exact absurd z hG
      · exact S'.own b z
    · obtain ⟨h4, h5⟩ := inR b z
      obtain ⟨w1, w2⟩ := S.own b h4
      refine ⟨fun z' => ?_, by rw [stay b z]; exact w2⟩
      rcases mv.nf b z' with q | q | q
      · exact w1 q
      · rcases w2 with ⟨ys, w⟩ | ⟨Cc, dx, fs, w⟩ <;> rw [q] at w <;> cases w
      · exact nE b h4 h5 q
  have ndB := List.nodup_append.mp ndA
  refine ⟨(a :: (A ++ (G1 ++ C))) ++ Fs, ⟨⟨_, Fs, ⟨some (.ref a), [], _, [], rfl, R1_of robj, ⟨rfl, rfl⟩, (List.append_nil _).symm⟩, w2, rfl⟩, ndB.2.1, fun b hb => ownA b (pm2.mem_iff.mp (List.mem_append_right _ hb)) (fun z => ndB.2.2 b z b hb rfl), ok5⟩, ndA, ⟨fun b o e n => mv.keep b o e fun z => n (inEB b z), mv.fr, fun b e => (mv.nf b e).elim .inl fun z => .inr (z.elim .inl fun z => .inr (inEB b z)), fun b hb => ?_, mv.m⟩⟩
  rcases List.mem_append.mp (pm2.mem_iff.mp hb) with z | z
  · exact (mv.own b z).elim (fun q => .inl (inEB b q)) .inr
  · exact .inl (List.mem_append_right _ (inR b z).1)
end
end Fw
/-! # paths; a field is set; PX -/
namespace Fw
open PySem PySem.Spec PyProof.Rows L2
open Evl (Ex)
abbrev OkT := Str → Str → Bool
/-- the classes' table: ok c x: an instance of c may have a field x -/
def CE (K : PySem.W.Frag) (ok : OkT) : Prop := ∀ c x, ok c x = true → Cls K (He.ga K c) ∧ NoAttr K (He.ga K c) x
def pget (ok : OkT) : List Str → D → Option D
  | [], d => if isUn d = true then none else some d
  | x :: p, .obj c ns ds => if ok c x = true then (fidx x ns).bind fun i => (ds[i]?).bind (pget ok p) else none
  | _ :: _, _ => none
def pput : List Str → D → D → Option D
  | [], _, e => if isUn e = true then none else some e
  | x :: p, .obj c ns ds, e => (fidx x ns).bind fun i => (ds[i]?).bind fun d => (pput p d e).map fun d' => .obj c ns (ds.set i d')
  | _ :: _, _, _ => none
theorem pput_ne : ∀ {p : List Str} {d e d' : D}, pput p d e = some d' → isUn d' = false
  | [], _, e, d', h => by
    unfold pput at h
    by_cases z : isUn e = true
    · rw [if_pos z] at h
      cases h
    · rw [if_neg z] at h
      cases h
      exact Bool.eq_false_iff.mpr z
  | x :: p, .obj c ns ds, e, d', h => by
    obtain ⟨i, _, h⟩ := bind_some h
    obtain ⟨d, _, h⟩ := bind_some h
    obtain ⟨d2, _, rfl⟩ := map_some h
    rfl
  | x :: p, .non, e, d', h => by cases h
  | x :: p, .bl _, e, d', h => by cases h
  | x :: p, .int _, e, d', h => by cases h
  | x :: p, .str _, e, d', h => by cases h
  | x :: p, .tup _, e, d', h => by cases h
  | x :: p, .lst _, e, d', h => by cases h
  | x :: p, .ml _, e, d', h => by cases h
  | x :: p, .fo _ _ _, e, d', h => by cases h
  | x :: p, .ref _, e, d', h => by cases h
  | x :: p, .un, e, d', h => by cases h
/-- along the fields of the heap -/
def rdp (K : PySem.W.Frag) (H : Hp) : V → List Str → V → Prop
  | u, [], v => u = v
  | u, x :: p, v => ∃ a C dx fs w, u = .ref a ∧ H a = some (.ins C dx fs) ∧ Cls K C ∧ NoAttr K C x ∧ fs.lookup x = some w ∧ rdp K H w p v
theorem rdp_app {K : PySem.W.Frag} {H : Hp} {q : List Str} : ∀ {p : List Str} {u v : V}, rdp K H u (p ++ q) v → ∃ w, rdp K H u p w ∧ rdp K H w q v
  | [], u, v, h => ⟨u, rfl, h⟩
  | x :: p, u, v, h => by
    obtain ⟨a, C, dx, fs, w, h1, h2, h3, h4, h5, h6⟩ := h
    obtain ⟨z, h7, h8⟩ := rdp_app (p := p) h6
    exact ⟨z, ⟨a, C, dx, fs, w, h1, h2, h3, h4, h5, h7⟩, h8⟩
section
variable {K : PySem.W.Frag} {W : Wd} {σ τ τ2 : L2.St} {ρ μ xs xs2 : List D} {F : List Addr} {ok : OkT}
theorem foc_path (T : CE K ok) : ∀ (p : List Str) {μ : List D} {F : List Addr} {o : Option V} {d e : D}, Sta K W [o] [d] μ F → pget ok p d = some e → ∃ u v, o = some u ∧ rdp K W.H u p v ∧ Foc K W [o] [d] μ F [some v] [e] (put1 fun e' => (pput p d e').map fun d' => [d'])
  | [], μ, F, o, d, e, S, h => by
    unfold pget at h
    by_cases z : isUn d = true
    · rw [if_pos z] at h
      cases h
    rw [if_neg z] at h
    cases h
    obtain ⟨G, F', r, S', e1⟩ := sta_tail S
    rw [R1_iff] at r
    rcases r with ⟨q, _⟩ | ⟨v, rfl, r⟩
    · subst q
      exact absurd rfl z
    refine ⟨v, v, rfl, rfl, F, S, fun _ h => h, fun W' xs' μ' Fc' G E ρ' hp S' nd own hE mv => ?_⟩
    obtain ⟨d', rfl⟩ : ∃ d', xs' = [d'] := by
      obtain ⟨F1, F2, h1, _, _⟩ := S'.ex
      exact RS_one h1
    have hp2 : (pput [] d d').map (fun d' => [d']) = some ρ' := hp
    unfold pput at hp2
    by_cases z : isUn d' = true
    · rw [if_pos z] at hp2
      cases hp2
    rw [if_neg z] at hp2
    cases hp2
    exact ⟨Fc', S', nd, mv⟩
  | x :: p, μ, F, o, .obj c ns ds, e, S, h => by
    unfold pget at h
    by_cases hk : ok c x = true
    case neg => rw [if_neg hk] at h; cases h
    rw [if_pos hk] at h
    obtain ⟨i, h1, h⟩ := bind_some h
    obtain ⟨d, h2, h⟩ := bind_some h
    obtain ⟨a, dx, vs, v, rfl, q1, q2, q3, q4, fo⟩ := foc_fld S h1 h2
    have fo2 := fo
    obtain ⟨Fc, S2, _, _⟩ := fo2
    obtain ⟨w, v2, e1, r2, _⟩ := foc_path T p S2 h
    injection e1 with e1
    subst e1
    obtain ⟨cl, na⟩ := T c x hk
    refine ⟨.ref a, v2, rfl, ⟨a, _, dx, _, v, rfl, q1, cl, na, q4, r2⟩, ?_⟩
    refine (fo.trans (put2 := put1 fun e' => (pput p d e').map fun d' => [d']) (fun Fd Sd => ?_)).put_imp ?_
    · obtain ⟨w', v3, e2, r3, fo3⟩ := foc_path T p Sd h
      injection e2 with e2
      subst e2
      have det : ∀ {p : List Str} {u v v' : V}, rdp K W.H u p v → rdp K W.H u p v' → v = v' := by
        intro p
        induction p with
        | nil => exact fun h h' => h.symm.trans h'
        | cons y p ih =>
          rintro u v v' ⟨a, C, dx, fs, w, h1, h2, h3, h4, h5, h6⟩ ⟨a', C', dx', fs', w', g1, g2, g3, g4, g5, g6⟩
          subst h1
          cases g1
          rw [h2] at g2
          cases g2
          rw [h5] at g5
          cases g5
          exact ih h6 g6
      rw [det r2 r3]
      exact fo3
    · intro ys zs hz
      match ys, hz with
      | [e'], hz =>
        have hz2 : (pput (x :: p) (.obj c ns ds) e').map (fun d' => [d']) = some zs := hz
        unfold pput at hz2
        rw [h1] at hz2
        obtain ⟨d3, hz3, rfl⟩ := map_some hz2
        obtain ⟨d4, h5, hz4⟩ := bind_some (show (ds[i]?).bind (fun d => (pput p d e').map fun d' => D.obj c ns (ds.set i d')) = some d3 from hz3)
        rw [h2] at h5
        cases h5
        obtain ⟨d5, h6, rfl⟩ := map_some hz4
        show ((pput p d e').map fun d' => [d']).bind _ = _
        rw [h6]
        show (if isUn d5 = true then none else some [D.obj c ns (ds.set i d5)]) = _
        rw [if_neg (by rw [pput_ne h6]; exact Bool.false_ne_true)]
  | x :: p, μ, F, o, .non, e, S, h => by cases h
  | x :: p, μ, F, o, .bl _, e, S, h => by cases h
  | x :: p, μ, F, o, .int _, e, S, h => by cases h
  | x :: p, μ, F, o, .str _, e, S, h => by cases h
  | x :: p, μ, F, o, .tup _, e, S, h => by cases h
  | x :: p, μ, F, o, .lst _, e, S, h => by cases h
  | x :: p, μ, F, o, .ml _, e, S, h => by cases h
  | x :: p, μ, F, o, .fo _ _ _, e, S, h => by cases h
  | x :: p, μ, F, o, .ref _, e, S, h => by cases h
  | x :: p, μ, F, o, .un, e, S, h => by cases h
theorem pget_ne : ∀ {p : List Str} {d e : D}, pget ok p d = some e → isUn d = false ∧ isUn e = false
  | [], d, e, h => by
    unfold pget at h
    by_cases z : isUn d = true
    · rw [if_pos z] at h
      cases h
    rw [if_neg z] at h
    cases h
    exact ⟨Bool.eq_false_iff.mpr z, Bool.eq_false_iff.mpr z⟩
  | x :: p, .obj c ns ds, e, h => by
    unfold pget at h
    by_cases hk : ok c x = true
    case neg => rw [if_neg hk] at h; cases h
    rw [if_pos hk] at h
    obtain ⟨i, h1, h⟩ := bind_some h
    obtain ⟨d, h2, h⟩ := bind_some h
    exact ⟨rfl, (pget_ne h).2⟩
  | x :: p, .non, e, h => by cases h
  | x :: p, .bl _, e, h => by cases h
  | x :: p, .int _, e, h => by cases h
  | x :: p, .str _, e, h => by cases h
  | x :: p, .tup _, e, h => by cases h
  | x :: p, .lst _, e, h => by cases h
  | x :: p, .ml _, e, h => by cases h
  | x :: p, .fo _ _ _, e, h => by cases h
  | x :: p, .ref _, e, h => by cases h
  | x :: p, .un, e, h => by cases h
/-- a slot's part at a path -/
theorem foc_sp (T : CE K ok) (S : Sta K W σ ρ μ F) {i : Nat} {p : List Str} {d e : D} (hi : ρ[i]? = some d) (hp : pget ok p d = some e) :
    ∃ u v, σ[i]? = some (some u) ∧ rdp K W.H u p v ∧ Foc K W σ ρ μ F [some v] [e] (put1 fun e' => (pput p d e').map fun d' => ρ.set i d') := by
  obtain ⟨u, hu, fo⟩ := foc_slot S hi (isUn_ne (pget_ne hp).1)
  have fo2 := fo
  obtain ⟨Fc, S2, _⟩ := fo2
  obtain ⟨u', v, e1, r2, _⟩ := foc_path T p S2 hp
  injection e1 with e1
  subst e1
  refine ⟨u, v, hu, r2, ?_⟩
  refine (fo.trans (put2 := put1 fun e' => (pput p d e').map fun d' => [d']) (fun Fd Sd => ?_)).put_imp ?_
  · obtain ⟨w', v3, e2, r3, fo3⟩ := foc_path T p Sd hp
    injection e2 with e2
    subst e2
    have det : ∀ {p : List Str} {u v v' : V}, rdp K W.H u p v → rdp K W.H u p v' → v = v' := by
      intro p
      induction p with
      | nil => exact fun h h' => h.symm.trans h'
      | cons y p ih =>
        rintro u v v' ⟨a, C, dx, fs, w, h1, h2, h3, h4, h5, h6⟩ ⟨a', C', dx', fs', w', g1, g2, g3, g4, g5, g6⟩
        subst h1
        cases g1
        rw [h2] at g2
        cases g2
        rw [h5] at g5
        cases g5
        exact ih h6 g6
    rw [det r2 r3]
    exact fo3
  · intro ys zs hz
    match ys, hz with
    | [e'], hz =>
      obtain ⟨d3, h6, rfl⟩ := map_some (show (pput p d e').map (fun d' => ρ.set i d') = some zs from hz)
      show ((pput p d e').map fun d' => [d']).bind _ = _
      rw [h6]
      rfl
/-! ### a field is set -/
def putD (x : Str) (d : D) (c : Str) (ns : List Str) (ds : List D) : D := match fidx x ns with
  | some i => .obj c ns (ds.set i d)
  | none => .obj c (ns ++ [x]) (ds ++ [d])
theorem Lt.upd_ins {W : Wd} {a C dx C' dx' : Addr} {fs fs' : List (Str × V)} (h : W.H a = some (.ins C dx fs)) (hf : ¬ W.Fr a) : Lt W ⟨upd W.H a (.ins C' dx' fs'), W.Fr, W.m⟩ := by
  have ne : ∀ b o, W.H b = some o → (∀ C dx fs, o ≠ .ins C dx fs) → upd W.H a (.ins C' dx' fs') b = some o := fun b o e n => by
    rw [upd_ne fun z => ?_]
    · exact e
    · subst z
      rw [h] at e
      exact n _ _ _ (Option.some.inj e).symm
  refine ⟨fun b xs r => ?_, fun b xs r => ⟨?_, r.2⟩, fun b C dx fs r r' => ⟨?_, r'⟩, fun _ _ h => h⟩
  · rcases r with r | ⟨o, r⟩
    · exact .inl (ne b _ r fun _ _ _ z => nomatch z)
    · exact .inr ⟨o, ne b _ r fun _ _ _ z => nomatch z⟩
  · rcases r.1 with r | ⟨o, r⟩
    · exact .inl (ne b _ r fun _ _ _ z => nomatch z)
    · exact .inr ⟨o, ne b _ r fun _ _ _ z => nomatch z⟩
  · show upd W.H a _ b = _
    rw [upd_ne fun z => hf (by rw [← z]; exact r')]
    exact r
/-- the instance with the value in its field -/
theorem R_put {a dx : Addr} {c x : Str} {ns : List Str} {ds : List D} {vs : List V} {F' Gy : List Addr} {dy : D} {y : V} (hH : W.H a = some (.ins (He.ga K c) dx (ns.zip vs))) (hn : ns.length = ds.length) (hR : RL K W ds vs F') (ry : R K W dy y Gy)
    (nd : (Gy ++ (a :: F')).Nodup) (hf : ¬ W.Fr a) : ∃ F'', R K ⟨upd W.H a (.ins (He.ga K c) dx (putF x y (ns.zip vs))), W.Fr, W.m⟩ (putD x dy c ns ds) (.ref a) F'' ∧ F''.Nodup ∧ ∀ b ∈ F'', b ∈ Gy ++ (a :: F') := by
  have lt : Lt W ⟨upd W.H a (.ins (He.ga K c) dx (putF x y (ns.zip vs))), W.Fr, W.m⟩ := Lt.upd_ins hH hf
  have nd1 := List.nodup_append.mp nd
  have nd2 := List.nodup_cons.mp nd1.2.1
  have lv := RL_len hR
  have off : ∀ b, b ≠ a → (⟨upd W.H a (.ins (He.ga K c) dx (putF x y (ns.zip vs))), W.Fr, W.m⟩ : Wd).H b = W.H b := fun b hb => upd_ne hb
  have offF : ∀ b ∈ F', b ≠ a := fun b hb z => nd2.1 (z ▸ hb)
  have offG : ∀ b ∈ Gy, b ≠ a := fun b hb z => nd1.2.2 b hb a (List.mem_cons_self ..) z
  have ry' : R K ⟨upd W.H a (.ins (He.ga K c) dx (putF x y (ns.zip vs))), W.Fr, W.m⟩ dy y Gy := R_keep lt dy (fun b hb => off b (offG b hb)) ry
  unfold putD
  cases e : fidx x ns with
  | some i =>
    have hi : i < ds.length := by
      rw [← hn]
      exact fidx_lt e
    obtain ⟨v, A, B, C, q1, q2, q3, q4⟩ := RL_lens (j := i) (d := ds[i]) hR (List.getElem?_eq_getElem hi)
    subst q2
    have rr := q4 _ dy y Gy lt (fun b hb => off b (offF b (by
      rcases List.mem_append.mp hb with z | z
      · exact List.mem_append_left _ z
      · exact List.mem_append_right _ (List.mem_append_right _ z)))) ry'
    refine ⟨a :: (A ++ (Gy ++ C)), ⟨a, dx, vs.set i y, _, rfl, ?_, by rw [List.length_set]; exact hn, rr, rfl⟩, ?_, fun b hb => ?_⟩
    · show upd W.H a _ a = _
      rw [upd_same, putF_set e (by rw [hn, lv])]
    · have pm : (Gy ++ (a :: (A ++ C))).Perm (a :: (A ++ (Gy ++ C))) := List.perm_middle.trans ((List.perm_append_comm_assoc Gy A C).cons a)
      have sub : (Gy ++ (a :: (A ++ C))).Sublist (Gy ++ (a :: (A ++ (B ++ C)))) := List.Sublist.append (List.Sublist.refl Gy) ((List.Sublist.append (List.Sublist.refl A) (List.sublist_append_right B C)).cons₂ a)
      exact nodup_of_perm pm.symm (nd.sublist sub)
    · rcases List.mem_cons.mp hb with z | z
      · rw [z]
        exact List.mem_append_right _ (List.mem_cons_self ..)
      · rcases List.mem_append.mp z with z | z
        · exact List.mem_append_right _ (List.mem_cons_of_mem _ (List.mem_append_left _ z))
        · rcases List.mem_append.mp z with z | z
          · exact List.mem_append_left _ z
          · exact List.mem_append_right _ (List.mem_cons_of_mem _ (List.mem_append_right _ (List.mem_append_right _ z)))
  | none =>
    have rr : RL K ⟨upd W.H a (.ins (He.ga K c) dx (putF x y (ns.zip vs))), W.Fr, W.m⟩ (ds ++ [dy]) (vs ++ [y]) (F' ++ Gy) := RL_app (RL_keep lt ds (fun b hb => off b (offF b hb)) hR) ⟨y, [], Gy, [], rfl, ry', ⟨rfl, rfl⟩, (List.append_nil Gy).symm⟩
    refine ⟨a :: (F' ++ Gy), ⟨a, dx, vs ++ [y], _, rfl, ?_, by rw [List.length_append, List.length_append, hn]; rfl, rr, rfl⟩, ?_, fun b hb => ?_⟩
    · show upd W.H a _ a = _
      rw [upd_same, putF_new e (by rw [hn, lv])]
    · have pm : (Gy ++ (a :: F')).Perm (a :: (F' ++ Gy)) := List.perm_middle.trans (List.perm_append_comm.cons a)
      exact nodup_of_perm pm.symm nd
    · rcases List.mem_cons.mp hb with z | z
      · rw [z]
        exact List.mem_append_right _ (List.mem_cons_self ..)
      · rcases List.mem_append.mp z with z | z
        · exact List.mem_append_right _ (List.mem_cons_of_mem _ z)
        · exact List.mem_append_left _ z
end
end Fw
/-! # PX: expressions that change something, or raise -/
namespace Fw
open PySem PySem.Spec PyProof.Rows L2
open Evl (Ex)
inductive EO where
  | ok (d : D) (ρ μ : List D) | ex (c : Str) (fs : List (Str × D)) (ρ μ : List D)
abbrev FX := List D → List D → Option EO
def GoesE (K : PySem.W.Frag) (Wx : WX) (Q : VK) (σ : L2.St) (W : Wd) (F : List Addr) : EO → Prop
  | .ok d ρ' μ' => ∀ v W' G F', R K W' d v G → Sta K W' σ ρ' μ' F' → (G ++ F').Nodup → (∀ a ∈ G, Own W' a) → Mv W W' F (G ++ F') → Q v W'.H
  | .ex c fs ρ' μ' => ∀ dx W' F', ExAt K W' fs dx → Sta K W' σ ρ' μ' F' → Mv W W' F F' → Wx (.ref (He.ga K c)) dx σ W'.H
def PXr (X : Cx) (Wx : WX) (te : TE) (g : FX) : Prop := ∀ (σ : L2.St) (W : Wd) (ρ μ : List D) (F : List Addr), Sta X.K W σ ρ μ F → ∀ o, g ρ μ = some o → ∀ Q : VK, GoesE X.K Wx Q σ W F o → te σ W.H Q
def PX (X : Cx) (Wx : WX) (e : Expr) (g : FX) : Prop := ∃ te : TE, PE X e te ∧ PXr X Wx te g
def GoesT (K : PySem.W.Frag) (Wx : WX) (Q : Bool → Hp → Prop) (σ : L2.St) (W : Wd) (F : List Addr) : EO → Prop
  | .ok d ρ' μ' => match d with
    | .bl b => ∀ W' F', Sta K W' σ ρ' μ' F' → Mv W W' F F' → Q b W'.H
    | _ => False
  | .ex c fs ρ' μ' => ∀ dx W' F', ExAt K W' fs dx → Sta K W' σ ρ' μ' F' → Mv W W' F F' → Wx (.ref (He.ga K c)) dx σ W'.H
def PTr (X : Cx) (Wx : WX) (tt : TT) (g : FX) : Prop := ∀ (σ : L2.St) (W : Wd) (ρ μ : List D) (F : List Addr), Sta X.K W σ ρ μ F → ∀ o, g ρ μ = some o → ∀ Q : Bool → Hp → Prop, GoesT X.K Wx Q σ W F o → tt σ W.H Q
def PTX (X : Cx) (Wx : WX) (e : Expr) (g : FX) : Prop := ∃ tt : TT, PT X e tt ∧ PTr X Wx tt g
def PWX (X : Cx) (Wx : WX) (e : Expr) (g : FX) : Prop := ∃ tt : TT, PW X e tt ∧ PTr X Wx tt g
theorem GoesE.after {K : PySem.W.Frag} {Wx : WX} {Q : VK} {σ : L2.St} {W W1 : Wd} {F F1 : List Addr} {o : EO} (h : GoesE K Wx Q σ W F o) (m : Mv W W1 F F1) : GoesE K Wx Q σ W1 F1 o := by
  cases o with
  | ok d ρ' μ' => exact fun v W' G F' r S nd own mv => h v W' G F' r S nd own (m.trans mv)
  | ex c fs ρ' μ' => exact fun dx W' F' r S mv => h dx W' F' r S (m.trans mv)
theorem GoesT.after {K : PySem.W.Frag} {Wx : WX} {Q : Bool → Hp → Prop} {σ : L2.St} {W W1 : Wd} {F F1 : List Addr} {o : EO} (h : GoesT K Wx Q σ W F o) (m : Mv W W1 F F1) : GoesT K Wx Q σ W1 F1 o := by
  cases o with
  | ok d ρ' μ' => cases d <;> first
    | exact h
    | exact fun W' F' S mv => h W' F' S (m.trans mv)
  | ex c fs ρ' μ' => exact fun dx W' F' r S mv => h dx W' F' r S (m.trans mv)
theorem GoesE.ex_of {K : PySem.W.Frag} {Wx : WX} {Q Q' : VK} {σ : L2.St} {W : Wd} {F : List Addr} {c : Str} {fs : List (Str × D)} {ρ μ : List D} (h : GoesE K Wx Q σ W F (.ex c fs ρ μ)) : GoesE K Wx Q' σ W F (.ex c fs ρ μ) := h
/-! ### values with no place of their own -/
def fl : D → Bool
  | .ref _ => true
  | d => data d
theorem R_fl {K : PySem.W.Frag} {W : Wd} {d : D} {v : V} {F : List Addr} (h : fl d = true) (r : R K W d v F) : F = [] := by
  cases d with
  | ref k =>
    obtain ⟨a, _, _, e⟩ := r
    exact e
  | _ => exact R_data _ h r
theorem R_mv {K : PySem.W.Frag} {W W' : Wd} {d : D} {v : V} {σ : L2.St} {ρ μ : List D} {F F' : List Addr} (S : Sta K W σ ρ μ F) (m : Mv W W' F F') (r : R K W d v []) : R K W' d v [] := R_lt (m.lt S.own) d r
theorem RL_mv {K : PySem.W.Frag} {W W' : Wd} {ds : List D} {vs : List V} {σ : L2.St} {ρ μ : List D} {F F' : List Addr} (S : Sta K W σ ρ μ F) (m : Mv W W' F F') (r : RL K W ds vs []) : RL K W' ds vs [] := RL_lt (m.lt S.own) ds r
def xB (f : FX) (k : D → FX) : FX := fun ρ μ => (f ρ μ).bind fun o => match o with
  | .ok d ρ' μ' => if fl d = true then k d ρ' μ' else none
  | .ex c fs ρ' μ' => some (.ex c fs ρ' μ')
section
variable {X : Cx} {Wx : WX} {e a b c : Expr} {es : List Expr} {f g : FX} {pos : Pos} {ok : OkT}
theorem run_bind {te : TE} {k : D → FX} (h1 : PXr X Wx te f) {σ : L2.St} {W : Wd} {ρ μ : List D} {F : List Addr} (S : Sta X.K W σ ρ μ F) {o : EO} (ho : xB f k ρ μ = some o) {Q : VK} (hx : ∀ c fs ρ' μ', o = .ex c fs ρ' μ' → GoesE X.K Wx Q σ W F (.ex c fs ρ' μ'))
    (hk : ∀ d v W1 ρ1 μ1 F1, fl d = true → R X.K W1 d v [] → Sta X.K W1 σ ρ1 μ1 F1 → Mv W W1 F F1 → k d ρ1 μ1 = some o → Q v W1.H) : te σ W.H Q := by
  obtain ⟨o1, e1, ho⟩ := bind_some ho
  refine h1 σ W ρ μ F S o1 e1 Q ?_
  cases o1 with
  | ok d ρ1 μ1 =>
    by_cases hd : fl d = true
    case neg =>
      have ho2 : (if fl d = true then k d ρ1 μ1 else none) = some o := ho
      rw [if_neg hd] at ho2
      cases ho2
    have ho2 : (if fl d = true then k d ρ1 μ1 else none) = some o := ho
    rw [if_pos hd] at ho2
    intro v W' G F' r S' nd own mv
    have z := R_fl hd r
    subst z
    exact hk d v W' ρ1 μ1 F' hd r S' mv ho2
  | ex c fs ρ' μ' =>
    cases ho
    exact hx _ _ _ _ rfl
/-- what is quiet -/
def xQ (q : FQ) : FX := fun ρ μ => (q ρ μ).bind fun d => if fl d = true then some (.ok d ρ μ) else none
theorem px_q {q : FQ} (h : PQ X e q) : PX X Wx e (xQ q) := by
  obtain ⟨te, p, k⟩ := h
  refine ⟨te, p, fun σ W ρ μ F S o ho Q hQ => ?_⟩
  obtain ⟨d, e1, ho⟩ := bind_some ho
  by_cases hd : fl d = true
  case neg => rw [if_neg hd] at ho; cases ho
  rw [if_pos hd] at ho
  cases ho
  refine k σ W ρ μ F S d e1 Q fun v W' G x r => ?_
  have z := R_fl hd r
  subst z
  exact hQ v W' [] F r (S.ext x) S.nd (fun _ hb => nomatch hb) x.mvr
/-- a new list -/
def xN (k : FA) : FX := fun ρ μ => (k ρ μ).map fun ds => .ok (.ml ds) ρ μ
theorem px_n {k : FA} (h : PN X e k) : PX X Wx e (xN k) := by
  obtain ⟨te, p, k1⟩ := h
  refine ⟨te, p, fun σ W ρ μ F S o ho Q hQ => ?_⟩
  obtain ⟨ds, e1, z⟩ := map_some ho
  subst z
  refine k1 σ W ρ μ F S ds e1 Q fun p W' n => ?_
  obtain ⟨x, new, nofr, vs, h1, h2⟩ := n
  have pF : p ∉ F := fun z => by
    obtain ⟨_, w⟩ := S.own p z
    rcases w with ⟨xs, w⟩ | ⟨C, dx, fs, w⟩ <;> rw [new] at w <;> cases w
  exact hQ (.ref p) W' [p] F ⟨p, vs, [], rfl, h1, h2, rfl⟩ (S.ext x) (List.nodup_cons.mpr ⟨pF, S.nd⟩) (fun b hb => by
    obtain rfl := List.mem_singleton.mp hb
    exact ⟨nofr, .inl ⟨vs, h1⟩⟩) ⟨fun b o h _ => x.ex b o h, x.fr, fun b h => (x.nf b h).elim .inl fun z => .inr (.inl z), fun b hb => (List.mem_cons.mp hb).elim (fun z => .inr (z ▸ new)) .inl, ⟨[], by rw [x.m, List.append_nil]⟩⟩
/-- what a slot has, handed over -/
def xMove (i : Nat) : FX := fun ρ μ => (ρ[i]?).bind fun d => if isUn d = true then none else some (.ok d (ρ.set i .un) μ)
theorem px_move (i : Nat) {x : Str} (hp : PE X (.Name x pos) (tVar i)) : PX X Wx (.Name x pos) (xMove i) := by
  refine ⟨_, hp, fun σ W ρ μ F S o ho Q hQ => ?_⟩
  obtain ⟨d, e1, ho⟩ := bind_some ho
  by_cases hd : isUn d = true
  case pos => rw [if_pos hd] at ho; cases ho
  rw [if_neg hd] at ho
  cases ho
  obtain ⟨v, F', hv, S', pm⟩ := sta_out S e1 (isUn_ne (Bool.eq_false_iff.mpr hd))
  obtain ⟨G, F2, r, S2, e2⟩ := sta_tail S'
  rw [R1_iff] at r
  rcases r with ⟨z, _⟩ | ⟨v', ev, r⟩
  · exact absurd z (isUn_ne (Bool.eq_false_iff.mpr hd))
  injection ev with ev
  subst ev
  subst e2
  exact ⟨v, hv, hQ v W G F2 r S2 S'.nd (fun b hb => S'.own b (List.mem_append_left _ hb)) (((Ext.refl S.ok).mvr (F := F)).sub (fun _ h => h) fun b hb => pm.mem_iff.mp hb)⟩
/-! ### operators -/
def xOp (o : D → D → Option D) (f g : FX) : FX := xB f fun x => xB g fun y => fun ρ μ => (o x y).bind fun d => if data d = true then some (.ok d ρ μ) else none
theorem runX2 {ta tb : TE} {r : R2} {o : D → D → Option D} (h1 : PXr X Wx ta f) (h2 : PXr X Wx tb g)
    (h3 : ∀ (W : Wd) (x y : D) (u v : V) (G1 G2 : List Addr), WOk W → R X.K W x u G1 → R X.K W y v G2 → ∀ d, o x y = some d → ∀ Q : VK, (∀ v W' G, Ext W W' → R X.K W' d v G → Q v W'.H) → r u v W.H Q) : PXr X Wx (tOp r ta tb) (xOp o f g) := by
  intro σ W ρ μ F S o1 ho Q hQ
  refine run_bind h1 S ho (fun c fs ρ' μ' z => by subst z; exact hQ) fun x u W1 ρ1 μ1 F1 hx rx S1 m1 ho1 => ?_
  refine run_bind h2 S1 ho1 (fun c fs ρ' μ' z => by subst z; exact hQ.after m1) fun y v W2 ρ2 μ2 F2 hy ry S2 m2 ho2 => ?_
  obtain ⟨d, e1, ho2⟩ := bind_some ho2
  by_cases hd : data d = true
  case neg => rw [if_neg hd] at ho2; cases ho2
  rw [if_pos hd] at ho2
  cases ho2
  refine h3 W2 x y u v [] [] S2.ok (R_mv S1 m2 rx) ry d e1 Q fun z W3 G3 x3 r3 => ?_
  have e := R_data d hd r3
  subst e
  exact hQ z W3 [] F2 r3 (S2.ext x3) S2.nd (fun _ hb => nomatch hb) ((m1.trans m2).trans x3.mvr)
theorem px_op {op : Operator} {o : D → D → Option D} (h : OpD X (binaryOp op) o) (ha : PX X Wx a f) (hb : PX X Wx b g) : PX X Wx (.BinOp a op b pos) (xOp o f g) := by
  obtain ⟨r, hr, h3⟩ := h
  obtain ⟨ta, pa, h1⟩ := ha
  obtain ⟨tb, pb, h2⟩ := hb
  exact ⟨_, pe_op hr pa pb, runX2 h1 h2 h3⟩
theorem px_cmp {op : CmpOp} {o : D → D → Option D} (h : OpD X (compareOp op) o) (ha : PX X Wx a f) (hb : PX X Wx b g) (hm : behindInMarks op b = false) : PX X Wx (.Compare a [op] [b] pos) (xOp o f g) := by
  obtain ⟨r, hr, h3⟩ := h
  obtain ⟨ta, pa, h1⟩ := ha
  obtain ⟨tb, pb, h2⟩ := hb
  exact ⟨_, pe_cmpR hr pa pb hm, runX2 h1 h2 h3⟩
theorem px_ix (ha : PX X Wx a f) (hb : PX X Wx b g) (hs : PlainIx b := by exact fun _ _ => rfl) : PX X Wx (.Subscript a b pos) (xOp dIx f g) := by
  obtain ⟨r, hr, h3⟩ := (ixd_all (X := X))
  obtain ⟨ta, pa, h1⟩ := ha
  obtain ⟨tb, pb, h2⟩ := hb
  exact ⟨_, pe_ix hr pa pb hs, runX2 h1 h2 h3⟩
/-! ### tests -/
theorem GoesT.toE {K : PySem.W.Frag} {Q : Bool → Hp → Prop} {σ : L2.St} {W : Wd} {F : List Addr} {o : EO} (h : GoesT K Wx Q σ W F o) : GoesE K Wx (fun v H1 => ∃ b, v = .bl b ∧ Q b H1) σ W F o := by
  cases o with
  | ok d ρ' μ' =>
    cases d with
    | bl b =>
      intro v W' G F' r S nd own mv
      obtain ⟨rfl, rfl⟩ := r
      exact ⟨b, rfl, h W' F' S mv⟩
    | _ => exact h.elim
  | ex c fs ρ' μ' => exact h
theorem ptx_val (ha : PX X Wx a f) (he : ∀ whole, isTrue a X.env whole = (do let v ← whole; standAt a.pos; holding [v] (truthy v)) := by intro _; rfl) : PTX X Wx a f := by
  obtain ⟨ta, pa, h1⟩ := ha
  exact ⟨_, pt_val pa he, fun σ W ρ μ F S o ho Q hQ => h1 σ W ρ μ F S o ho _ hQ.toE⟩
theorem ptx_cmp {op : CmpOp} {o : D → D → Option D} (h : OpD X (compareOp op) o) (ha : PX X Wx a f) (hb : PX X Wx b g) (hm : behindInMarks op b = false) : PTX X Wx (.Compare a [op] [b] pos) (xOp o f g) := by
  obtain ⟨r, hr, h3⟩ := h
  obtain ⟨ta, pa, h1⟩ := ha
  obtain ⟨tb, pb, h2⟩ := hb
  exact ⟨_, pt_cmpR hr pa pb hm, fun σ W ρ μ F S o ho Q hQ => runX2 h1 h2 h3 σ W ρ μ F S o ho _ hQ.toE⟩
theorem ptx_q {t : FB} (h : PB X a t) : PTX X Wx a (fun ρ μ => (t ρ μ).map fun b => .ok (.bl b) ρ μ) := by
  obtain ⟨tt, p, k⟩ := h
  refine ⟨tt, p, fun σ W ρ μ F S o ho Q hQ => ?_⟩
  obtain ⟨b, e1, z⟩ := map_some ho
  subst z
  exact k σ W ρ μ F S b e1 Q fun W' x => hQ W' F (S.ext x) x.mvr
/-- by a truth -/
def xT (f : FX) (k : Bool → FX) : FX := fun ρ μ => (f ρ μ).bind fun o => match o with
  | .ok d ρ' μ' => (match d with
    | .bl b => k b ρ' μ'
    | _ => none)
  | .ex c fs ρ' μ' => some (.ex c fs ρ' μ')
theorem runT_bind {tt : TT} {k : Bool → FX} (h1 : PTr X Wx tt f) {σ : L2.St} {W : Wd} {ρ μ : List D} {F : List Addr} (S : Sta X.K W σ ρ μ F) {o : EO} (ho : xT f k ρ μ = some o) {Q : Bool → Hp → Prop} {Q' : VK} (hx : ∀ c fs ρ' μ', o = .ex c fs ρ' μ' → GoesE X.K Wx Q' σ W F (.ex c fs ρ' μ'))
    (hk : ∀ b W1 ρ1 μ1 F1, Sta X.K W1 σ ρ1 μ1 F1 → Mv W W1 F F1 → k b ρ1 μ1 = some o → Q b W1.H) : tt σ W.H Q := by
  obtain ⟨o1, e1, ho⟩ := bind_some ho
  refine h1 σ W ρ μ F S o1 e1 Q ?_
  cases o1 with
  | ok d ρ1 μ1 =>
    cases d with
    | bl b => exact fun W' F' S' mv => hk b W' ρ1 μ1 F' S' mv ho
    | _ => cases ho
  | ex c fs ρ' μ' =>
    cases ho
    exact hx _ _ _ _ rfl
def xNot (f : FX) : FX := xT f fun b ρ μ => some (.ok (.bl (!b)) ρ μ)
def xAnd (f g : FX) : FX := xT f fun b ρ μ => if b = true then g ρ μ else some (.ok (.bl false) ρ μ)
def xOr (f g : FX) : FX := xT f fun b ρ μ => if b = true then some (.ok (.bl true) ρ μ) else g ρ μ
theorem PWX.pt (h : PWX X Wx e f) : PTX X Wx e f := by
  obtain ⟨tt, p, k⟩ := h
  exact ⟨tt, p.pt, k⟩
theorem ptx_not (ha : PTX X Wx a f) : PTX X Wx (.UnaryOp .Not a pos) (xNot f) := by
  obtain ⟨tt, p, k⟩ := ha
  refine ⟨_, pt_not p, fun σ W ρ μ F S o ho Q hQ => ?_⟩
  refine runT_bind (Q' := fun _ _ => False) k S ho (fun c fs ρ' μ' z => by subst z; exact hQ) fun b W1 ρ1 μ1 F1 S1 m1 ho1 => ?_
  cases ho1
  exact hQ W1 F1 S1 m1
theorem pwx_and1 (h : PTX X Wx a f) : PWX X Wx (.BoolOp .And [a] pos) f := by
  obtain ⟨tt, p, k⟩ := h
  exact ⟨tt, pw_and1 p, k⟩
theorem pwx_or1 (h : PTX X Wx a f) : PWX X Wx (.BoolOp .Or [a] pos) f := by
  obtain ⟨tt, p, k⟩ := h
  exact ⟨tt, pw_or1 p, k⟩
theorem pwx_and (ha : PTX X Wx a f) (hb : PWX X Wx (.BoolOp .And (b :: es) pos) g) : PWX X Wx (.BoolOp .And (a :: b :: es) pos) (xAnd f g) := by
  obtain ⟨t1, p1, k1⟩ := ha
  obtain ⟨t2, p2, k2⟩ := hb
  refine ⟨_, pw_and p1 p2, fun σ W ρ μ F S o ho Q hQ => ?_⟩
  refine runT_bind (Q' := fun _ _ => False) k1 S ho (fun c fs ρ' μ' z => by subst z; exact hQ) fun x W1 ρ1 μ1 F1 S1 m1 ho1 => ?_
  cases x with
  | true =>
    rw [if_pos rfl] at ho1 ⊢
    exact k2 σ W1 ρ1 μ1 F1 S1 o ho1 Q (hQ.after m1)
  | false =>
    rw [if_neg Bool.false_ne_true] at ho1 ⊢
    cases ho1
    exact hQ W1 F1 S1 m1
theorem pwx_or (ha : PTX X Wx a f) (hb : PWX X Wx (.BoolOp .Or (b :: es) pos) g) : PWX X Wx (.BoolOp .Or (a :: b :: es) pos) (xOr f g) := by
  obtain ⟨t1, p1, k1⟩ := ha
  obtain ⟨t2, p2, k2⟩ := hb
  refine ⟨_, pw_or p1 p2, fun σ W ρ μ F S o ho Q hQ => ?_⟩
  refine runT_bind (Q' := fun _ _ => False) k1 S ho (fun c fs ρ' μ' z => by subst z; exact hQ) fun x W1 ρ1 μ1 F1 S1 m1 ho1 => ?_
  cases x with
  | true =>
    rw [if_pos rfl] at ho1 ⊢
    cases ho1
    exact hQ W1 F1 S1 m1
  | false =>
    rw [if_neg Bool.false_ne_true] at ho1 ⊢
    exact k2 σ W1 ρ1 μ1 F1 S1 o ho1 Q (hQ.after m1)
/-! ### as values -/
theorem runE_bind {te : TE} {k : Bool → FX} (h1 : PXr X Wx te f) {σ : L2.St} {W : Wd} {ρ μ : List D} {F : List Addr} (S : Sta X.K W σ ρ μ F) {o : EO} (ho : xT f k ρ μ = some o) {Q : VK} {Q' : VK} (hx : ∀ c fs ρ' μ', o = .ex c fs ρ' μ' → GoesE X.K Wx Q' σ W F (.ex c fs ρ' μ'))
    (hk : ∀ b W1 ρ1 μ1 F1, Sta X.K W1 σ ρ1 μ1 F1 → Mv W W1 F F1 → k b ρ1 μ1 = some o → Q (.bl b) W1.H) : te σ W.H Q := by
  obtain ⟨o1, e1, ho⟩ := bind_some ho
  refine h1 σ W ρ μ F S o1 e1 Q ?_
  cases o1 with
  | ok d ρ1 μ1 =>
    cases d with
    | bl b =>
      intro v W' G F' r S' nd own mv
      obtain ⟨rfl, rfl⟩ := r
      exact hk b W' ρ1 μ1 F' S' mv ho
    | _ => cases ho
  | ex c fs ρ' μ' =>
    cases ho
    exact hx _ _ _ _ rfl
theorem px_not (ha : PX X Wx a f) : PX X Wx (.UnaryOp .Not a pos) (xNot f) := by
  obtain ⟨tt, p, k⟩ := ha
  refine ⟨_, pe_not p, fun σ W ρ μ F S o ho Q hQ => ?_⟩
  refine runE_bind (Q' := fun _ _ => False) k S ho (fun c fs ρ' μ' z => by subst z; exact hQ) fun b W1 ρ1 μ1 F1 S1 m1 ho1 => ?_
  cases ho1
  exact ⟨b, rfl, hQ _ W1 [] F1 ⟨rfl, rfl⟩ S1 S1.nd (fun _ hb => nomatch hb) m1⟩
theorem px_one {op} (h : PX X Wx a f) : PX X Wx (.BoolOp op [a] pos) f := by
  obtain ⟨t, p, k⟩ := h
  exact ⟨t, pe_one p, k⟩
theorem px_and (ha : PX X Wx a f) (hb : PX X Wx (.BoolOp .And (b :: es) pos) g) : PX X Wx (.BoolOp .And (a :: b :: es) pos) (xAnd f g) := by
  obtain ⟨t1, p1, k1⟩ := ha
  obtain ⟨t2, p2, k2⟩ := hb
  refine ⟨_, pe_and p1 p2, fun σ W ρ μ F S o ho Q hQ => ?_⟩
  refine runE_bind (Q' := fun _ _ => False) k1 S ho (fun c fs ρ' μ' z => by subst z; exact hQ) fun x W1 ρ1 μ1 F1 S1 m1 ho1 => ?_
  refine ⟨x, rfl, ?_⟩
  cases x with
  | true =>
    rw [if_pos rfl] at ho1 ⊢
    exact k2 σ W1 ρ1 μ1 F1 S1 o ho1 Q (hQ.after m1)
  | false =>
    rw [if_neg Bool.false_ne_true] at ho1 ⊢
    cases ho1
    exact hQ _ W1 [] F1 ⟨rfl, rfl⟩ S1 S1.nd (fun _ hb => nomatch hb) m1
theorem px_or (ha : PX X Wx a f) (hb : PX X Wx (.BoolOp .Or (b :: es) pos) g) : PX X Wx (.BoolOp .Or (a :: b :: es) pos) (xOr f g) := by
  obtain ⟨t1, p1, k1⟩ := ha
  obtain ⟨t2, p2, k2⟩ := hb
  refine ⟨_, pe_or p1 p2, fun σ W ρ μ F S o ho Q hQ => ?_⟩
  refine runE_bind (Q' := fun _ _ => False) k1 S ho (fun c fs ρ' μ' z => by subst z; exact hQ) fun x W1 ρ1 μ1 F1 S1 m1 ho1 => ?_
  refine ⟨x, rfl, ?_⟩
  cases x with
  | true =>
    rw [if_pos rfl] at ho1 ⊢
    cases ho1
    exact hQ _ W1 [] F1 ⟨rfl, rfl⟩ S1 S1.nd (fun _ hb => nomatch hb) m1
  | false =>
    rw [if_neg Bool.false_ne_true] at ho1 ⊢
    exact k2 σ W1 ρ1 μ1 F1 S1 o ho1 Q (hQ.after m1)
/-! ### fields, read -/
def dFo (ok : OkT) (x : Str) : D → Option D
  | .obj c ns ds => if ok c x = true then (fidx x ns).bind fun i => ds[i]? else none
  | .fo c ns ds => if ok c x = true then (fidx x ns).bind fun i => ds[i]? else none
  | _ => none
def dFld (ok : OkT) (x : Str) (μ : List D) : D → Option D
  | .ref k => (μ[k]?).bind (dFo ok x)
  | d => dFo ok x d
def qFld (ok : OkT) (x : Str) (f : FQ) : FQ := fun ρ μ => (f ρ μ).bind (dFld ok x μ)
theorem RL_map_get {K : PySem.W.Frag} {W : Wd} {μ : List D} {m : List Addr} {F : List Addr} {k : Nat} {d : D} (r : RL K W μ (m.map V.ref) F) (h : μ[k]? = some d) : ∃ a G, m[k]? = some a ∧ R K W d (.ref a) G ∧ ∀ b ∈ G, b ∈ F := by
  obtain ⟨v, G, h1, h2, h3⟩ := RL_get r h
  rw [List.getElem?_map] at h1
  obtain ⟨a, h4, rfl⟩ := map_some h1
  exact ⟨a, G, h4, h2, h3⟩
theorem pq_fld {q : FQ} {x : Str} (T : CE X.K ok) (h : PQ X e q) (hb : attributeBase e x X.env (eval e X.env) = eval e X.env := by rfl) : PQ X (.Attribute e x pos) (qFld ok x q) := by
  obtain ⟨te, p, k⟩ := h
  refine ⟨_, pe_fld p hb, fun σ W ρ μ F S d hd Q hQ => ?_⟩
  obtain ⟨t, e1, hd⟩ := bind_some hd
  refine k σ W ρ μ F S t e1 _ fun u W1 G x1 r1 => ?_
  have S1 := S.ext x1
  have main : ∀ (t : D) (G : List Addr) (u : V), R X.K W1 t u G → dFo ok x t = some d →
      ∃ a C dx fs v, u = .ref a ∧ W1.H a = some (.ins C dx fs) ∧ Cls X.K C ∧ NoAttr X.K C x ∧ fs.lookup x = some v ∧ Q v W1.H := by
    intro t G u r he
    cases t with
    | obj c ns ds =>
      have he2 : (if ok c x = true then (fidx x ns).bind fun i => ds[i]? else none) = some d := he
      by_cases hk : ok c x = true
      case neg => rw [if_neg hk] at he2; cases he2
      rw [if_pos hk] at he2
      obtain ⟨i, h1, h2⟩ := bind_some he2
      obtain ⟨a, dx, vs, F', rfl, hH, hn, hR, rfl⟩ := r
      obtain ⟨v, G1, q1, q2, _⟩ := RL_get hR h2
      obtain ⟨cl, na⟩ := T c x hk
      exact ⟨a, _, dx, _, v, rfl, hH, cl, na, by rw [fidx_lookup h1 (by rw [hn, RL_len hR])]; exact q1, hQ v W1 G1 x1 q2⟩
    | fo c ns ds =>
      have he2 : (if ok c x = true then (fidx x ns).bind fun i => ds[i]? else none) = some d := he
      by_cases hk : ok c x = true
      case neg => rw [if_neg hk] at he2; cases he2
      rw [if_pos hk] at he2
      obtain ⟨i, h1, h2⟩ := bind_some he2
      obtain ⟨a, dx, vs, rfl, hH, _, hn, hR, rfl⟩ := r
      obtain ⟨v, G1, q1, q2, _⟩ := RL_get hR h2
      obtain ⟨cl, na⟩ := T c x hk
      exact ⟨a, _, dx, _, v, rfl, hH, cl, na, by rw [fidx_lookup h1 (by rw [hn, RL_len hR])]; exact q1, hQ v W1 G1 x1 q2⟩
    | _ => cases he
  cases t with
  | ref j =>
    obtain ⟨t2, e2, hd2⟩ := bind_some (show (μ[j]?).bind (dFo ok x) = some d from hd)
    obtain ⟨a, rfl, h3, _⟩ := r1
    obtain ⟨F1, F2, _, h4, _⟩ := S1.ex
    obtain ⟨a', G', h5, h6, _⟩ := RL_map_get h4 e2
    rw [h3] at h5
    cases h5
    exact main t2 G' _ h6 hd2
  | _ => exact main _ _ _ r1 hd
end
end Fw
/-! # arguments; defs and methods that change something -/
namespace Fw
open PySem PySem.Spec PyProof.Rows L2
open Evl (Ex)
/-- an argument: a value with no place of its own, or what a slot has, lent -/
inductive AV where
  | val (d : D) | slot (j : Nat)
inductive AO where
  | ok (as : List AV) (ρ μ : List D) | ex (c : Str) (fs : List (Str × D)) (ρ μ : List D)
abbrev FXA := List D → List D → Option AO
def AVs (K : PySem.W.Frag) (W : Wd) (σ : L2.St) : List AV → List V → Prop
  | [], vs => vs = []
  | .val d :: as, vs => ∃ v vs', vs = v :: vs' ∧ R K W d v [] ∧ AVs K W σ as vs'
  | .slot j :: as, vs => ∃ v vs', vs = v :: vs' ∧ σ[j]? = some (some v) ∧ AVs K W σ as vs'
theorem AVs.lt {K : PySem.W.Frag} {W W' : Wd} {σ : L2.St} (e : Lt W W') : ∀ {as : List AV} {vs : List V}, AVs K W σ as vs → AVs K W' σ as vs
  | [], _, h => h
  | .val d :: as, _, h => by
    obtain ⟨v, vs', h1, h2, h3⟩ := h
    exact ⟨v, vs', h1, R_lt e d h2, AVs.lt e h3⟩
  | .slot j :: as, _, h => by
    obtain ⟨v, vs', h1, h2, h3⟩ := h
    exact ⟨v, vs', h1, h2, AVs.lt e h3⟩
def avals : List AV → Option (List D)
  | [] => some []
  | .val d :: as => (avals as).map fun ds => d :: ds
  | .slot _ :: _ => none
theorem AVs.vals {K : PySem.W.Frag} {W : Wd} {σ : L2.St} : ∀ {as : List AV} {vs : List V} {ds : List D}, AVs K W σ as vs → avals as = some ds → RL K W ds vs []
  | [], _, _, h, e => by
    cases e
    exact ⟨h, rfl⟩
  | .val d :: as, _, _, h, e => by
    obtain ⟨v, vs', h1, h2, h3⟩ := h
    obtain ⟨ds, e1, rfl⟩ := map_some e
    exact ⟨v, vs', [], [], h1, h2, AVs.vals h3 e1, rfl⟩
  | .slot j :: as, _, _, h, e => by cases e
def GoesA (K : PySem.W.Frag) (Wx : WX) (Q : List V → Hp → Prop) (σ : L2.St) (W : Wd) (F : List Addr) : AO → Prop
  | .ok as ρ' μ' => ∀ vs W' F', AVs K W' σ as vs → Sta K W' σ ρ' μ' F' → Mv W W' F F' → Q vs W'.H
  | .ex c fs ρ' μ' => ∀ dx W' F', ExAt K W' fs dx → Sta K W' σ ρ' μ' F' → Mv W W' F F' → Wx (.ref (He.ga K c)) dx σ W'.H
theorem GoesA.after {K : PySem.W.Frag} {Wx : WX} {Q : List V → Hp → Prop} {σ : L2.St} {W W1 : Wd} {F F1 : List Addr} {o : AO} (h : GoesA K Wx Q σ W F o) (m : Mv W W1 F F1) : GoesA K Wx Q σ W1 F1 o := by
  cases o with
  | ok as ρ' μ' => exact fun vs W' F' r S mv => h vs W' F' r S (m.trans mv)
  | ex c fs ρ' μ' => exact fun dx W' F' r S mv => h dx W' F' r S (m.trans mv)
def PAr (X : Cx) (Wx : WX) (ta : TA) (g : FXA) : Prop := ∀ (σ : L2.St) (W : Wd) (ρ μ : List D) (F : List Addr), Sta X.K W σ ρ μ F → ∀ o, g ρ μ = some o → ∀ Q : List V → Hp → Prop, GoesA X.K Wx Q σ W F o → ta σ W.H Q
def PAX (X : Cx) (Wx : WX) (es : List Expr) (g : FXA) : Prop := ∃ ta : TA, PA X es ta ∧ PAr X Wx ta g
def xaNil : FXA := fun ρ μ => some (.ok [] ρ μ)
def aoCons (a : AV) (o : Option AO) : Option AO := o.map fun o => match o with
  | .ok as ρ μ => .ok (a :: as) ρ μ
  | .ex c fs ρ μ => .ex c fs ρ μ
def xaCons (f : FX) (k : FXA) : FXA := fun ρ μ => (f ρ μ).bind fun o => match o with
  | .ok d ρ1 μ1 => if fl d = true then aoCons (.val d) (k ρ1 μ1) else none
  | .ex c fs ρ1 μ1 => some (.ex c fs ρ1 μ1)
def xaSlot (j : Nat) (k : FXA) : FXA := fun ρ μ => (ρ[j]?).bind fun d => if isUn d = true then none else aoCons (.slot j) (k ρ μ)
section
variable {X : Cx} {Wx : WX} {e a b c : Expr} {es : List Expr} {f g : FX} {pos : Pos} {ok : OkT} {k : FXA}
theorem pax_nil : PAX X Wx [] xaNil := ⟨_, pa_nil, fun σ W ρ μ F S o ho Q hQ => by
  cases ho
  exact hQ [] W F rfl S (Ext.refl S.ok).mvr⟩
theorem aoCons_run {ta : TA} (k2 : PAr X Wx ta k) {a : AV} {v : V} {σ : L2.St} {W : Wd} {ρ μ : List D} {F : List Addr} (S : Sta X.K W σ ρ μ F) {o : AO} (ho : aoCons a (k ρ μ) = some o) {Q : List V → Hp → Prop} (hQ : GoesA X.K Wx Q σ W F o)
    (hv : ∀ W' F', Mv W W' F F' → ∀ as vs, AVs X.K W' σ as vs → AVs X.K W' σ (a :: as) (v :: vs)) : ta σ W.H fun vs H2 => Q (v :: vs) H2 := by
  obtain ⟨o1, e1, z⟩ := map_some ho
  subst z
  refine k2 σ W ρ μ F S o1 e1 _ ?_
  cases o1 with
  | ok as ρ1 μ1 => exact fun vs W' F' r S' mv => hQ (v :: vs) W' F' (hv W' F' mv as vs r) S' mv
  | ex c fs ρ1 μ1 => exact hQ
theorem pax_cons (ha : PX X Wx e f) (hr : PAX X Wx es k) (hs : starEach (e :: es) X.env = (false, eval e X.env) :: starEach es X.env := by rfl) : PAX X Wx (e :: es) (xaCons f k) := by
  obtain ⟨t1, p1, k1⟩ := ha
  obtain ⟨t2, p2, k2⟩ := hr
  refine ⟨_, pa_cons p1 p2 hs, fun σ W ρ μ F S o ho Q hQ => ?_⟩
  obtain ⟨o1, e1, ho⟩ := bind_some ho
  refine k1 σ W ρ μ F S o1 e1 _ ?_
  cases o1 with
  | ok d ρ1 μ1 =>
    have ho2 : (if fl d = true then aoCons (.val d) (k ρ1 μ1) else none) = some o := ho
    by_cases hd : fl d = true
    case neg => rw [if_neg hd] at ho2; cases ho2
    rw [if_pos hd] at ho2
    intro v W1 G F1 r S1 nd own mv
    have z := R_fl hd r
    subst z
    exact aoCons_run k2 S1 ho2 (hQ.after mv) fun W' F' m' as vs ra => ⟨v, vs, rfl, R_mv S1 m' r, ra⟩
  | ex c fs ρ1 μ1 =>
    cases ho
    exact hQ
theorem pax_slot {j : Nat} {x : Str} {p : Pos} (hp : PE X (.Name x p) (tVar j)) (hr : PAX X Wx es k) (hs : starEach (.Name x p :: es) X.env = (false, eval (.Name x p) X.env) :: starEach es X.env := by rfl) : PAX X Wx (.Name x p :: es) (xaSlot j k) := by
  obtain ⟨t2, p2, k2⟩ := hr
  refine ⟨_, pa_cons hp p2 hs, fun σ W ρ μ F S o ho Q hQ => ?_⟩
  obtain ⟨d, e1, ho⟩ := bind_some ho
  by_cases hd : isUn d = true
  case pos => rw [if_pos hd] at ho; cases ho
  rw [if_neg hd] at ho
  obtain ⟨F1, F2, h1, _, _⟩ := S.ex
  obtain ⟨v, G, hv, _⟩ := RS_get h1 e1 (isUn_ne (Bool.eq_false_iff.mpr hd))
  exact ⟨v, hv, aoCons_run k2 S ho hQ fun W' F' m' as vs ra => ⟨v, vs, rfl, hv, ra⟩⟩
/-! ### by values alone -/
def xA (k : FXA) (g : List D → FX) : FX := fun ρ μ => (k ρ μ).bind fun o => match o with
  | .ok as ρ1 μ1 => (avals as).bind fun ds => g ds ρ1 μ1
  | .ex c fs ρ1 μ1 => some (.ex c fs ρ1 μ1)
theorem runA_bind {ta : TA} {g : List D → FX} (h1 : PAr X Wx ta k) {σ : L2.St} {W : Wd} {ρ μ : List D} {F : List Addr} (S : Sta X.K W σ ρ μ F) {o : EO} (ho : xA k g ρ μ = some o) {Q : List V → Hp → Prop} {Q' : VK} (hQ : GoesE X.K Wx Q' σ W F o)
    (hk : ∀ ds vs W1 ρ1 μ1 F1, RL X.K W1 ds vs [] → Sta X.K W1 σ ρ1 μ1 F1 → Mv W W1 F F1 → g ds ρ1 μ1 = some o → Q vs W1.H) : ta σ W.H Q := by
  obtain ⟨o1, e1, ho⟩ := bind_some ho
  refine h1 σ W ρ μ F S o1 e1 Q ?_
  cases o1 with
  | ok as ρ1 μ1 =>
    obtain ⟨ds, e2, ho⟩ := bind_some (show (avals as).bind (fun ds => g ds ρ1 μ1) = some o from ho)
    exact fun vs W' F' r S' mv => hk ds vs W' ρ1 μ1 F' (r.vals e2) S' mv ho
  | ex c fs ρ1 μ1 =>
    cases ho
    exact hQ
def xTup (k : FXA) : FX := xA k fun ds ρ μ => if ds.length ≤ 100 ∧ dataL ds = true then some (.ok (.tup ds) ρ μ) else none
theorem px_tup {x1} (h : PAX X Wx es k) : PX X Wx (.Tuple es x1 pos) (xTup k) := by
  obtain ⟨ta, p, k1⟩ := h
  refine ⟨_, pe_tup p, fun σ W ρ μ F S o ho Q hQ => ?_⟩
  refine runA_bind k1 S ho hQ fun ds vs W1 ρ1 μ1 F1 r S1 mv ho1 => ?_
  by_cases hl : ds.length ≤ 100 ∧ dataL ds = true
  case neg => rw [if_neg hl] at ho1; cases ho1
  rw [if_pos hl] at ho1
  cases ho1
  refine ⟨by rw [RL_len r]; exact lim_ok (Nat.le_trans hl.1 (by decide)), fun p hp => ?_⟩
  exact hQ _ (W1.put p (.tup vs)) [] F1 (R_newT S1.ok hp r) (S1.ext (Ext.put S1.ok hp)) S1.nd (fun _ hb => nomatch hb) (mv.trans (Ext.put S1.ok hp).mvr)
def xCall (o : List D → Option D) (k : FXA) : FX := xA k fun ds ρ μ => (o ds).bind fun d => if data d = true then some (.ok d ρ μ) else none
theorem runCX {t : TA} {o : List D → Option D} {r : List V → Hp → VK → Prop} (k1 : PAr X Wx t k)
    (k2 : ∀ (W : Wd) (ds : List D) (vs : List V) (G : List Addr), WOk W → RL X.K W ds vs G → ∀ d, o ds = some d → ∀ Q : VK, (∀ v W' G, Ext W W' → R X.K W' d v G → Q v W'.H) → r vs W.H Q) : PXr X Wx (tCB r t) (xCall o k) := by
  intro σ W ρ μ F S o1 ho Q hQ
  refine runA_bind k1 S ho hQ fun ds vs W1 ρ1 μ1 F1 r1 S1 mv ho1 => ?_
  obtain ⟨d, e1, ho1⟩ := bind_some ho1
  by_cases hd : data d = true
  case neg => rw [if_neg hd] at ho1; cases ho1
  rw [if_pos hd] at ho1
  cases ho1
  refine k2 W1 ds vs [] S1.ok r1 d e1 Q fun v W2 G x2 r2 => ?_
  have z := R_data d hd r2
  subst z
  exact hQ v W2 [] F1 r2 (S1.ext x2) S1.nd (fun _ hb => nomatch hb) (mv.trans x2.mvr)
theorem px_callB {id : String} {x : Str} {p : Pos} {o : List D → Option D} (h : CallD X (.builtin id) o) (hm : X.mg x = none) (hv : bootBuiltins x = some (.builtin id)) (ha : PAX X Wx (e :: es) k) (hg : Gl X x := by rfl)
    (hn : x ≠ "__name__" := by decide) (hdb : (x == ("__debug__" : Str)) = false := by decide) (he : starEach (e :: es) X.env = (false, eval e X.env) :: starEach es X.env := by rfl) (hpl : (backTo pos (starEach es X.env)).any (·.1) = false := by rfl) : PX X Wx (.Call (.Name x p) (e :: es) [] pos) (xCall o k) := by
  obtain ⟨r, hr, k2⟩ := h
  obtain ⟨t, pt, k1⟩ := ha
  exact ⟨_, pe_callB hr hg hm hv pt hn hdb he hpl, runCX k1 k2⟩
theorem px_callTy {T : String} {x : Str} {p : Pos} {o : List D → Option D} (h : CallD X (.type T) o) (hm : X.mg x = none) (hv : bootBuiltins x = some (.type T)) (ha : PAX X Wx (e :: es) k) (hg : Gl X x := by rfl)
    (hn : x ≠ "__name__" := by decide) (hdb : (x == ("__debug__" : Str)) = false := by decide) (he : starEach (e :: es) X.env = (false, eval e X.env) :: starEach es X.env := by rfl) (hpl : (backTo pos (starEach es X.env)).any (·.1) = false := by rfl) : PX X Wx (.Call (.Name x p) (e :: es) [] pos) (xCall o k) := by
  obtain ⟨r, hr, k2⟩ := h
  obtain ⟨t, pt, k1⟩ := ha
  exact ⟨_, pe_callTy hr hg hm hv pt hn hdb he hpl, runCX k1 k2⟩
def xIsi (T : String) (f : FX) : FX := xB f fun d ρ μ => (tyN d).bind fun n => (kitB n T).map fun b => .ok (.bl b) ρ μ
theorem px_isi {T : String} {x : Str} {px p : Pos} (he : PX X Wx e f) (hmi : X.mg "isinstance" = none) (hmx : X.mg x = none) (hv : bootBuiltins x = some (.type T)) (hgi : Gl X "isinstance" := by rfl) (hg : Gl X x := by rfl)
    (hvi : bootBuiltins "isinstance" = some (.builtin "isinstance") := by decide +kernel) (hn : x ≠ "__name__" := by decide) (hd : (x == ("__debug__" : Str)) = false := by decide)
    (hs1 : starEach [e, .Name x px] X.env = (false, eval e X.env) :: starEach [.Name x px] X.env := by rfl) (hs2 : starEach [.Name x px] X.env = (false, eval (.Name x px) X.env) :: starEach [] X.env := by rfl) (hpl : (backTo pos (starEach [.Name x px] X.env)).any (·.1) = false := by rfl) :
    PX X Wx (.Call (.Name "isinstance" p) [e, .Name x px] [] pos) (xIsi T f) := by
  obtain ⟨t, pt, k1⟩ := he
  refine ⟨_, pe_callB call_isi hgi hmi hvi (pa_cons pt (pa_cons (pe_bltn (v := .ty T) hg hmx hv rfl hn hd) pa_nil hs2) hs1) (by decide) (by decide) hs1 hpl, fun σ W ρ μ F S o ho Q hQ => ?_⟩
  refine run_bind k1 S ho (fun c fs ρ' μ' z => by subst z; exact hQ) fun d v W1 ρ1 μ1 F1 hd r1 S1 mv ho1 => ?_
  obtain ⟨n, e2, ho1⟩ := bind_some ho1
  obtain ⟨b, e3, z⟩ := map_some ho1
  subst z
  exact ⟨v, .ty T, .type n, .type T, b, rfl, .ty T, R_ty e2 r1, kit_ty e3, hQ _ W1 [] F1 ⟨rfl, rfl⟩ S1 S1.nd (fun _ hb => nomatch hb) mv⟩
end
/-! ### what is lent goes out and comes back -/
def mo : List AV → List D → Option (List D × List D)
  | [], ρ => some ([], ρ)
  | .val d :: as, ρ => (mo as ρ).map fun z => (d :: z.1, z.2)
  | .slot j :: as, ρ => (mo as ρ).bind fun z => (z.2[j]?).bind fun d => if isUn d = true then none else some (d :: z.1, z.2.set j .un)
def mi : List AV → List D → List D → Option (List D)
  | [], ρ, [] => some ρ
  | .val _ :: as, ρ, _ :: ds => mi as ρ ds
  | .slot j :: as, ρ, d :: ds => mi as (ρ.set j d) ds
  | _, _, _ => none
section
variable {K : PySem.W.Frag} {W : Wd} {σ : L2.St} {μ : List D}
theorem out_all : ∀ {as : List AV} {vs : List V} {ρ ds ρr : List D} {F : List Addr}, Sta K W σ ρ μ F → AVs K W σ as vs → mo as ρ = some (ds, ρr) → vs.length = ds.length ∧ ∃ F', Sta K W (vs.map some ++ σ) (ds ++ ρr) μ F' ∧ F'.Perm F
  | [], vs, ρ, ds, ρr, F, S, ha, h => by
    cases h
    have e : vs = [] := ha
    subst e
    exact ⟨rfl, F, S, List.Perm.refl F⟩
  | .val d :: as, vs, ρ, ds, ρr, F, S, ha, h => by
    obtain ⟨v, vs', rfl, h2, h3⟩ := ha
    obtain ⟨z, e1, e2⟩ := map_some h
    obtain ⟨ds', r'⟩ := z
    cases e2
    obtain ⟨hl, F', S', pm⟩ := out_all S h3 e1
    exact ⟨congrArg Nat.succ hl, F', sta_cons (o := some v) (G := []) (R1_of h2) S' S'.nd (fun _ hb => nomatch hb), pm⟩
  | .slot j :: as, vs, ρ, ds, ρr, F, S, ha, h => by
    obtain ⟨v, vs', rfl, h2, h3⟩ := ha
    obtain ⟨z, e1, h⟩ := bind_some h
    obtain ⟨ds', r'⟩ := z
    obtain ⟨d, e2, h⟩ := bind_some h
    by_cases hd : isUn d = true
    case pos => rw [if_pos hd] at h; cases h
    rw [if_neg hd] at h
    cases h
    obtain ⟨hl, F', S', pm⟩ := out_all S h3 e1
    have e3 : (ds' ++ r')[ds'.length + j]? = some d := by
      rw [List.getElem?_append_right (Nat.le_add_right ..), Nat.add_sub_cancel_left]
      exact e2
    obtain ⟨v', F2, hv, S2, pm2⟩ := sta_out S' e3 (isUn_ne (Bool.eq_false_iff.mpr hd))
    have lm : (vs'.map some : L2.St).length = ds'.length := by rw [List.length_map, hl]
    rw [List.getElem?_append_right (by rw [lm]; exact Nat.le_add_right ..), lm, Nat.add_sub_cancel_left, h2] at hv
    injection hv with hv
    injection hv with hv
    subst hv
    rw [List.set_append_right _ _ (Nat.le_add_right ..), Nat.add_sub_cancel_left] at S2
    exact ⟨congrArg Nat.succ hl, F2, S2, pm2.trans pm⟩
theorem in_all : ∀ {as : List AV} {vs : List V} {ρr ds ρ' : List D} {F : List Addr}, Sta K W (vs.map some ++ σ) (ds ++ ρr) μ F → AVs K W' σ as vs → mi as ρr ds = some ρ' → vs.length = ds.length → ∃ F', Sta K W σ ρ' μ F' ∧ ∀ a ∈ F', a ∈ F
  | [], vs, ρr, [], ρ', F, S, ha, h, hl => by
    cases h
    have e : vs = [] := ha
    subst e
    exact ⟨F, S, fun _ h => h⟩
  | [], vs, ρr, _ :: _, ρ', F, S, ha, h, hl => by cases h
  | .val d :: as, vs, ρr, [], ρ', F, S, ha, h, hl => by cases h
  | .slot j :: as, vs, ρr, [], ρ', F, S, ha, h, hl => by cases h
  | .val d :: as, vs, ρr, d' :: ds, ρ', F, S, ha, h, hl => by
    obtain ⟨v, vs', rfl, h2, h3⟩ := ha
    obtain ⟨G, F', r, S', e⟩ := sta_tail S
    obtain ⟨F2, S2, sub⟩ := in_all (vs := vs') S' h3 h (Nat.succ.inj hl)
    exact ⟨F2, S2, fun a ha => by rw [e]; exact List.mem_append_right _ (sub a ha)⟩
  | .slot j :: as, vs, ρr, d' :: ds, ρ', F, S, ha, h, hl => by
    obtain ⟨v, vs', rfl, h2, h3⟩ := ha
    have hl' : vs'.length = ds.length := Nat.succ.inj hl
    have lm : (vs'.map some : L2.St).length = ds.length := by rw [List.length_map, hl']
    obtain ⟨F', S', sub1⟩ := sta_in (σ := vs'.map some ++ σ) (ρ := ds ++ ρr) (m := ds.length + j) (v := v) S (by rw [List.getElem?_append_right (by rw [lm]; exact Nat.le_add_right ..), lm, Nat.add_sub_cancel_left]; exact h2)
    rw [List.set_append_right _ _ (Nat.le_add_right ..), Nat.add_sub_cancel_left] at S'
    obtain ⟨F2, S2, sub⟩ := in_all (vs := vs') S' h3 h hl'
    exact ⟨F2, S2, fun a ha => sub1 a (sub a ha)⟩
theorem foc_args {as : List AV} {vs : List V} {ρ ds ρr : List D} {F : List Addr} (S : Sta K W σ ρ μ F) (ha : AVs K W σ as vs) (h : mo as ρ = some (ds, ρr)) : Foc K W σ ρ μ F (vs.map some) ds (mi as ρr) := by
  obtain ⟨hl, F1, S1, pm⟩ := out_all S ha h
  obtain ⟨Fc, Sc, sub, k⟩ := sta_frame S1 (by rw [List.length_map, hl])
  refine ⟨Fc, Sc, fun a ha => pm.mem_iff.mp (sub a ha), fun W' xs' μ' Fc' G E ρ' hp S' nd own hE mv => ?_⟩
  obtain ⟨F2, S2, nd2, mv2⟩ := k W' xs' μ' Fc' G E S' nd own (fun a ha => ⟨(hE a ha).1, fun z => (hE a ha).2 (pm.mem_iff.mp z)⟩) mv
  obtain ⟨F3, S3, sub3⟩ := in_all (W' := W) S2 ha hp (by rw [← S'.len, List.length_map])
  have ndG := List.nodup_append.mp nd2
  exact ⟨F3, S3, List.nodup_append.mpr ⟨ndG.1, S3.nd, fun a ha b hb => ndG.2.2 a ha b (sub3 b hb)⟩, mv2.sub (fun a ha => (List.mem_append.mp ha).elim (List.mem_append_left _) fun z => List.mem_append_right _ (pm.mem_iff.mp z)) fun a ha => (List.mem_append.mp ha).elim (List.mem_append_left _) fun z => List.mem_append_right _ (sub3 a z)⟩
end
/-! ### what a def promises that changes something -/
abbrev RX := List D → List D → Option EO
def GoesF (K : PySem.W.Frag) (Q : VK) (E : XK) (vs : List V) (W : Wd) (F : List Addr) : EO → Prop
  | .ok d ds' μ' => ∀ v W' G F', R K W' d v G → Sta K W' (vs.map some) ds' μ' F' → (G ++ F').Nodup → (∀ a ∈ G, Own W' a) → Mv W W' F (G ++ F') → Q v W'.H
  | .ex c fs ds' μ' => ∀ dx W' F', ExAt K W' fs dx → Sta K W' (vs.map some) ds' μ' F' → Mv W W' F F' → E (.ref (He.ga K c)) dx W'.H
def spX (K : PySem.W.Frag) (n : Nat) (run : RX) : Sp := fun vs H Q E => ∃ (W : Wd) (ds μ : List D) (F : List Addr) (o : EO), W.H = H ∧ Sta K W (vs.map some) ds μ F ∧ ds.length = n ∧ run ds μ = some o ∧ GoesF K Q E vs W F o
def xPut (put : List D → Option (List D)) : EO → Option EO
  | .ok d ds' μ' => (put ds').map fun ρ' => .ok d ρ' μ'
  | .ex c fs ds' μ' => (put ds').map fun ρ' => .ex c fs ρ' μ'
theorem spX_of {K : PySem.W.Frag} {Wx : WX} {W : Wd} {σ : L2.St} {ρ μ ds : List D} {F : List Addr} {vs : List V} {put : List D → Option (List D)} {n : Nat} {run : RX} {o1 o : EO} {Q : VK} (fo : Foc K W σ ρ μ F (vs.map some) ds put) (hl : ds.length = n) (hr : run ds μ = some o1)
    (hp : xPut put o1 = some o) (h : GoesE K Wx Q σ W F o) : spX K n run vs W.H Q (WE Wx σ) := by
  obtain ⟨Fc, S, _, k⟩ := fo
  refine ⟨W, ds, μ, Fc, o1, rfl, S, hl, hr, ?_⟩
  cases o1 with
  | ok d ds' μ' =>
    obtain ⟨ρ', e1, z⟩ := map_some (show (put ds').map (fun ρ' => EO.ok d ρ' μ') = some o from hp)
    subst z
    intro v W' G F' r S' nd own mv
    obtain ⟨F2, S2, nd2, mv2⟩ := k W' ds' μ' F' G [] ρ' e1 S' nd own (fun _ hb => nomatch hb) mv
    exact h v W' G F2 r S2 nd2 own mv2
  | ex c fs ds' μ' =>
    obtain ⟨ρ', e1, z⟩ := map_some (show (put ds').map (fun ρ' => EO.ex c fs ρ' μ') = some o from hp)
    subst z
    intro dx W' F' r S' mv
    obtain ⟨F2, S2, nd2, mv2⟩ := k W' ds' μ' F' [] [] ρ' e1 S' S'.nd (fun _ hb => nomatch hb) (fun _ hb => nomatch hb) mv
    exact h dx W' F2 r S2 mv2
end Fw
/-! # defs, methods, makers: called and proved -/
namespace Fw
open PySem PySem.Spec PyProof.Rows L2
open Evl (Ex)
/-! ### a def's end: what was lent and kept goes back -/
def fin : List Bool → List D → List D → Option (List D)
  | [], [], _ => some []
  | true :: ks, _ :: ds, r :: ρ => if isUn r = true then none else (fin ks ds ρ).map fun l => r :: l
  | false :: ks, d :: ds, _ :: ρ => if fl d = true then (fin ks ds ρ).map fun l => d :: l else none
  | _, _, _ => none
theorem fin_rs {K : PySem.W.Frag} {W W' : Wd} (lt : Lt W W') : ∀ {ks : List Bool} {ds ρ ds' : List D} {vs : List V} {σ : L2.St} {F F1 : List Addr}, RS K W ds (vs.map some) F → RS K W' ρ σ F1 → (∀ (i : Nat) (v : V), ks[i]? = some true → vs[i]? = some v → σ[i]? = some (some v)) → fin ks ds ρ = some ds' →
    ∃ F', RS K W' ds' (vs.map some) F' ∧ F'.Sublist F1
  | [], [], ρ, ds', vs, σ, F, F1, h, g, hk, e => by
    cases e
    exact ⟨[], ⟨h.1, rfl⟩, List.nil_sublist _⟩
  | [], d :: ds, ρ, ds', vs, σ, F, F1, h, g, hk, e => by cases e
  | true :: ks, [], ρ, ds', vs, σ, F, F1, h, g, hk, e => by cases e
  | false :: ks, [], ρ, ds', vs, σ, F, F1, h, g, hk, e => by cases e
  | true :: ks, d :: ds, [], ds', vs, σ, F, F1, h, g, hk, e => by cases e
  | false :: ks, d :: ds, [], ds', vs, σ, F, F1, h, g, hk, e => by cases e
  | true :: ks, d :: ds, r :: ρ, ds', [], σ, F, F1, h, g, hk, e => by
    obtain ⟨o, σ', F2, F3, e1, _⟩ := h
    cases e1
  | false :: ks, d :: ds, r :: ρ, ds', [], σ, F, F1, h, g, hk, e => by
    obtain ⟨o, σ', F2, F3, e1, _⟩ := h
    cases e1
  | true :: ks, d :: ds, r :: ρ, ds', v :: vs, σ, F, F1, h, g, hk, e => by
    have e' : (if isUn r = true then none else (fin ks ds ρ).map fun l => r :: l) = some ds' := e
    by_cases hr : isUn r = true
    case pos => rw [if_pos hr] at e'; cases e'
    rw [if_neg hr] at e'
    obtain ⟨l, e2, rfl⟩ := map_some e'
    obtain ⟨o, τ, G1, G2, a1, a2, a3, a4⟩ := h
    injection a1 with a5 a6
    subst a5
    rw [← a6] at a3
    obtain ⟨o', σ', G3, G4, b1, b2, b3, b4⟩ := g
    subst b1
    subst b4
    have hv := hk 0 v rfl rfl
    have hv' : o' = some v := Option.some.inj hv
    subst hv'
    obtain ⟨F', c1, c2⟩ := fin_rs lt a3 b3 (fun i w p q => hk (i + 1) w (by simpa using p) (by simpa using q)) e2
    exact ⟨G3 ++ F', ⟨some v, vs.map some, G3, F', rfl, b2, c1, rfl⟩, List.Sublist.append (List.Sublist.refl G3) c2⟩
  | false :: ks, d :: ds, r :: ρ, ds', v :: vs, σ, F, F1, h, g, hk, e => by
    have e' : (if fl d = true then (fin ks ds ρ).map fun l => d :: l else none) = some ds' := e
    by_cases hd : fl d = true
    case neg => rw [if_neg hd] at e'; cases e'
    rw [if_pos hd] at e'
    obtain ⟨l, e2, rfl⟩ := map_some e'
    obtain ⟨o, τ, G1, G2, a1, a2, a3, a4⟩ := h
    injection a1 with a5 a6
    subst a5
    rw [← a6] at a3
    obtain ⟨o', σ', G3, G4, b1, b2, b3, b4⟩ := g
    subst b1
    subst b4
    obtain ⟨F', c1, c2⟩ := fin_rs lt a3 b3 (fun i w p q => hk (i + 1) w (by simpa using p) (by simpa using q)) e2
    have a7 : R1 K W' d (some v) [] := by
      rw [R1_iff] at a2 ⊢
      rcases a2 with ⟨z, _⟩ | ⟨w, q1, q2⟩
      · exact .inl ⟨z, rfl⟩
      · have z := R_fl hd q2
        subst z
        exact .inr ⟨w, q1, R_lt lt d q2⟩
    exact ⟨F', ⟨some v, vs.map some, [], F', rfl, a7, c1, rfl⟩, c2.trans (List.sublist_append_right G3 G4)⟩
def runX (N : Nat) (ks : List Bool) (f : FS) : RX := fun ds μ => (f (ds ++ List.replicate (N - ds.length) .un) μ).bind fun o => match o with
  | .rt d ρ' μ' => if isUn d = true then none else (fin ks ds ρ').map fun ds' => .ok d ds' μ'
  | .nx ρ' μ' => (fin ks ds ρ').map fun ds' => .ok .non ds' μ'
  | .ex c fs ρ' μ' => (fin ks ds ρ').map fun ds' => .ex c fs ds' μ'
  | _ => none
theorem sta_fin {K : PySem.W.Frag} {W W' : Wd} {ks : List Bool} {ds ds' ρ' μ μ' : List D} {vs : List V} {σ0 σ' : L2.St} {F G F' : List Addr} {ob : List Nat} (S : Sta K W (vs.map some) ds μ F) (S' : Sta K W' σ' ρ' μ' F') (ndG : (G ++ F').Nodup) (mv : Mv W W' F (G ++ F')) (kp : Kept ob σ0 σ')
    (h0 : ∀ (i : Nat) (v : V), vs[i]? = some v → σ0[i]? = some (some v)) (hob : ∀ i : Nat, ks[i]? = some true → i ∈ ob) (e : fin ks ds ρ' = some ds') : ∃ F'', Sta K W' (vs.map some) ds' μ' F'' ∧ (G ++ F'').Nodup ∧ Mv W W' F (G ++ F'') := by
  obtain ⟨F1, F2, a1, a2, a3⟩ := S.ex
  obtain ⟨⟨F3, F4, b1, b2, b3⟩, nd, own, ok⟩ := S'
  subst b3
  obtain ⟨F5, c1, c2⟩ := fin_rs (mv.lt S.own) a1 b1 (fun i v p q => by rw [kp i (hob i p)]; exact h0 i v q) e
  have sub : (F5 ++ F4).Sublist (F3 ++ F4) := List.Sublist.append c2 (List.Sublist.refl F4)
  have sub2 : (G ++ (F5 ++ F4)).Sublist (G ++ (F3 ++ F4)) := List.Sublist.append (List.Sublist.refl G) sub
  exact ⟨F5 ++ F4, ⟨⟨F5, F4, c1, b2, rfl⟩, nd.sublist sub, fun a ha => own a (sub.subset ha), ok⟩, ndG.sublist sub2, mv.sub (fun _ h => h) fun a ha => sub2.subset ha⟩
theorem RS_uns {K : PySem.W.Frag} {W : Wd} : ∀ (m : Nat), RS K W (List.replicate m .un) (List.replicate m none) []
  | 0 => ⟨rfl, rfl⟩
  | m + 1 => ⟨none, List.replicate m none, [], [], rfl, rfl, RS_uns m, rfl⟩
theorem fnx_def {P : Program} {w : World} {K : PySem.W.Frag} {mg : Str → Option Value} {base : Heap} {nm qual : Str} {params : Arguments} {body : List Stmt} {scope : Scope} {dvs0 : List V} {kws : List (Str × V)} {fa : Addr} {fd : FuncData} {N ps : List Str} {k n : Nat} {f : FS} {run : RX} {ks : List Bool} {ob : List Nat}
    (F : FunD K nm qual params body scope dvs0 kws fa fd) (Sc : FnScope N ps scope) (hn : ps.length = n) (hob : ∀ i : Nat, ks[i]? = some true → i ∈ ob)
    (h : ∀ (cdv : Value) (A : Around) (outer : List Env) (s : Shared) (H : Hp) (E : XK), Room k (A.deeper (envOfC qual scope s.heap.objs.size fa cdv)) → PSS (cxOf (L2.CX P w) P w K mg base N qual scope fa cdv A outer s H E) ob (fun cls dx _ H' => E cls dx H') body f)
    (hr : ∀ ds μ o, run ds μ = some o → runX N.length ks f ds μ = some o) : FnOk P w K mg base (L2.CX P w) (k + 1) fa fd ps (spX K n run) := by
  refine F.ok Sc (fun vs H Q E q => ?_) (fun cdv A outer s H vs Q E hroom q => ?_)
  · obtain ⟨W, ds, μ, F0, o, _, S, hl, _⟩ := q
    have := S.len
    rw [List.length_map] at this
    rw [this, hl, hn]
  · obtain ⟨W, ds, μ, F0, o, hH, S, hl, hrun, g⟩ := q
    subst hH
    obtain ⟨ts, p, kk⟩ := h cdv A outer s W.H E hroom
    refine ⟨ts, p, ?_⟩
    have lv : vs.length = ds.length := by
      have := S.len
      rw [List.length_map] at this
      exact this
    have e0 : L2.start N vs = vs.map some ++ List.replicate (N.length - ds.length) none := by
      unfold L2.start
      rw [lv]
    rw [e0]
    have S0 : Sta K W (vs.map some ++ List.replicate (N.length - ds.length) none) (ds ++ List.replicate (N.length - ds.length) .un) μ F0 := by
      obtain ⟨F1, F2, a1, a2, a3⟩ := S.ex
      have a4 := RS_app a1 (RS_uns (K := K) (W := W) (N.length - ds.length))
      rw [List.append_nil] at a4
      exact ⟨⟨F1, F2, a4, a2, a3⟩, S.nd, S.own, S.ok⟩
    have h0 : ∀ (i : Nat) (v : V), vs[i]? = some v → (vs.map some ++ List.replicate (N.length - ds.length) none : L2.St)[i]? = some (some v) := fun i v hv => by
      have hi := (List.getElem?_eq_some_iff.mp hv).1
      rw [List.getElem?_append_left (by rw [List.length_map]; exact hi), List.getElem?_map, hv]
      rfl
    have hq := hr ds μ o hrun
    unfold runX at hq
    obtain ⟨o1, e1, hq⟩ := bind_some hq
    refine kk _ _ W _ μ F0 S0 o1 e1 ?_
    cases o1 with
    | nx ρ' μ' =>
      obtain ⟨ds', e2, z⟩ := map_some (show (fin ks ds ρ').map (fun ds' => EO.ok .non ds' μ') = some o from hq)
      subst z
      intro σ' W' F' S' mv kp
      obtain ⟨F2, S2, nd2, mv2⟩ := sta_fin (G := []) S S' S'.nd mv kp h0 hob e2
      exact g .non W' [] F2 ⟨rfl, rfl⟩ S2 nd2 (fun _ hb => nomatch hb) mv2
    | rt d ρ' μ' =>
      have hq2 : (if isUn d = true then none else (fin ks ds ρ').map fun ds' => EO.ok d ds' μ') = some o := hq
      by_cases hd : isUn d = true
      case pos => rw [if_pos hd] at hq2; cases hq2
      rw [if_neg hd] at hq2
      obtain ⟨ds', e2, z⟩ := map_some hq2
      subst z
      intro v σ' W' G F' rv S' nd own mv kp
      obtain ⟨F2, S2, nd2, mv2⟩ := sta_fin S S' nd mv kp h0 hob e2
      exact g v W' G F2 rv S2 nd2 own mv2
    | ex c fs ρ' μ' =>
      obtain ⟨ds', e2, z⟩ := map_some (show (fin ks ds ρ').map (fun ds' => EO.ex c fs ds' μ') = some o from hq)
      subst z
      intro dx σ' W' F' r S' mv kp
      obtain ⟨F2, S2, nd2, mv2⟩ := sta_fin (G := []) S S' S'.nd mv kp h0 hob e2
      exact g dx W' F2 r S2 mv2
    | _ => cases hq
theorem takes_cx {P : Program} {w : World} {K : PySem.W.Frag} {mg : Str → Option Value} {base : Heap} {N : List Str} {qual : Str} {scope : Scope} {fa : Addr} {cdv : Value} {A : Around} {outer : List Env} {s : Shared} {H : Hp} {E : XK} :
    Takes (cxOf (L2.CX P w) P w K mg base N qual scope fa cdv A outer s H E) (fun cls dx _ H' => E cls dx H') := takes_of rfl rfl rfl rfl
/-! ### calls -/
def OkX (P : Program) (w : World) (K : PySem.W.Frag) (mg : Str → Option Value) (base : Heap) (x : Str) (k n : Nat) (dd : List D) (run : RX) : Prop :=
  ∃ (f : Addr) (fd : FuncData) (ps : List Str) (dvs : List V) (us : List Value), FnOk P w K mg base (L2.CX P w) k f fd ps (spX K n run) ∧ Binds K fd ps us ∧ Vals dvs us ∧ (∀ W : Wd, RL K W dd dvs []) ∧ mg x = some (.ref f) ∧ PySem.W.keepIn K (.ref f) = true
/-- a method m of the class c -/
def OkM (P : Program) (w : World) (K : PySem.W.Frag) (mg : Str → Option Value) (base : Heap) (c m : Str) (k n : Nat) (dd : List D) (run : RX) : Prop :=
  ∃ (f : Addr) (fd : FuncData) (ps : List Str) (dvs : List V) (us : List Value), FnOk P w K mg base (L2.CX P w) k f fd ps (spX K n run) ∧ Binds K fd ps us ∧ Vals dvs us ∧ (∀ W : Wd, RL K W dd dvs []) ∧ Cls K (He.ga K c) ∧ Meth K (He.ga K c) m f
/-- the maker of the class c -/
def OkK (P : Program) (w : World) (K : PySem.W.Frag) (mg : Str → Option Value) (base : Heap) (c : Str) (k n : Nat) (dd : List D) (run : RX) : Prop :=
  ∃ (f : Addr) (fd : FuncData) (ps : List Str) (dvs : List V) (us : List Value), FnOk P w K mg base (L2.CX P w) k f fd ps (spX K n run) ∧ Binds K fd ps us ∧ Vals dvs us ∧ (∀ W : Wd, RL K W dd dvs []) ∧ Mk K (He.ga K c) f ∧ mg c = some (.ref (He.ga K c))
def xRun (n : Nat) (dd : List D) (run : RX) (k : FXA) : FX := fun ρ μ => (k ρ μ).bind fun o => match o with
  | .ok as ρ1 μ1 => (mo as ρ1).bind fun z => if (z.1 ++ dd).length = n then (run (z.1 ++ dd) μ1).bind (xPut fun ys => mi as z.2 (ys.take z.1.length)) else none
  | .ex c fs ρ1 μ1 => some (.ex c fs ρ1 μ1)
section
variable {X : Cx} {Wx : WX} {e a b c o : Expr} {es : List Expr} {f g : FX} {p apos pos : Pos} {kf : FXA} {x m : Str} {k n : Nat} {dd : List D} {run : RX}
theorem px_call (O : OkX X.prog X.w X.K X.mg X.base x k n dd run) (hr : Room k X.A) (tk : Takes X Wx) (ha : PAX X Wx (e :: es) kf) (hg : Gl X x := by rfl) (hdb : (x == ("__debug__" : Str)) = false := by decide)
    (he : starEach (e :: es) X.env = (false, eval e X.env) :: starEach es X.env := by rfl) (hpl : (backTo pos (starEach es X.env)).any (·.1) = false := by rfl) : PX X Wx (.Call (.Name x p) (e :: es) [] pos) (xRun n dd run kf) := by
  obtain ⟨f, fd, ps, dvs, us, hF, hb, hv, hdd, hm, hk⟩ := O
  obtain ⟨t, pt, k1⟩ := ha
  refine ⟨_, pe_callSD hF hr hg hm hk hb hv (fun σ => passAt tk σ) pt hdb he hpl, fun σ W ρ μ F S o ho Q hQ => ?_⟩
  obtain ⟨o1, e1, ho⟩ := bind_some ho
  refine k1 σ W ρ μ F S o1 e1 _ ?_
  cases o1 with
  | ok as ρ1 μ1 =>
    intro vs W1 F1 r S1 mv
    obtain ⟨z, e2, ho⟩ := bind_some (show (mo as ρ1).bind (fun z => if (z.1 ++ dd).length = n then (run (z.1 ++ dd) μ1).bind (xPut fun ys => mi as z.2 (ys.take z.1.length)) else none) = some o from ho)
    obtain ⟨ds, ρr⟩ := z
    by_cases hl : (ds ++ dd).length = n
    case neg => rw [if_neg hl] at ho; cases ho
    rw [if_pos hl] at ho
    obtain ⟨o2, e3, ho⟩ := bind_some ho
    have fo := (foc_args S1 r e2).trans fun Fc Sc => foc_vals Sc (hdd W1)
    rw [← List.map_append] at fo
    exact spX_of fo hl e3 ho (hQ.after mv)
  | ex c fs ρ1 μ1 =>
    cases ho
    exact hQ
theorem px_call0 (O : OkX X.prog X.w X.K X.mg X.base x k n dd run) (hr : Room k X.A) (tk : Takes X Wx) (hg : Gl X x := by rfl) (hdb : (x == ("__debug__" : Str)) = false := by decide) : PX X Wx (.Call (.Name x p) [] [] pos) (xRun n dd run xaNil) := by
  obtain ⟨f, fd, ps, dvs, us, hF, hb, hv, hdd, hm, hk⟩ := O
  refine ⟨fun σ H Q => spX X.K n run ([] ++ dvs) H Q (WE Wx σ), ⟨fun pins s σ H Q I h => ?_⟩, fun σ W ρ μ F S o ho Q hQ => ?_⟩
  · refine wpAny_Call_Name_kw (ld_glob I hg hm ?_ hdb)
    exact PySem.W.callWith_K0 I.kIn hk (run_fnSD (us := []) hF hr hb hv (passAt tk σ) I .nil h)
  · obtain ⟨o1, e1, ho⟩ := bind_some ho
    cases e1
    obtain ⟨z, e2, ho⟩ := bind_some (show (mo [] ρ).bind (fun z => if (z.1 ++ dd).length = n then (run (z.1 ++ dd) μ).bind (xPut fun ys => mi [] z.2 (ys.take z.1.length)) else none) = some o from ho)
    cases e2
    by_cases hl : ([] ++ dd).length = n
    case neg => rw [if_neg hl] at ho; cases ho
    rw [if_pos hl] at ho
    obtain ⟨o2, e3, ho⟩ := bind_some ho
    have fo := (foc_args (as := []) (vs := []) S rfl rfl).trans fun Fc Sc => foc_vals Sc (hdd W)
    rw [← List.map_append] at fo
    exact spX_of fo hl e3 ho hQ
/-! ### methods -/
def tMX (X : Cx) (Wx : WX) (m : Str) (k : Nat) (ta : TE) (t : TA) : TE := fun σ H Q => ta σ H fun x H1 => ∃ (a C dx : Addr) (fs : List (Str × V)) (g : Addr) (fd : FuncData) (ps : List Str) (sp : Sp) (dvs : List V) (us : List Value), x = .ref a ∧ H1 a = some (.ins C dx fs) ∧ Cls X.K C ∧ Meth X.K C m g ∧ fs.lookup m = none ∧
  FnOk X.prog X.w X.K X.mg X.base (L2.CX X.prog X.w) k g fd ps sp ∧ Binds X.K fd ps us ∧ Vals dvs us ∧ t σ H1 fun vs H2 => sp (x :: (vs ++ dvs)) H2 Q (WE Wx σ)
theorem pe_mx {pl : Sem Bool} {ta : TE} {t : TA} (he : PE X o ta) (hr : Room k X.A) (tk : Takes X Wx) (ha : PA X (e :: es) t)
    (hst : starEach (e :: es) X.env = (false, eval e X.env) :: starEach es X.env := by rfl) (hpl : (backTo pos (starEach es X.env)).any (·.1) = false := by rfl)
    (ht : eval (.Call (.Attribute o m apos) (e :: es) [] pos) X.env = (do
      let ov ← eval o X.env
      standAt apos.atName
      let (f, first) ← holding [ov] (getMethod ov m pl)
      callWith pos f first (backTo pos (starEach (e :: es) X.env)) (backToKw pos (keywordEach [] X.env))) := by rfl) :
    PE X (.Call (.Attribute o m apos) (e :: es) [] pos) (tMX X Wx m k ta t) := by
  refine ⟨fun pins s σ H Q I h => ?_⟩
  refine PySem.W.methodCall_KW (pl := pl) (thn (he.run pins s σ H _ I h) fun u s1 ⟨x, H1, I1, rx, a, C, dx, fs, g, fd, ps, sp, dvs, us0, ex, ea, c, hm, l, F, hb, hd, q⟩ => ?_) ht
  subst ex
  obtain rfl : u = Value.ref a := rx
  refine getmeth_ok I1 ea c hm l ?_
  refine PySem.W.callWith_K (first := [.ref a]) (h₀ := X.base) I.ok.mod.kin hm.kp (thn (ha.run pos pins s1 σ H1 _ I1 q) fun us s2 ⟨vs, H2, I2, r, q2⟩ => ⟨I2.kIn, ?_⟩) hst hpl
  exact run_fnSD (us := .ref a :: us) (vs := .ref a :: vs) F hr hb hd (passAt tk σ) I2 (.cons rfl r) q2
theorem pe_mx0 {pl : Sem Bool} {ta : TE} (he : PE X o ta) (hr : Room k X.A) (tk : Takes X Wx)
    (ht : eval (.Call (.Attribute o m apos) [] [] pos) X.env = (do
      let ov ← eval o X.env
      standAt apos.atName
      let (f, first) ← holding [ov] (getMethod ov m pl)
      callWith pos f first (backTo pos (starEach [] X.env)) (backToKw pos (keywordEach [] X.env))) := by rfl) :
    PE X (.Call (.Attribute o m apos) [] [] pos) (tMX X Wx m k ta tNil) := by
  refine ⟨fun pins s σ H Q I h => ?_⟩
  refine PySem.W.methodCall_KW (pl := pl) (thn (he.run pins s σ H _ I h) fun u s1 ⟨x, H1, I1, rx, a, C, dx, fs, g, fd, ps, sp, dvs, us0, ex, ea, c, hm, l, F, hb, hd, q⟩ => ?_) ht
  subst ex
  obtain rfl : u = Value.ref a := rx
  refine getmeth_ok I1 ea c hm l ?_
  exact PySem.W.callWith_K0 (first := [.ref a]) I1.kIn hm.kp (run_fnSD (us := [.ref a]) (vs := [.ref a]) F hr hb hd (passAt tk σ) I1 (.cons rfl .nil) q)
/-- the methods' table -/
abbrev MT := Str → Option RX
def OkMT (X : Cx) (m : Str) (k n : Nat) (dd : List D) (runs : MT) : Prop := ∀ c run, runs c = some run → OkM X.prog X.w X.K X.mg X.base c m k n dd run
/-- o.m(..), o a slot: the arguments may change things -/
def xMethS (i : Nat) (m : Str) (n : Nat) (dd : List D) (runs : MT) (k : FXA) : FX := fun ρ μ => (ρ[i]?).bind fun t => match t with
  | .obj c ns _ => if fidx m ns = none then (runs c).bind fun run => (k ρ μ).bind fun o => match o with
    | .ok as ρ1 μ1 => (mo (.slot i :: as) ρ1).bind fun z => if (z.1 ++ dd).length = n then (run (z.1 ++ dd) μ1).bind (xPut fun ys => mi (.slot i :: as) z.2 (ys.take z.1.length)) else none
    | .ex c fs ρ1 μ1 => some (.ex c fs ρ1 μ1)
    else none
  | _ => none
theorem methS_run {i : Nat} {t : TA} {runs : MT} (OM : OkMT X m k n dd runs) (k1 : PAr X Wx t kf) {σ : L2.St} {W : Wd} {ρ μ : List D} {F : List Addr} (S : Sta X.K W σ ρ μ F) {o : EO} (ho : xMethS i m n dd runs kf ρ μ = some o) {Q : VK} (hQ : GoesE X.K Wx Q σ W F o) : tMX X Wx m k (tVar i) t σ W.H Q := by
  obtain ⟨t0, e0, ho⟩ := bind_some ho
  cases t0 with
  | obj c ns ds0 =>
    have ho2 : (if fidx m ns = none then (runs c).bind fun run => (kf ρ μ).bind fun o => match o with
      | .ok as ρ1 μ1 => (mo (.slot i :: as) ρ1).bind fun z => if (z.1 ++ dd).length = n then (run (z.1 ++ dd) μ1).bind (xPut fun ys => mi (.slot i :: as) z.2 (ys.take z.1.length)) else none
      | .ex c fs ρ1 μ1 => some (.ex c fs ρ1 μ1)
      else none) = some o := ho
    by_cases hf : fidx m ns = none
    case neg => rw [if_neg hf] at ho2; cases ho2
    rw [if_pos hf] at ho2
    obtain ⟨run, e1, ho2⟩ := bind_some ho2
    obtain ⟨o1, e2, ho2⟩ := bind_some ho2
    obtain ⟨g, fd, ps, dvs, us, hF, hb, hv, hdd, hc, hm⟩ := OM c run e1
    obtain ⟨F1, F2, q1, _, _⟩ := S.ex
    obtain ⟨v, G, hv2, r0⟩ := RS_get q1 e0 (fun z => nomatch z)
    obtain ⟨a, dx, vs0, F', rfl, hH, hn, hR, rfl⟩ := r0
    refine ⟨.ref a, hv2, a, _, dx, _, g, fd, ps, _, dvs, us, rfl, hH, hc, hm, fidx_none hf, hF, hb, hv, ?_⟩
    refine k1 σ W ρ μ F S o1 e2 _ ?_
    cases o1 with
    | ok as ρ1 μ1 =>
      intro vs W1 F1 r S1 mv
      obtain ⟨z, e3, ho3⟩ := bind_some (show (mo (.slot i :: as) ρ1).bind (fun z => if (z.1 ++ dd).length = n then (run (z.1 ++ dd) μ1).bind (xPut fun ys => mi (.slot i :: as) z.2 (ys.take z.1.length)) else none) = some o from ho2)
      obtain ⟨ds, ρr⟩ := z
      by_cases hl : (ds ++ dd).length = n
      case neg => rw [if_neg hl] at ho3; cases ho3
      rw [if_pos hl] at ho3
      obtain ⟨o2, e4, ho3⟩ := bind_some ho3
      have fo := (foc_args (as := .slot i :: as) (vs := .ref a :: vs) S1 ⟨.ref a, vs, rfl, hv2, r⟩ e3).trans fun Fc Sc => foc_vals Sc (hdd W1)
      rw [← List.map_append] at fo
      exact spX_of fo hl e4 ho3 (hQ.after mv)
    | ex c fs ρ1 μ1 =>
      cases ho2
      exact hQ
  | _ => cases ho
theorem px_methS {pl : Sem Bool} {i : Nat} {y : Str} {runs : MT} (OM : OkMT X m k n dd runs) (hp : PE X (.Name y p) (tVar i)) (hr : Room k X.A) (tk : Takes X Wx) (ha : PAX X Wx (e :: es) kf)
    (hst : starEach (e :: es) X.env = (false, eval e X.env) :: starEach es X.env := by rfl) (hpl : (backTo pos (starEach es X.env)).any (·.1) = false := by rfl)
    (ht : eval (.Call (.Attribute (.Name y p) m apos) (e :: es) [] pos) X.env = (do
      let ov ← eval (.Name y p) X.env
      standAt apos.atName
      let (f, first) ← holding [ov] (getMethod ov m pl)
      callWith pos f first (backTo pos (starEach (e :: es) X.env)) (backToKw pos (keywordEach [] X.env))) := by rfl) :
    PX X Wx (.Call (.Attribute (.Name y p) m apos) (e :: es) [] pos) (xMethS i m n dd runs kf) := by
  obtain ⟨t, pt, k1⟩ := ha
  exact ⟨_, pe_mx hp hr tk pt hst hpl ht, fun σ W ρ μ F S o ho Q hQ => methS_run OM k1 S ho hQ⟩
theorem px_methS0 {pl : Sem Bool} {i : Nat} {y : Str} {runs : MT} (OM : OkMT X m k n dd runs) (hp : PE X (.Name y p) (tVar i)) (hr : Room k X.A) (tk : Takes X Wx)
    (ht : eval (.Call (.Attribute (.Name y p) m apos) [] [] pos) X.env = (do
      let ov ← eval (.Name y p) X.env
      standAt apos.atName
      let (f, first) ← holding [ov] (getMethod ov m pl)
      callWith pos f first (backTo pos (starEach [] X.env)) (backToKw pos (keywordEach [] X.env))) := by rfl) :
    PX X Wx (.Call (.Attribute (.Name y p) m apos) [] [] pos) (xMethS i m n dd runs xaNil) := by
  refine ⟨_, pe_mx0 hp hr tk ht, fun σ W ρ μ F S o ho Q hQ => methS_run OM (t := tNil) (kf := xaNil) ?_ S ho hQ⟩
  intro σ W ρ μ F S o ho Q hQ
  cases ho
  exact hQ [] W F rfl S (Ext.refl S.ok).mvr
end
end Fw
/-! # methods by paths and of new instances; makers; what is shared -/
namespace Fw
open PySem PySem.Spec PyProof.Rows L2
open Evl (Ex)
theorem rdp_det {K : PySem.W.Frag} {H : Hp} : ∀ {p : List Str} {u v v' : V}, rdp K H u p v → rdp K H u p v' → v = v'
  | [], _, _, _, h, h' => h.symm.trans h'
  | y :: p, u, v, v', ⟨a, C, dx, fs, w, h1, h2, h3, h4, h5, h6⟩, ⟨a', C', dx', fs', w', g1, g2, g3, g4, g5, g6⟩ => by
    subst h1
    cases g1
    rw [h2] at g2
    cases g2
    rw [h5] at g5
    cases g5
    exact rdp_det h6 g6
theorem rdp_ex {K : PySem.W.Frag} {H H' : Hp} (x : Ex H H') : ∀ {p : List Str} {u v : V}, rdp K H u p v → rdp K H' u p v
  | [], _, _, h => h
  | y :: p, u, v, ⟨a, C, dx, fs, w, h1, h2, h3, h4, h5, h6⟩ => ⟨a, C, dx, fs, w, h1, x _ _ h2, h3, h4, h5, rdp_ex x h6⟩
/-- e is the path p from the slot i -/
def PPath (X : Cx) (e : Expr) (i : Nat) (p : List Str) : Prop := ∃ te : TE, PE X e te ∧ ∀ (σ : L2.St) (H : Hp) (Q : VK) (u v : V), σ[i]? = some (some u) → rdp X.K H u p v → Q v H → te σ H Q
def flL (ds : List D) : Bool := ds.all fl
theorem RL_fl {K : PySem.W.Frag} {W : Wd} : ∀ {ds : List D} {vs : List V} {F : List Addr}, flL ds = true → RL K W ds vs F → F = []
  | [], _, _, _, h => h.2
  | d :: ds, _, _, q, h => by
    obtain ⟨v, vs', F1, F2, h1, h2, h3, h4⟩ := h
    have q1 : (fl d && flL ds) = true := q
    obtain ⟨qa, qb⟩ := Bool.and_eq_true_iff.mp q1
    rw [h4, R_fl qa h2, RL_fl qb h3]
    rfl
section
variable {X : Cx} {Wx : WX} {e a b c o : Expr} {es : List Expr} {f g : FX} {p apos pos : Pos} {kq : FA} {kf : FXA} {x m : Str} {k n i : Nat} {dd : List D} {run : RX} {q : List Str} {ok : OkT} {runs : MT}
theorem pp_var {y : Str} (hp : PE X (.Name y pos) (tVar i)) : PPath X (.Name y pos) i [] := ⟨_, hp, fun σ H Q u v hu h hQ => ⟨u, hu, by
  have e : u = v := h
  rw [e]
  exact hQ⟩⟩
theorem pp_fld (h : PPath X e i q) (hb : attributeBase e x X.env (eval e X.env) = eval e X.env := by rfl) : PPath X (.Attribute e x pos) i (q ++ [x]) := by
  obtain ⟨te, p, k⟩ := h
  refine ⟨_, pe_fld p hb, fun σ H Q u v hu hr hQ => ?_⟩
  obtain ⟨w, h1, a, C, dx, fs, w', h2, h3, h4, h5, h6, h7⟩ := rdp_app hr
  refine k σ H _ u w hu h1 ⟨a, C, dx, fs, w', h2, h3, h4, h5, h6, ?_⟩
  have e : w' = v := h7
  rw [e]
  exact hQ
/-- by a path, the arguments quiet -/
def xMethQ (ok : OkT) (i : Nat) (q : List Str) (m : Str) (n : Nat) (dd : List D) (runs : MT) (k : FA) : FX := fun ρ μ => (ρ[i]?).bind fun r => (pget ok q r).bind fun t => match t with
  | .obj c ns _ => if fidx m ns = none then (runs c).bind fun run => (k ρ μ).bind fun as => if flL as = true ∧ (t :: (as ++ dd)).length = n then (run (t :: (as ++ dd)) μ).bind (xPut fun ys => (put1 fun t' => (pput q r t').map fun r' => ρ.set i r') (ys.take 1)) else none else none
  | .ref j => match μ[j]? with
    | some (.obj c ns _) => if fidx m ns = none then (runs c).bind fun run => (k ρ μ).bind fun as => if flL as = true ∧ (t :: (as ++ dd)).length = n then (run (t :: (as ++ dd)) μ).bind (xPut fun ys => some ρ) else none else none
    | _ => none
  | _ => none
theorem foc_nil {K : PySem.W.Frag} {W : Wd} {σ : L2.St} {ρ μ : List D} {F : List Addr} (S : Sta K W σ ρ μ F) : Foc K W σ ρ μ F [] [] fun ys => if ys = [] then some ρ else none := by
  obtain ⟨Fc, S2, sub, k⟩ := sta_frame (τ := []) (xs := []) S rfl
  refine ⟨Fc, S2, sub, fun W' xs' μ' Fc' G E ρ' hp S' nd own hE mv => ?_⟩
  by_cases e : xs' = []
  · subst e
    cases hp
    exact k W' [] μ' Fc' G E S' nd own hE mv
  · have hp2 : (if xs' = [] then some ρ else none) = some ρ' := hp
    rw [if_neg e] at hp2
    cases hp2
theorem methQ_run {te : TE} {t : TA} (T : CE X.K ok) (OM : OkMT X m k n dd runs) (h0 : ∀ (σ : L2.St) (H : Hp) (Q : VK) (u v : V), σ[i]? = some (some u) → rdp X.K H u q v → Q v H → te σ H Q)
    (k1 : ∀ (σ : L2.St) (W : Wd) (ρ μ : List D) (F : List Addr), Sta X.K W σ ρ μ F → ∀ ds, kq ρ μ = some ds → ∀ Q : List V → Hp → Prop, (∀ vs W' G, Ext W W' → RL X.K W' ds vs G → Q vs W'.H) → t σ W.H Q)
    {σ : L2.St} {W : Wd} {ρ μ : List D} {F : List Addr} (S : Sta X.K W σ ρ μ F) {o : EO} (ho : xMethQ ok i q m n dd runs kq ρ μ = some o) {Q : VK} (hQ : GoesE X.K Wx Q σ W F o) : tMX X Wx m k te t σ W.H Q := by
  obtain ⟨r, e0, ho⟩ := bind_some ho
  obtain ⟨t0, e1, ho⟩ := bind_some ho
  obtain ⟨u, v, hu, hr, Fc, Sc, _⟩ := foc_sp T S e0 e1
  refine h0 σ W.H _ u v hu hr ?_
  obtain ⟨G0, F0, r1, _, _⟩ := sta_tail Sc
  rw [R1_iff] at r1
  rcases r1 with ⟨z, _⟩ | ⟨v1, ev, r1⟩
  · have := (pget_ne e1).2
    rw [z] at this
    cases this
  injection ev with ev
  subst ev
  cases t0 with
  | obj c ns ds0 =>
    have ho2 : (if fidx m ns = none then (runs c).bind fun run => (kq ρ μ).bind fun as => if flL as = true ∧ (D.obj c ns ds0 :: (as ++ dd)).length = n then (run (D.obj c ns ds0 :: (as ++ dd)) μ).bind (xPut fun ys => (put1 fun t' => (pput q r t').map fun r' => ρ.set i r') (ys.take 1)) else none else none) = some o := ho
    by_cases hf : fidx m ns = none
    case neg => rw [if_neg hf] at ho2; cases ho2
    rw [if_pos hf] at ho2
    obtain ⟨run, e2, ho2⟩ := bind_some ho2
    obtain ⟨as, e3, ho2⟩ := bind_some ho2
    by_cases hl : flL as = true ∧ (D.obj c ns ds0 :: (as ++ dd)).length = n
    case neg => rw [if_neg hl] at ho2; cases ho2
    rw [if_pos hl] at ho2
    obtain ⟨o2, e4, ho2⟩ := bind_some ho2
    obtain ⟨gf, fd, ps, dvs, us, hF, hb, hv, hdd, hc, hm⟩ := OM c run e2
    obtain ⟨a, dx, vs0, F', rfl, hH, hn, hR, rfl⟩ := r1
    refine ⟨a, _, dx, _, gf, fd, ps, _, dvs, us, rfl, hH, hc, hm, fidx_none hf, hF, hb, hv, ?_⟩
    refine k1 σ W ρ μ F S as e3 _ fun vs W1 G x1 ra => ?_
    have z := RL_fl hl.1 ra
    subst z
    obtain ⟨u', v', hu', hr', fo⟩ := foc_sp T (S.ext x1) e0 e1
    rw [hu] at hu'
    cases hu'
    have ev : v' = .ref a := rdp_det hr' (rdp_ex x1.ex hr)
    subst ev
    have fo2 := fo.trans fun Fc Sc => foc_vals Sc (RL_app ra (hdd W1))
    exact spX_of (vs := .ref a :: (vs ++ dvs)) fo2 hl.2 e4 ho2 (hQ.after x1.mvr)
  | ref j =>
    have ho2 : (match μ[j]? with
      | some (.obj c ns _) => if fidx m ns = none then (runs c).bind fun run => (kq ρ μ).bind fun as => if flL as = true ∧ (D.ref j :: (as ++ dd)).length = n then (run (D.ref j :: (as ++ dd)) μ).bind (xPut fun ys => some ρ) else none else none
      | _ => none) = some o := ho
    cases e9 : μ[j]? with
    | none => rw [e9] at ho2; cases ho2
    | some t2 =>
      rw [e9] at ho2
      cases t2 with
      | obj c ns ds0 =>
        have ho3 : (if fidx m ns = none then (runs c).bind fun run => (kq ρ μ).bind fun as => if flL as = true ∧ (D.ref j :: (as ++ dd)).length = n then (run (D.ref j :: (as ++ dd)) μ).bind (xPut fun ys => some ρ) else none else none) = some o := ho2
        by_cases hf : fidx m ns = none
        case neg => rw [if_neg hf] at ho3; cases ho3
        rw [if_pos hf] at ho3
        obtain ⟨run, e2, ho3⟩ := bind_some ho3
        obtain ⟨as, e3, ho3⟩ := bind_some ho3
        by_cases hl : flL as = true ∧ (D.ref j :: (as ++ dd)).length = n
        case neg => rw [if_neg hl] at ho3; cases ho3
        rw [if_pos hl] at ho3
        obtain ⟨o2, e4, ho3⟩ := bind_some ho3
        obtain ⟨gf, fd, ps, dvs, us, hF, hb, hv, hdd, hc, hm⟩ := OM c run e2
        have rj := r1
        obtain ⟨a, rfl, h3, hG0⟩ := r1
        obtain ⟨F1, F2, _, h4, _⟩ := S.ex
        obtain ⟨a', G', h5, h6, _⟩ := RL_map_get h4 e9
        rw [h3] at h5
        cases h5
        obtain ⟨a2, dx, vs0, F', ea, hH, hn, hR, _⟩ := h6
        cases ea
        refine ⟨_, _, dx, _, gf, fd, ps, _, dvs, us, rfl, hH, hc, hm, fidx_none hf, hF, hb, hv, ?_⟩
        refine k1 σ W ρ μ F S as e3 _ fun vs W1 G x1 ra => ?_
        have z := RL_fl hl.1 ra
        subst z
        subst hG0
        have fo2 := (foc_nil (S.ext x1)).trans fun Fc Sc => foc_vals (ds := D.ref j :: (as ++ dd)) (vs := .ref a :: (vs ++ dvs)) Sc ⟨.ref a, vs ++ dvs, [], [], rfl, R_ext x1 _ rj, RL_app ra (hdd W1), rfl⟩
        exact spX_of (vs := .ref a :: (vs ++ dvs)) (fo2.put_imp (put' := fun ys => some ρ) fun ys zs hz => by
          cases hz
          show (if ys.take ([] : List D).length = [] then some ρ else none) = some ρ
          rw [List.length_nil, List.take_zero, if_pos rfl]) hl.2 e4 ho3 (hQ.after x1.mvr)
      | _ => cases ho2
  | _ => cases ho
theorem px_methQ {pl : Sem Bool} (T : CE X.K ok) (OM : OkMT X m k n dd runs) (hp : PPath X o i q) (hr : Room k X.A) (tk : Takes X Wx) (ha : PAQ X (e :: es) kq)
    (hst : starEach (e :: es) X.env = (false, eval e X.env) :: starEach es X.env := by rfl) (hpl : (backTo pos (starEach es X.env)).any (·.1) = false := by rfl)
    (ht : eval (.Call (.Attribute o m apos) (e :: es) [] pos) X.env = (do
      let ov ← eval o X.env
      standAt apos.atName
      let (f, first) ← holding [ov] (getMethod ov m pl)
      callWith pos f first (backTo pos (starEach (e :: es) X.env)) (backToKw pos (keywordEach [] X.env))) := by rfl) :
    PX X Wx (.Call (.Attribute o m apos) (e :: es) [] pos) (xMethQ ok i q m n dd runs kq) := by
  obtain ⟨t, pt, k1⟩ := ha
  obtain ⟨te, pe, k0⟩ := hp
  exact ⟨_, pe_mx pe hr tk pt hst hpl ht, fun σ W ρ μ F S o ho Q hQ => methQ_run T OM k0 k1 S ho hQ⟩
theorem px_methQ0 {pl : Sem Bool} (T : CE X.K ok) (OM : OkMT X m k n dd runs) (hp : PPath X o i q) (hr : Room k X.A) (tk : Takes X Wx)
    (ht : eval (.Call (.Attribute o m apos) [] [] pos) X.env = (do
      let ov ← eval o X.env
      standAt apos.atName
      let (f, first) ← holding [ov] (getMethod ov m pl)
      callWith pos f first (backTo pos (starEach [] X.env)) (backToKw pos (keywordEach [] X.env))) := by rfl) :
    PX X Wx (.Call (.Attribute o m apos) [] [] pos) (xMethQ ok i q m n dd runs aNil) := by
  obtain ⟨te, pe, k0⟩ := hp
  refine ⟨_, pe_mx0 pe hr tk ht, fun σ W ρ μ F S o ho Q hQ => methQ_run (kq := aNil) T OM k0 (t := tNil) (fun σ W ρ μ F S ds hd Q q => ?_) S ho hQ⟩
  cases hd
  exact q [] W [] (Ext.refl S.ok) ⟨rfl, rfl⟩
/-! ### what stands at the front is dropped behind -/
def consE (t : D) : EO → EO
  | .ok d ρ μ => .ok d (t :: ρ) μ
  | .ex c fs ρ μ => .ex c fs (t :: ρ) μ
theorem goes_drop {K : PySem.W.Frag} {Q : VK} {σ : L2.St} {W W0 : Wd} {F F0 : List Addr} {o : EO} {oo : Option V} {t : D} (hQ : GoesE K Wx Q σ W0 F0 o) (mv0 : Mv W0 W F0 F) : GoesE K (fun cls dx _ H => Wx cls dx σ H) Q (oo :: σ) W F (consE t o) := by
  cases o with
  | ok d ρ' μ' =>
    intro v W' G F' r S nd own mv
    obtain ⟨G1, F2, _, S2, e⟩ := sta_tail S
    subst e
    have sub : (G ++ F2).Sublist (G ++ (G1 ++ F2)) := List.Sublist.append (List.Sublist.refl G) (List.sublist_append_right G1 F2)
    exact hQ v W' G F2 r S2 (nd.sublist sub) own ((mv0.trans mv).sub (fun _ h => h) fun a ha => sub.subset ha)
  | ex c fs ρ' μ' =>
    intro dx W' F' r S mv
    obtain ⟨G1, F2, _, S2, e⟩ := sta_tail S
    subst e
    exact hQ dx W' F2 r S2 ((mv0.trans mv).sub (fun _ h => h) fun a ha => List.mem_append_right _ ha)
/-- a method of a new instance that nobody keeps -/
def xMethT (m : Str) (n : Nat) (dd : List D) (runs : MT) (g : FX) (k : FA) : FX := fun ρ μ => (g ρ μ).bind fun o => match o with
  | .ok t ρ1 μ1 => (match t with
    | .obj c ns _ => if fidx m ns = none then (runs c).bind fun run => (k ρ1 μ1).bind fun as => if flL as = true ∧ (t :: (as ++ dd)).length = n then (run (t :: (as ++ dd)) μ1).bind (xPut fun ys => (ys.head?).map fun _ => ρ1) else none else none
    | _ => none)
  | .ex c fs ρ1 μ1 => some (.ex c fs ρ1 μ1)
theorem front_put {run2 : EO} {ρ1 : List D} {o : EO} (h : xPut (fun ys => (ys.head?).map fun _ => ρ1) run2 = some o) : ∃ t', xPut (fun ys => (put1 fun d' => some (d' :: ρ1)) (ys.take 1)) run2 = some (consE t' o) := by
  cases run2 with
  | ok d ys μ' =>
    cases ys with
    | nil => cases h
    | cons y ys =>
      cases h
      exact ⟨y, rfl⟩
  | ex c fs ys μ' =>
    cases ys with
    | nil => cases h
    | cons y ys =>
      cases h
      exact ⟨y, rfl⟩
theorem methT_run {te : TE} {t : TA} (OM : OkMT X m k n dd runs) (h0 : PXr X Wx te g)
    (k1 : ∀ (σ : L2.St) (W : Wd) (ρ μ : List D) (F : List Addr), Sta X.K W σ ρ μ F → ∀ ds, kq ρ μ = some ds → ∀ Q : List V → Hp → Prop, (∀ vs W' G, Ext W W' → RL X.K W' ds vs G → Q vs W'.H) → t σ W.H Q) : PXr X Wx (tMX X Wx m k te t) (xMethT m n dd runs g kq) := by
  intro σ W ρ μ F S o ho Q hQ
  obtain ⟨o1, e1, ho⟩ := bind_some ho
  refine h0 σ W ρ μ F S o1 e1 _ ?_
  cases o1 with
  | ok t0 ρ1 μ1 =>
    intro v W1 G F1 r S1 nd own mv
    cases t0 with
    | obj c ns ds0 =>
      have ho2 : (if fidx m ns = none then (runs c).bind fun run => (kq ρ1 μ1).bind fun as => if flL as = true ∧ (D.obj c ns ds0 :: (as ++ dd)).length = n then (run (D.obj c ns ds0 :: (as ++ dd)) μ1).bind (xPut fun ys => (ys.head?).map fun _ => ρ1) else none else none) = some o := ho
      by_cases hf : fidx m ns = none
      case neg => rw [if_neg hf] at ho2; cases ho2
      rw [if_pos hf] at ho2
      obtain ⟨run, e2, ho2⟩ := bind_some ho2
      obtain ⟨as, e3, ho2⟩ := bind_some ho2
      by_cases hl : flL as = true ∧ (D.obj c ns ds0 :: (as ++ dd)).length = n
      case neg => rw [if_neg hl] at ho2; cases ho2
      rw [if_pos hl] at ho2
      obtain ⟨o2, e4, ho2⟩ := bind_some ho2
      obtain ⟨gf, fd, ps, dvs, us, hF, hb, hv, hdd, hc, hm⟩ := OM c run e2
      have rt := r
      obtain ⟨a, dx, vs0, F', rfl, hH, hn, hR, hG⟩ := r
      refine ⟨a, _, dx, _, gf, fd, ps, _, dvs, us, rfl, hH, hc, hm, fidx_none hf, hF, hb, hv, ?_⟩
      refine k1 σ W1 ρ1 μ1 F1 S1 as e3 _ fun vs W2 G2 x2 ra => ?_
      have z := RL_fl hl.1 ra
      subst z
      have Sf := sta_cons (o := some (.ref a)) (R1_of (R_ext x2 _ rt)) (S1.ext x2) nd fun b hb => (own b hb).ext x2
      have fo2 := (foc_front Sf).trans fun Fc Sc => foc_vals Sc (RL_app ra (hdd W2))
      obtain ⟨t', ht'⟩ := front_put ho2
      exact spX_of (Wx := fun cls dx _ H => Wx cls dx σ H) (vs := .ref a :: (vs ++ dvs)) fo2 hl.2 e4 ht' (goes_drop hQ (mv.trans x2.mvr))
    | _ => cases ho
  | ex c fs ρ1 μ1 =>
    cases ho
    exact hQ
theorem px_methT {pl : Sem Bool} (OM : OkMT X m k n dd runs) (hp : PX X Wx o g) (hr : Room k X.A) (tk : Takes X Wx) (ha : PAQ X (e :: es) kq)
    (hst : starEach (e :: es) X.env = (false, eval e X.env) :: starEach es X.env := by rfl) (hpl : (backTo pos (starEach es X.env)).any (·.1) = false := by rfl)
    (ht : eval (.Call (.Attribute o m apos) (e :: es) [] pos) X.env = (do
      let ov ← eval o X.env
      standAt apos.atName
      let (f, first) ← holding [ov] (getMethod ov m pl)
      callWith pos f first (backTo pos (starEach (e :: es) X.env)) (backToKw pos (keywordEach [] X.env))) := by rfl) :
    PX X Wx (.Call (.Attribute o m apos) (e :: es) [] pos) (xMethT m n dd runs g kq) := by
  obtain ⟨t, pt, k1⟩ := ha
  obtain ⟨te, pe, k0⟩ := hp
  exact ⟨_, pe_mx pe hr tk pt hst hpl ht, methT_run OM k0 k1⟩
theorem px_methT0 {pl : Sem Bool} (OM : OkMT X m k n dd runs) (hp : PX X Wx o g) (hr : Room k X.A) (tk : Takes X Wx)
    (ht : eval (.Call (.Attribute o m apos) [] [] pos) X.env = (do
      let ov ← eval o X.env
      standAt apos.atName
      let (f, first) ← holding [ov] (getMethod ov m pl)
      callWith pos f first (backTo pos (starEach [] X.env)) (backToKw pos (keywordEach [] X.env))) := by rfl) :
    PX X Wx (.Call (.Attribute o m apos) [] [] pos) (xMethT m n dd runs g aNil) := by
  obtain ⟨te, pe, k0⟩ := hp
  refine ⟨_, pe_mx0 pe hr tk ht, methT_run (kq := aNil) (t := tNil) OM k0 fun σ W ρ μ F S ds hd Q q => ?_⟩
  cases hd
  exact q [] W [] (Ext.refl S.ok) ⟨rfl, rfl⟩
/-! ### makers -/
def xMake (c : Str) (n : Nat) (dd : List D) (run : RX) (k : FXA) : FX := xA k fun ds ρ μ => if (D.obj c [] [] :: (ds ++ dd)).length = n then (run (D.obj c [] [] :: (ds ++ dd)) μ).bind fun o => match o with
  | .ok d (t :: _) μ' => (match d with
    | .non => if isUn t = true then none else some (.ok t ρ μ')
    | _ => none)
  | .ex cx fs (_ :: _) μ' => some (.ex cx fs ρ μ')
  | _ => none
  else none
theorem runM {pins : List (Addr × Obj)} {σ : L2.St} {H : Hp} {s : Shared} {Q : VK} {us : List Value} {vs dvs : List V} {ds : List Value} {C f : Addr} {fd : FuncData} {ps : List Str} {sp : Sp} (M : Mk X.K C f) (F : FnOk X.prog X.w X.K X.mg X.base (L2.CX X.prog X.w) k f fd ps sp) (hr : Room (k + 1) X.A) (hb : Binds X.K fd ps ds) (hd : Vals dvs ds)
    (tk : Takes X Wx) (I : Inv X pins σ H s) (r : Vals vs us)
    (h : ∀ x dx, H x = none → H dx = none → dx ≠ x → sp (.ref x :: (vs ++ dvs)) (upd (upd H dx (.own x)) x (.ins C dx [])) (fun v H2 => v = .non ∧ Q (.ref x) H2) (WE Wx σ)) :
    wpAny (model X.prog X.w) X.A (call (.ref C) us) (EP X pins σ Q) X.xe s := by
  have hq := h (s.heap.objs.size + 1) s.heap.objs.size (I.hok.fresh (Nat.le_succ _)) (I.hok.fresh (Nat.le_refl _)) (Nat.ne_of_lt (Nat.lt_succ_self _))
  have I2 := Inv.made (C := C) I
  have r2 : Vals (V.ref (s.heap.objs.size + 1) :: (vs ++ dvs)) (Value.ref (s.heap.objs.size + 1) :: (us ++ ds)) := .cons rfl (r.append hd)
  have hl : (Value.ref (s.heap.objs.size + 1) :: us ++ ds).length = ps.length := by
    have e := r2.length
    rw [F.len _ _ _ _ hq] at e
    exact e.symm
  refine wpAny_call (make_map (f := f) I.kIn M.makes M.init (beq_iff_eq.mp M.fn) (codeAny_mono (F.run _ X.stack _ _ ⟨Value.ref (s.heap.objs.size + 1) :: us, []⟩ (Value.ref (s.heap.objs.size + 1) :: (us ++ ds)) _ _ _ (hr.make C us [])
    (I2.env0.make C us []) (hb _ (Value.ref (s.heap.objs.size + 1) :: us) I2.kIn hl) r2 hq) fun r s' hq' => ?_))
  cases r with
  | error e => exact passAt tk σ pins _ _ e s' I2 hq'
  | ok fl =>
    cases fl with
    | ret u =>
      obtain ⟨v, H', I3, rv, ev, q3⟩ := I2.after hq'
      subst ev
      exact ⟨rv, ⟨V.ref (s.heap.objs.size + 1), H', I3, rfl, q3⟩⟩
    | next => exact False.elim hq'
    | brk => exact False.elim hq'
    | cont => exact False.elim hq'
def tMk (C : Addr) (sp : Sp) (dvs : List V) (Wx : WX) (t : TA) : TE := fun σ H Q => t σ H fun vs H1 => ∀ x dx, H1 x = none → H1 dx = none → dx ≠ x →
  sp (.ref x :: (vs ++ dvs)) (upd (upd H1 dx (.own x)) x (.ins C dx [])) (fun v H2 => v = .non ∧ Q (.ref x) H2) (WE Wx σ)
theorem make_run {c : Str} {t : TA} {dvs : List V} (hdd : ∀ W : Wd, RL X.K W dd dvs []) (k1 : PAr X Wx t kf) : PXr X Wx (tMk (He.ga X.K c) (spX X.K n run) dvs Wx t) (xMake c n dd run kf) := by
  intro σ W ρ μ F S o ho Q hQ
  refine runA_bind k1 S ho hQ fun ds vs W1 ρ1 μ1 F1 ra S1 mv ho1 x dx hx hdx ne => ?_
  by_cases hl : (D.obj c [] [] :: (ds ++ dd)).length = n
  case neg => rw [if_neg hl] at ho1; cases ho1
  rw [if_pos hl] at ho1
  obtain ⟨o2, e4, ho1⟩ := bind_some ho1
  have x1 : Ext W1 (W1.put dx (.own x)) := Ext.put S1.ok hdx
  have hx2 : (W1.put dx (.own x)).H x = none := by
    show upd W1.H dx _ x = none
    rw [upd_ne fun z => ne z.symm]
    exact hx
  have x2 : Ext W1 ((W1.put dx (.own x)).put x (.ins (He.ga X.K c) dx [])) := x1.trans (Ext.put x1.ok hx2)
  have rt : R X.K ((W1.put dx (.own x)).put x (.ins (He.ga X.K c) dx [])) (.obj c [] []) (.ref x) [x] := ⟨x, dx, [], [], rfl, upd_same, rfl, ⟨rfl, rfl⟩, rfl⟩
  have xF : x ∉ F1 := fun z => by
    obtain ⟨_, w⟩ := S1.own x z
    rcases w with ⟨xs, w⟩ | ⟨C, dx, fs, w⟩ <;> rw [hx] at w <;> cases w
  have nofr : ¬ W1.Fr x := fun z => S1.ok x z hx
  have Sf := sta_cons (o := some (.ref x)) (R1_of rt) (S1.ext x2) (List.nodup_cons.mpr ⟨xF, S1.nd⟩) fun b hb => by
    obtain rfl := List.mem_singleton.mp hb
    exact ⟨nofr, .inr ⟨_, dx, _, upd_same⟩⟩
  have mv2 : Mv W ((W1.put dx (.own x)).put x (.ins (He.ga X.K c) dx [])) F ([x] ++ F1) := mv.trans ⟨fun b o h _ => x2.ex b o h, x2.fr, fun b h => (x2.nf b h).elim .inl fun z => .inr (.inl z), fun b hb => (List.mem_cons.mp hb).elim (fun z => .inr (z ▸ hx)) .inl, ⟨[], (List.append_nil _).symm⟩⟩
  have fo2 := (foc_front Sf).trans fun Fc Sc => foc_vals Sc (RL_app (RL_ext x2 ds ra) (hdd _))
  cases o2 with
  | ok d ys μ' =>
    cases ys with
    | nil => cases ho1
    | cons t' ys =>
      cases d with
      | non =>
        have ho3 : (if isUn t' = true then none else some (EO.ok t' ρ1 μ')) = some o := ho1
        by_cases hu : isUn t' = true
        case pos => rw [if_pos hu] at ho3; cases ho3
        rw [if_neg hu] at ho3
        cases ho3
        refine spX_of (Wx := fun cls dx _ H => Wx cls dx σ H) (vs := .ref x :: (vs ++ dvs)) (o := .ok .non (t' :: ρ1) μ') fo2 hl e4 rfl ?_
        intro v W' G F' r S' nd own mv3
        obtain ⟨rfl, rfl⟩ := r
        obtain ⟨G1, F2, r1, S2, e⟩ := sta_tail S'
        subst e
        rw [R1_iff] at r1
        rcases r1 with ⟨z, _⟩ | ⟨v1, ev, r1⟩
        · rw [z] at hu
          exact absurd rfl hu
        injection ev with ev
        subst ev
        exact ⟨rfl, hQ (.ref x) W' G1 F2 r1 S2 nd (fun b hb => S'.own b (List.mem_append_left _ hb)) (mv2.trans mv3)⟩
      | _ => cases ho1
  | ex cx fs ys μ' =>
    cases ys with
    | nil => cases ho1
    | cons t' ys =>
      cases ho1
      exact spX_of (Wx := fun cls dx _ H => Wx cls dx σ H) (vs := .ref x :: (vs ++ dvs)) (o := .ex cx fs (t' :: ρ1) μ') fo2 hl e4 rfl (goes_drop (o := .ex cx fs ρ1 μ') (t := t') (Q := fun v H2 => v = .non ∧ Q (.ref x) H2) hQ mv2)
theorem px_make {c : Str} (O : OkK X.prog X.w X.K X.mg X.base c k n dd run) (hr : Room (k + 1) X.A) (tk : Takes X Wx) (ha : PAX X Wx (e :: es) kf) (hg : Gl X c := by rfl) (hdb : (c == ("__debug__" : Str)) = false := by decide)
    (he : starEach (e :: es) X.env = (false, eval e X.env) :: starEach es X.env := by rfl) (hpl : (backTo pos (starEach es X.env)).any (·.1) = false := by rfl) : PX X Wx (.Call (.Name c p) (e :: es) [] pos) (xMake c n dd run kf) := by
  obtain ⟨f, fd, ps, dvs, us, hF, hb, hv, hdd, M, hm⟩ := O
  obtain ⟨t, pt, k1⟩ := ha
  refine ⟨tMk (He.ga X.K c) (spX X.K n run) dvs Wx t, ⟨fun pins s σ H Q I h => ?_⟩, make_run hdd k1⟩
  refine wpAny_Call_Name_kw (ld_glob I hg hm ?_ hdb)
  refine PySem.W.callWith_K (h₀ := X.base) I.ok.mod.kin M.kp (thn (pt.run pos pins s σ H _ I h) fun us s1 ⟨vs, H1, I1, r, q⟩ => ⟨I1.kIn, ?_⟩) he hpl
  exact runM M hF hr hb hv tk I1 r q
theorem px_make0 {c : Str} (O : OkK X.prog X.w X.K X.mg X.base c k n dd run) (hr : Room (k + 1) X.A) (tk : Takes X Wx) (hg : Gl X c := by rfl) (hdb : (c == ("__debug__" : Str)) = false := by decide) : PX X Wx (.Call (.Name c p) [] [] pos) (xMake c n dd run xaNil) := by
  obtain ⟨f, fd, ps, dvs, us, hF, hb, hv, hdd, M, hm⟩ := O
  refine ⟨tMk (He.ga X.K c) (spX X.K n run) dvs Wx tNil, ⟨fun pins s σ H Q I h => ?_⟩, make_run hdd ?_⟩
  · refine wpAny_Call_Name_kw (ld_glob I hg hm ?_ hdb)
    exact PySem.W.callWith_K0 I.kIn M.kp (runM (us := []) M hF hr hb hv tk I .nil h)
  · intro σ W ρ μ F S o ho Q hQ
    cases ho
    exact hQ [] W F rfl S (Ext.refl S.ok).mvr
/-- a new instance that several will know -/
def xShare (g : FX) : FX := fun ρ μ => (g ρ μ).bind fun o => match o with
  | .ok d ρ1 μ1 => (match d with
    | .obj _ _ _ => some (.ok (.ref μ1.length) ρ1 (μ1 ++ [d]))
    | _ => none)
  | .ex c fs ρ1 μ1 => some (.ex c fs ρ1 μ1)
theorem px_share (h : PX X Wx e g) : PX X Wx e (xShare g) := by
  obtain ⟨te, p, k1⟩ := h
  refine ⟨te, p, fun σ W ρ μ F S o ho Q hQ => ?_⟩
  obtain ⟨o1, e1, ho⟩ := bind_some ho
  refine k1 σ W ρ μ F S o1 e1 _ ?_
  cases o1 with
  | ex c fs ρ1 μ1 =>
    cases ho
    exact hQ
  | ok d ρ1 μ1 =>
    cases d with
    | obj c ns ds =>
      cases ho
      intro v W' G F' r S' nd own mv
      have rt := r
      obtain ⟨a, dx, vs, F0, rfl, hH, hn, hR, hG⟩ := r
      have lt : Lt W' ⟨W'.H, W'.Fr, W'.m ++ [a]⟩ := ⟨fun _ _ z => z, fun _ _ z => z, fun _ _ _ _ z z' => ⟨z, z'⟩, fun k b z => by
        show (W'.m ++ [a])[k]? = some b
        rw [List.getElem?_append_left (List.getElem?_eq_some_iff.mp z).1]
        exact z⟩
      obtain ⟨⟨F1, F2, h1, h2, h3⟩, nd2, own2, ok2⟩ := S'
      subst h3
      have lm : μ1.length = W'.m.length := by
        have := RL_len h2
        rw [List.length_map] at this
        exact this.symm
      have pm : (F1 ++ (F2 ++ G)).Perm (G ++ (F1 ++ F2)) := by
        rw [← List.append_assoc]
        exact List.perm_append_comm
      have r2 : RL X.K ⟨W'.H, W'.Fr, W'.m ++ [a]⟩ (μ1 ++ [.obj c ns ds]) ((W'.m ++ [a]).map V.ref) (F2 ++ G) := by
        rw [List.map_append]
        exact RL_app (RL_same lt rfl μ1 h2) ⟨.ref a, [], G, [], rfl, R_same lt rfl _ rt, ⟨rfl, rfl⟩, (List.append_nil G).symm⟩
      refine hQ (.ref a) ⟨W'.H, W'.Fr, W'.m ++ [a]⟩ [] (F1 ++ (F2 ++ G)) ⟨a, rfl, ?_, rfl⟩ ⟨⟨F1, F2 ++ G, RS_same lt rfl h1, r2, rfl⟩, nodup_of_perm pm nd, fun b hb => ?_, ok2⟩ (nodup_of_perm pm nd) (fun _ hb => nomatch hb) ⟨mv.keep, mv.fr, mv.nf, fun b hb => mv.own b (pm.mem_iff.mp hb), ?_⟩
      · show (W'.m ++ [a])[μ1.length]? = some a
        rw [lm, List.getElem?_append_right (Nat.le_refl _), Nat.sub_self]
        rfl
      · rcases List.mem_append.mp (pm.mem_iff.mp hb) with z | z
        · exact own b z
        · exact own2 b z
      · obtain ⟨l, hl⟩ := mv.m
        exact ⟨l ++ [a], by show W'.m ++ [a] = _; rw [hl, List.append_assoc]⟩
    | _ => cases ho
end
end Fw
/-! # statements that change something -/
namespace Fw
open PySem PySem.Spec PyProof.Rows L2
open Evl (Ex)
/-- by a statement's own end -/
def xS (g : FX) (k : D → FS) : FS := fun ρ μ => (g ρ μ).bind fun o => match o with
  | .ok d ρ1 μ1 => k d ρ1 μ1
  | .ex c fs ρ1 μ1 => some (.ex c fs ρ1 μ1)
section
variable {X : Cx} {Wx : WX} {e a b c o : Expr} {es : List Expr} {f g : FX} {p apos pos pos' : Pos} {kq : FA} {kf : FXA} {x m : Str} {k n i : Nat} {q : List Str} {ok : OkT} {ob : List Nat} {ss ss' : List Stmt} {f1 f2 : FS}
theorem runS_bind {te : TE} {k : D → FS} (h1 : PXr X Wx te g) {E : Ends} {σ : L2.St} {W : Wd} {ρ μ : List D} {F : List Addr} (S : Sta X.K W σ ρ μ F) {o : SO} (ho : xS g k ρ μ = some o) (h : Goes X.K ob Wx E σ W F o) {Q : VK}
    (hk : ∀ d v W1 G ρ1 μ1 F1, R X.K W1 d v G → Sta X.K W1 σ ρ1 μ1 F1 → (G ++ F1).Nodup → (∀ a ∈ G, Own W1 a) → Mv W W1 F (G ++ F1) → k d ρ1 μ1 = some o → Q v W1.H) : te σ W.H Q := by
  obtain ⟨o1, e1, ho⟩ := bind_some ho
  refine h1 σ W ρ μ F S o1 e1 Q ?_
  cases o1 with
  | ok d ρ1 μ1 => exact fun v W1 G F1 r S1 nd own mv => hk d v W1 G ρ1 μ1 F1 r S1 nd own mv ho
  | ex c fs ρ1 μ1 =>
    cases ho
    exact fun dx W' F' r S' mv => h dx σ W' F' r S' mv Kept.refl
/-! ### a name is set, a value is dropped, returned, asked -/
def fSetX (i : Nat) (g : FX) : FS := xS g fun d ρ μ => if isUn d = true then none else some (.nx (ρ.set i d) μ)
theorem R_notun {K : PySem.W.Frag} {W : Wd} {d : D} {v : V} {G : List Addr} (r : R K W d v G) : isUn d = false := by
  cases d <;> first
    | rfl
    | exact r.elim
theorem sta_setG {K : PySem.W.Frag} {W : Wd} {σ : L2.St} {ρ μ : List D} {G F : List Addr} {d : D} {v : V} (r : R K W d v G) (S : Sta K W σ ρ μ F) (nd : (G ++ F).Nodup) (own : ∀ a ∈ G, Own W a) (i : Nat) : ∃ F', Sta K W (σ.set i (some v)) (ρ.set i d) μ F' ∧ ∀ a ∈ F', a ∈ G ++ F := by
  have hl := S.len
  by_cases hi : i < ρ.length
  · obtain ⟨F1, S1, sub1⟩ := S.set (i := i) (d := .un) (o := some v) (show R1 K W .un (some v) [] from rfl)
    have nd1 : (G ++ F1).Nodup := by
      have z := List.nodup_append.mp nd
      exact List.nodup_append.mpr ⟨z.1, S1.nd, fun a ha b hb => z.2.2 a ha b (sub1 b hb)⟩
    have Sf := sta_cons (o := some v) (R1_of r) S1 nd1 own
    obtain ⟨F2, S2, sub2⟩ := sta_in (m := i) Sf (by rw [List.getElem?_set_self (by omega)])
    rw [List.set_set] at S2
    exact ⟨F2, S2, fun a ha => (List.mem_append.mp (sub2 a ha)).elim (List.mem_append_left _) fun z => List.mem_append_right _ (sub1 a z)⟩
  · rw [List.set_eq_of_length_le (by omega), List.set_eq_of_length_le (by omega)]
    exact ⟨F, S, fun a ha => List.mem_append_right _ ha⟩
theorem ps1_setX {i : Nat} {y : Str} {py : Pos} (hN : X.N.Nodup) (hi : X.N[i]? = some y) (hx : Loc X.env.scope y) (he : PX X Wx e g) (hs : swapsWith e (some (.Name y py)) pos.line X.env = pure false := by rfl) (hf : X.fn y = true ∨ X.env.scope.names.lookup y = some .local := by first | exact .inl rfl | exact .inr rfl) (ho : i ∉ ob := by decide) :
    PS1 X ob Wx (.Assign [.Name y py] e pos) (fSetX i g) := by
  obtain ⟨te, p, k⟩ := he
  refine ⟨_, ps_set hN hi hx p hs hf, fun E σ W ρ μ F S o ho1 h => ?_⟩
  refine runS_bind k S ho1 h fun d v W1 G ρ1 μ1 F1 r S1 nd own mv hk => ?_
  rw [if_neg (by rw [R_notun r]; exact Bool.false_ne_true)] at hk
  cases hk
  obtain ⟨F2, S2, sub⟩ := sta_setG r S1 nd own i
  exact h _ W1 F2 S2 (mv.sub (fun _ h => h) sub) (Kept.set ho)
def fSetTX (gt : D → List D → Option (List D)) (g : FX) : FS := xS g fun d ρ μ => if data d = true then (gt d ρ).map fun ρ' => .nx ρ' μ else none
def fExX (g : FX) : FS := xS g fun _ ρ μ => some (.nx ρ μ)
theorem mv_drop {W W1 : Wd} {F G F1 : List Addr} (mv : Mv W W1 F (G ++ F1)) : Mv W W1 F F1 := mv.sub (fun _ h => h) fun a ha => List.mem_append_right _ ha
theorem ps1_exX (he : PX X Wx e g) (hsw : swapsWith e none pos.line X.env = pure false := by rfl) : PS1 X ob Wx (.Expr e pos) (fExX g) := by
  obtain ⟨te, p, k⟩ := he
  refine ⟨_, ps_expr p hsw, fun E σ W ρ μ F S o ho1 h => ?_⟩
  refine runS_bind k S ho1 h fun d v W1 G ρ1 μ1 F1 r S1 nd own mv hk => ?_
  cases hk
  exact h σ W1 F1 S1 (mv_drop mv) Kept.refl
def fRetX (g : FX) : FS := xS g fun d ρ μ => some (.rt d ρ μ)
theorem ps1_retX (he : PX X Wx e g) : PS1 X ob Wx (.Return (some e) pos) (fRetX g) := by
  obtain ⟨te, p, k⟩ := he
  refine ⟨_, ps_ret p, fun E σ W ρ μ F S o ho1 h => ?_⟩
  refine runS_bind k S ho1 h fun d v W1 G ρ1 μ1 F1 r S1 nd own mv hk => ?_
  cases hk
  exact h v σ W1 G F1 r S1 nd own mv Kept.refl
def fIfX (t : FX) (f g : FS) : FS := xS t fun d ρ μ => match d with
  | .bl b => if b = true then f ρ μ else g ρ μ
  | _ => none
theorem ps1_ifX (hc : PTX X Wx e g) (ha : PSS X ob Wx ss f1) (hb : PSS X ob Wx ss' f2) : PS1 X ob Wx (.If e ss ss' pos) (fIfX g f1 f2) := by
  obtain ⟨t0, p0, k0⟩ := hc
  obtain ⟨t1, p1, k1⟩ := ha
  obtain ⟨t2, p2, k2⟩ := hb
  refine ⟨_, ps_if p0 p1 p2, fun E σ W ρ μ F S o ho h => ?_⟩
  obtain ⟨o1, e1, ho⟩ := bind_some ho
  refine k0 σ W ρ μ F S o1 e1 _ ?_
  cases o1 with
  | ok d ρ1 μ1 =>
    cases d with
    | bl b =>
      intro W1 F1 S1 mv
      have ho2 : (if b = true then f1 ρ1 μ1 else f2 ρ1 μ1) = some o := ho
      cases b with
      | true =>
        rw [if_pos rfl] at ho2 ⊢
        exact k1 E σ W1 ρ1 μ1 F1 S1 o ho2 (h.after mv Kept.refl)
      | false =>
        rw [if_neg Bool.false_ne_true] at ho2 ⊢
        exact k2 E σ W1 ρ1 μ1 F1 S1 o ho2 (h.after mv Kept.refl)
    | _ => cases ho
  | ex c fs ρ1 μ1 =>
    cases ho
    exact fun dx W' F' r S' mv => h dx σ W' F' r S' mv Kept.refl
/-! ### a field is set -/
def fFldX (ok : OkT) (i : Nat) (q : List Str) (x : Str) (g : FX) : FS := xS g fun d ρ μ => (ρ[i]?).bind fun r => (pget ok q r).bind fun t => match t with
  | .obj c ns ds => if ok c x = true ∧ ns.length < 1000 then (pput q r (putD x d c ns ds)).map fun r' => .nx (ρ.set i r') μ else none
  | .ref j => match μ[j]? with
    | some (.obj c ns ds) => if ok c x = true ∧ ns.length < 1000 ∧ fl d = true then some (.nx ρ (μ.set j (putD x d c ns ds))) else none
    | _ => none
  | _ => none
theorem zip_len {ns : List Str} {vs : List V} (h : ns.length = vs.length) : (ns.zip vs).length = ns.length := by
  rw [List.length_zip, h, Nat.min_self]
theorem putD_ne {d : D} {c : Str} {ns : List Str} {ds : List D} : isUn (putD x d c ns ds) = false := by
  unfold putD
  cases fidx x ns <;> rfl
theorem fld_run {te : TE} (T : CE X.K ok) {E : Ends} {σ : L2.St} {W W1 : Wd} (h0 : ∀ (Q : VK) (u v : V), σ[i]? = some (some u) → rdp X.K W1.H u q v → Q v W1.H → te σ W1.H Q) {ρ1 μ1 : List D} {F F1 G : List Addr} {d : D} {y : V}
    (ry : R X.K W1 d y G) (S1 : Sta X.K W1 σ ρ1 μ1 F1) (nd : (G ++ F1).Nodup) (own : ∀ a ∈ G, Own W1 a) (mv : Mv W W1 F (G ++ F1)) {o : SO} (h : Goes X.K ob Wx E σ W F o)
    (hk : ((ρ1[i]?).bind fun r => (pget ok q r).bind fun t => match t with
      | .obj c ns ds => if ok c x = true ∧ ns.length < 1000 then (pput q r (putD x d c ns ds)).map fun r' => SO.nx (ρ1.set i r') μ1 else none
      | .ref j => match μ1[j]? with
        | some (.obj c ns ds) => if ok c x = true ∧ ns.length < 1000 ∧ fl d = true then some (.nx ρ1 (μ1.set j (putD x d c ns ds))) else none
        | _ => none
      | _ => none) = some o) :
    te σ W1.H fun z H2 => ∃ a C dx fs, z = .ref a ∧ H2 a = some (.ins C dx fs) ∧ Cls X.K C ∧ NoAttr X.K C x ∧ fs.length < 1000 ∧ E.nx σ (upd H2 a (.ins C dx (putF x y fs))) := by
  obtain ⟨r, e0, hk⟩ := bind_some hk
  obtain ⟨t0, e1, hk⟩ := bind_some hk
  obtain ⟨u, v, hu, hr, Fc, Sc, subc, put⟩ := foc_sp T S1 e0 e1
  refine h0 _ u v hu hr ?_
  obtain ⟨G0, F0, r1, S0, eF⟩ := sta_tail Sc
  rw [R1_iff] at r1
  rcases r1 with ⟨z, _⟩ | ⟨v1, ev, r1⟩
  · have := (pget_ne e1).2
    rw [z] at this
    cases this
  injection ev with ev
  subst ev
  cases t0 with
  | obj c ns ds =>
    have hk2 : (if ok c x = true ∧ ns.length < 1000 then (pput q r (putD x d c ns ds)).map fun r' => SO.nx (ρ1.set i r') μ1 else none) = some o := hk
    by_cases hc : ok c x = true ∧ ns.length < 1000
    case neg => rw [if_neg hc] at hk2; cases hk2
    rw [if_pos hc] at hk2
    obtain ⟨r', e2, z⟩ := map_some hk2
    subst z
    obtain ⟨a, dx, vs, F', rfl, hH, hn, hR, rfl⟩ := r1
    obtain ⟨cl, na⟩ := T c x hc.1
    have lv := RL_len hR
    refine ⟨a, _, dx, _, rfl, hH, cl, na, by rw [zip_len (by rw [hn, lv])]; exact hc.2, ?_⟩
    have nd0 := List.nodup_append.mp nd
    have ndFc := Sc.nd
    rw [eF] at ndFc
    have ndO := List.nodup_append.mp ndFc
    have inFc : ∀ b ∈ a :: F', b ∈ F1 := fun b hb => subc b (by rw [eF]; exact List.mem_append_left _ hb)
    have ndG : (G ++ (a :: F')).Nodup := List.nodup_append.mpr ⟨nd0.1, ndO.1, fun b hb b' hb' => nd0.2.2 b hb b' (inFc b' hb')⟩
    have oa : Own W1 a := S1.own a (inFc a (List.mem_cons_self ..))
    obtain ⟨F'', rn, nd2, sub2⟩ := R_put (x := x) hH hn hR ry ndG oa.1
    obtain ⟨⟨F3, F4, p1, p2, p3⟩, nd3, own3, ok3⟩ := S0
    obtain ⟨_, rfl⟩ := p1
    have e6 : F0 = F4 := p3
    subst e6
    have naF : a ∉ F0 := fun z => ndO.2.2 a (List.mem_cons_self ..) a z rfl
    have lt : Lt W1 ⟨upd W1.H a (.ins (He.ga X.K c) dx (putF x y (ns.zip vs))), W1.Fr, W1.m⟩ := Lt.upd_ins hH oa.1
    have hst : RL X.K ⟨upd W1.H a (.ins (He.ga X.K c) dx (putF x y (ns.zip vs))), W1.Fr, W1.m⟩ μ1 (W1.m.map V.ref) F0 := RL_keep lt μ1 (fun b hb => upd_ne fun z => naF (z ▸ hb)) p2
    have okW : WOk ⟨upd W1.H a (.ins (He.ga X.K c) dx (putF x y (ns.zip vs))), W1.Fr, W1.m⟩ := fun b hb => by
      show upd W1.H a _ b ≠ none
      by_cases z : b = a
      · rw [z, upd_same]
        exact fun z => nomatch z
      · rw [upd_ne z]
        exact S1.ok b hb
    have ownU : ∀ b, Own W1 b → Own ⟨upd W1.H a (.ins (He.ga X.K c) dx (putF x y (ns.zip vs))), W1.Fr, W1.m⟩ b := fun b hb => by
      refine ⟨hb.1, ?_⟩
      show (∃ xs, upd W1.H a _ b = _) ∨ ∃ C dx fs, upd W1.H a _ b = _
      by_cases z : b = a
      · rw [z, upd_same]
        exact .inr ⟨_, _, _, rfl⟩
      · rw [upd_ne z]
        exact hb.2
    have ndN : (F'' ++ F0).Nodup := List.nodup_append.mpr ⟨nd2, ndO.2.1, fun b hb b' hb' z => by
      subst z
      rcases List.mem_append.mp (sub2 b hb) with w | w
      · exact nd0.2.2 b w b (subc b (by rw [eF]; exact List.mem_append_right _ hb')) rfl
      · exact ndO.2.2 b w b hb' rfl⟩
    have ownN : ∀ b ∈ F'' ++ F0, Own W1 b := fun b hb => by
      rcases List.mem_append.mp hb with w | w
      · rcases List.mem_append.mp (sub2 b w) with w | w
        · exact own b w
        · exact S1.own b (inFc b w)
      · exact S1.own b (subc b (by rw [eF]; exact List.mem_append_right _ w))
    have mvU : Mv W1 ⟨upd W1.H a (.ins (He.ga X.K c) dx (putF x y (ns.zip vs))), W1.Fr, W1.m⟩ (G ++ Fc) ([] ++ (F'' ++ F0)) := ⟨fun b o hb nb => by
        show upd W1.H a _ b = some o
        rw [upd_ne fun z => nb (List.mem_append_right _ (by rw [z, eF]; exact List.mem_append_left _ (List.mem_cons_self ..)))]
        exact hb, fun _ h => h, fun _ h => .inl h, fun b hb => .inl (by
        rcases List.mem_append.mp hb with w | w
        · cases w
        · rcases List.mem_append.mp w with w | w
          · rcases List.mem_append.mp (sub2 b w) with w | w
            · exact List.mem_append_left _ w
            · exact List.mem_append_right _ (by rw [eF]; exact List.mem_append_left _ w)
          · exact List.mem_append_right _ (by rw [eF]; exact List.mem_append_right _ w)), ⟨[], (List.append_nil _).symm⟩⟩
    obtain ⟨F9, S9, _, mv9⟩ := put _ [putD x d c ns ds] μ1 (F'' ++ F0) [] G _ (by
        show (pput q r (putD x d c ns ds)).map (fun d' => ρ1.set i d') = some (ρ1.set i r')
        rw [e2]
        rfl) ⟨⟨F'', F0, ⟨some (.ref a), [], F'', [], rfl, R1_of rn, ⟨rfl, rfl⟩, (List.append_nil _).symm⟩, hst, rfl⟩, ndN, fun b hb => ownU b (ownN b hb), okW⟩ ndN (fun _ hb => nomatch hb) (fun b hb => ⟨own b hb, fun z => nd0.2.2 b hb b z rfl⟩) mvU
    exact h σ _ F9 S9 (mv.trans mv9) Kept.refl
  | ref j =>
    have hk2 : (match μ1[j]? with
      | some (.obj c ns ds) => if ok c x = true ∧ ns.length < 1000 ∧ fl d = true then some (SO.nx ρ1 (μ1.set j (putD x d c ns ds))) else none
      | _ => none) = some o := hk
    cases e9 : μ1[j]? with
    | none => rw [e9] at hk2; cases hk2
    | some t2 =>
      rw [e9] at hk2
      cases t2 with
      | obj c ns ds =>
        have hk3 : (if ok c x = true ∧ ns.length < 1000 ∧ fl d = true then some (SO.nx ρ1 (μ1.set j (putD x d c ns ds))) else none) = some o := hk2
        by_cases hc : ok c x = true ∧ ns.length < 1000 ∧ fl d = true
        case neg => rw [if_neg hc] at hk3; cases hk3
        rw [if_pos hc] at hk3
        cases hk3
        have z := R_fl hc.2.2 ry
        subst z
        obtain ⟨a, rfl, h3, hG0⟩ := r1
        obtain ⟨⟨FA, F2, p1, p2, p3⟩, nd3, own3, ok3⟩ := S1
        subst p3
        obtain ⟨v0, A, B, C, q1, q2, q3, q4⟩ := RL_lens p2 e9
        subst q2
        rw [List.getElem?_map, h3] at q1
        injection q1 with q1
        subst q1
        obtain ⟨a2, dx, vs, F', ea, hH, hn, hR, eB⟩ := q3
        injection ea with ea
        subst ea
        obtain ⟨cl, na⟩ := T c x hc.1
        have lv := RL_len hR
        refine ⟨a, _, dx, _, rfl, hH, cl, na, by rw [zip_len (by rw [hn, lv])]; exact hc.2.1, ?_⟩
        subst eB
        have ndAll := List.nodup_append.mp nd3
        have ndB := List.nodup_append.mp ndAll.2.1
        have ndB2 := List.nodup_append.mp ndB.2.1
        have oa : Own W1 a := own3 a (List.mem_append_right _ (List.mem_append_right _ (List.mem_append_left _ (List.mem_cons_self ..))))
        obtain ⟨F'', rn, nd2, sub2⟩ := R_put (x := x) (Gy := []) hH hn hR ry ndB2.1 oa.1
        have sub3 : ∀ b ∈ F'', b ∈ a :: F' := fun b hb => (List.mem_append.mp (sub2 b hb)).elim (fun z => nomatch z) id
        have lt : Lt W1 ⟨upd W1.H a (.ins (He.ga X.K c) dx (putF x y (ns.zip vs))), W1.Fr, W1.m⟩ := Lt.upd_ins hH oa.1
        have off : ∀ b, b ≠ a → (⟨upd W1.H a (.ins (He.ga X.K c) dx (putF x y (ns.zip vs))), W1.Fr, W1.m⟩ : Wd).H b = W1.H b := fun b hb => upd_ne hb
        have aFA : a ∉ FA := fun z => ndAll.2.2 a z a (List.mem_append_right _ (List.mem_append_left _ (List.mem_cons_self ..))) rfl
        have aAC : a ∉ A ++ C := fun z => by
          rcases List.mem_append.mp z with w | w
          · exact ndB.2.2 a w a (List.mem_append_left _ (List.mem_cons_self ..)) rfl
          · exact ndB2.2.2 a (List.mem_cons_self ..) a w rfl
        have rr := q4 _ (putD x d c ns ds) (.ref a) F'' lt (fun b hb => off b fun z => aAC (z ▸ hb)) rn
        have es : (W1.m.map V.ref).set j (.ref a) = W1.m.map V.ref := set_self (by rw [List.getElem?_map, h3]; rfl)
        rw [es] at rr
        have okW : WOk ⟨upd W1.H a (.ins (He.ga X.K c) dx (putF x y (ns.zip vs))), W1.Fr, W1.m⟩ := fun b hb => by
          show upd W1.H a _ b ≠ none
          by_cases z : b = a
          · rw [z, upd_same]
            exact fun z => nomatch z
          · rw [upd_ne z]
            exact ok3 b hb
        have subF : ∀ b ∈ FA ++ (A ++ (F'' ++ C)), b ∈ FA ++ (A ++ ((a :: F') ++ C)) := fun b hb => by
          rcases List.mem_append.mp hb with w | w
          · exact List.mem_append_left _ w
          · refine List.mem_append_right _ ?_
            rcases List.mem_append.mp w with w | w
            · exact List.mem_append_left _ w
            · refine List.mem_append_right _ ?_
              rcases List.mem_append.mp w with w | w
              · exact List.mem_append_left _ (sub3 b w)
              · exact List.mem_append_right _ w
        have ndN : (FA ++ (A ++ (F'' ++ C))).Nodup := List.nodup_append.mpr ⟨ndAll.1, List.nodup_append.mpr ⟨ndB.1, List.nodup_append.mpr ⟨nd2, ndB2.2.1, fun b hb b' hb' => ndB2.2.2 b (sub3 b hb) b' hb'⟩, fun b hb b' hb' => ndB.2.2 b hb b' ((List.mem_append.mp hb').elim (fun w => List.mem_append_left _ (sub3 b' w)) (List.mem_append_right _))⟩, fun b hb b' hb' => by
          have w := subF b' (List.mem_append_right _ hb')
          rcases List.mem_append.mp w with w | w
          · intro e
            subst e
            rcases List.mem_append.mp hb' with z | z
            · exact ndAll.2.2 b hb b (List.mem_append_left _ z) rfl
            · refine ndAll.2.2 b hb b (List.mem_append_right _ ?_) rfl
              rcases List.mem_append.mp z with z | z
              · exact List.mem_append_left _ (sub3 b z)
              · exact List.mem_append_right _ z
          · exact ndAll.2.2 b hb b' w⟩
        refine h σ ⟨upd W1.H a (.ins (He.ga X.K c) dx (putF x y (ns.zip vs))), W1.Fr, W1.m⟩ (FA ++ (A ++ (F'' ++ C))) ⟨⟨FA, _, RS_keep lt (fun b hb => off b fun z => aFA (z ▸ hb)) p1, rr, rfl⟩, ndN, fun b hb => ?_, okW⟩ (mv.trans ⟨fun b o hb nb => ?_, fun _ h => h, fun _ h => .inl h, fun b hb => .inl (List.mem_append_right _ (subF b hb)), ⟨[], (List.append_nil _).symm⟩⟩) Kept.refl
        · have hb1 := own3 b (subF b hb)
          refine ⟨hb1.1, ?_⟩
          show (∃ xs, upd W1.H a _ b = _) ∨ ∃ C dx fs, upd W1.H a _ b = _
          by_cases z : b = a
          · rw [z, upd_same]
            exact .inr ⟨_, _, _, rfl⟩
          · rw [upd_ne z]
            exact hb1.2
        · show upd W1.H a _ b = some o
          rw [upd_ne fun z => nb (List.mem_append_right _ (List.mem_append_right _ (List.mem_append_right _ (List.mem_append_left _ (by rw [z]; exact List.mem_cons_self ..)))))]
          exact hb
      | _ => cases hk2
  | _ => cases hk
theorem ps1_fldX {ep : Expr} (T : CE X.K ok) (hp : PPath X ep i q) (he : PX X Wx e g) (hs : swapsWith e (some (.Attribute ep x pos')) pos.line X.env = pure false := by rfl) : PS1 X ob Wx (.Assign [.Attribute ep x pos'] e pos) (fFldX ok i q x g) := by
  obtain ⟨tv, pv, kv⟩ := he
  obtain ⟨te, pe, k0⟩ := hp
  refine ⟨_, ps_fld pe pv hs, fun E σ W ρ μ F S o ho1 h => ?_⟩
  exact runS_bind kv S ho1 h fun d v W1 G ρ1 μ1 F1 r S1 nd own mv hk => fld_run T (fun Q u v => k0 σ _ Q u v) r S1 nd own mv h hk
/-! ### raise -/
def fRaise (c : Str) : FS := fun ρ μ => some (.ex c [] ρ μ)
theorem ps1_raise {c : Str} {t : L2.St → Hp → XK → Prop} (hc : X.calm = true) (tk : Takes X Wx) (he : PMk X e t) (ht : ∀ (σ : L2.St) (H : Hp) (Q : XK), Q (.ref (He.ga X.K c)) none H → t σ H Q) : PS1 X ob Wx (.Raise (some e) none pos) (fRaise c) :=
  ⟨_, ps_raise hc tk he, fun E σ W ρ μ F S o ho h => by
    cases ho
    exact ht σ W.H _ (h none σ W F (.inl ⟨rfl, rfl⟩) S (Ext.refl S.ok).mvr Kept.refl)⟩
end
end Fw
/-! # defs and methods that only look at what is lent -/
namespace Fw
open PySem PySem.Spec PyProof.Rows L2
open Evl (Ex)
mutual
/-- nothing of it is changed meanwhile -/
def fz : D → D
  | .tup ds => .tup (fzL ds)
  | .lst ds => .lst (fzL ds)
  | .ml ds => .lst (fzL ds)
  | .obj c ns ds => .fo c ns (fzL ds)
  | .fo c ns ds => .fo c ns (fzL ds)
  | d => d
def fzL : List D → List D
  | [] => []
  | d :: ds => fz d :: fzL ds
end
theorem fzL_len : ∀ ds : List D, (fzL ds).length = ds.length
  | [] => rfl
  | d :: ds => congrArg Nat.succ (fzL_len ds)
mutual
theorem fz_data : ∀ d : D, data d = true → fz d = d
  | .non, _ => rfl
  | .bl _, _ => rfl
  | .int _, _ => rfl
  | .str _, _ => rfl
  | .tup ds, h => congrArg D.tup (fzL_data ds h)
  | .lst ds, h => congrArg D.lst (fzL_data ds h)
  | .ml _, h => by cases h
  | .obj _ _ _, h => by cases h
  | .fo _ _ _, h => by cases h
  | .ref _, h => by cases h
  | .un, h => by cases h
theorem fzL_data : ∀ ds : List D, dataL ds = true → fzL ds = ds
  | [], _ => rfl
  | d :: ds, h => by
    obtain ⟨a, b⟩ := Bool.and_eq_true_iff.mp (show (data d && dataL ds) = true from h)
    show fz d :: fzL ds = d :: ds
    rw [fz_data d a, fzL_data ds b]
end
abbrev Wd.all (W : Wd) : Wd := ⟨W.H, fun a => W.H a ≠ none, W.m⟩
theorem Wd.all_ok {W : Wd} : WOk W.all := fun _ h => h
section
variable {K : PySem.W.Frag} {W : Wd}
mutual
theorem R_fz (ok : WOk W) : ∀ (d : D) {v : V} {F : List Addr}, R K W d v F → R K W.all (fz d) v []
  | .non, _, _, h => ⟨h.1, rfl⟩
  | .bl _, _, _, h => ⟨h.1, rfl⟩
  | .int _, _, _, h => ⟨h.1, rfl⟩
  | .str _, _, _, h => ⟨h.1, rfl⟩
  | .tup ds, _, _, h => by
    obtain ⟨a, vs, h1, h2, h3⟩ := h
    exact ⟨a, vs, h1, h2, RL_fz ok ds h3⟩
  | .lst ds, _, _, h => by
    obtain ⟨a, vs, h1, h2, h3, h4⟩ := h
    exact ⟨a, vs, h1, h2.imp (fun z => ⟨z.1, ok a z.2⟩) id, RL_fz ok ds h3, rfl⟩
  | .ml ds, _, _, h => by
    obtain ⟨a, vs, F', h1, h2, h3, h4⟩ := h
    exact ⟨a, vs, h1, .inl ⟨.inl h2, fun z => by rw [show W.H a = some (.lst vs) from h2] at z; cases z⟩, RL_fz ok ds h3, rfl⟩
  | .obj c ns ds, _, _, h => by
    obtain ⟨a, dx, vs, F', h1, h2, h3, h4, h5⟩ := h
    have nf : W.H a ≠ none := by
      rw [h2]
      exact fun z => nomatch z
    exact ⟨a, dx, vs, h1, h2, nf, by rw [fzL_len]; exact h3, RL_fz ok ds h4, rfl⟩
  | .fo c ns ds, _, _, h => by
    obtain ⟨a, dx, vs, h1, h2, h3, h4, h5, h6⟩ := h
    exact ⟨a, dx, vs, h1, h2, ok a h3, by rw [fzL_len]; exact h4, RL_fz ok ds h5, rfl⟩
  | .ref k, _, _, h => by
    obtain ⟨a, h1, h2, h3⟩ := h
    exact ⟨a, h1, h2, rfl⟩
  | .un, _, _, h => h.elim
theorem RL_fz (ok : WOk W) : ∀ (ds : List D) {vs : List V} {F : List Addr}, RL K W ds vs F → RL K W.all (fzL ds) vs []
  | [], _, _, h => ⟨h.1, rfl⟩
  | d :: ds, _, _, h => by
    obtain ⟨v, vs', F1, F2, h1, h2, h3, h4⟩ := h
    exact ⟨v, vs', [], [], h1, R_fz ok d h2, RL_fz ok ds h3, rfl⟩
end
mutual
/-- data without lists -/
def noL : D → Bool
  | .non => true
  | .bl _ => true
  | .int _ => true
  | .str _ => true
  | .tup ds => noLL ds
  | _ => false
def noLL : List D → Bool
  | [] => true
  | d :: ds => noL d && noLL ds
end
mutual
theorem R_noL {W' : Wd} (hH : W'.H = W.H) : ∀ (d : D) {v : V} {F : List Addr}, noL d = true → R K W d v F → R K W' d v []
  | .non, _, _, _, h => ⟨h.1, rfl⟩
  | .bl _, _, _, _, h => ⟨h.1, rfl⟩
  | .int _, _, _, _, h => ⟨h.1, rfl⟩
  | .str _, _, _, _, h => ⟨h.1, rfl⟩
  | .tup ds, _, _, q, h => by
    obtain ⟨a, vs, h1, h2, h3⟩ := h
    exact ⟨a, vs, h1, by rw [hH]; exact h2, RL_noL hH ds q h3⟩
  | .lst _, _, _, q, _ => by cases q
  | .ml _, _, _, q, _ => by cases q
  | .obj _ _ _, _, _, q, _ => by cases q
  | .fo _ _ _, _, _, q, _ => by cases q
  | .ref _, _, _, q, _ => by cases q
  | .un, _, _, q, _ => by cases q
theorem RL_noL {W' : Wd} (hH : W'.H = W.H) : ∀ (ds : List D) {vs : List V} {F : List Addr}, noLL ds = true → RL K W ds vs F → RL K W' ds vs []
  | [], _, _, _, h => ⟨h.1, rfl⟩
  | d :: ds, _, _, q, h => by
    obtain ⟨v, vs', F1, F2, h1, h2, h3, h4⟩ := h
    obtain ⟨qa, qb⟩ := Bool.and_eq_true_iff.mp (show (noL d && noLL ds) = true from q)
    exact ⟨v, vs', [], [], h1, R_noL hH d qa h2, RL_noL hH ds qb h3, rfl⟩
end
/-- what may come back -/
def resF : D → Option D
  | .ml ds => if noLL ds = true then some (.lst ds) else none
  | d => if noL d = true then some d else none
end
theorem resF_noL {d d' : D} (h : resF d = some d') (hn : ∀ ds, d ≠ .ml ds) : noL d = true ∧ d' = d := by
  unfold resF at h
  split at h
  · exact absurd rfl (hn _)
  · by_cases z : noL d = true
    · rw [if_pos z] at h
      exact ⟨z, (Option.some.inj h).symm⟩
    · rw [if_neg z] at h
      cases h
abbrev RF := List D → List D → Option D
def spF (K : PySem.W.Frag) (n : Nat) (run : RF) : Sp := fun vs H Q _ => ∃ (W : Wd) (ds μ : List D) (d : D), W.H = H ∧ WOk W ∧ RL K W ds vs [] ∧ RL K W μ (W.m.map V.ref) [] ∧ ds.length = n ∧ run ds μ = some d ∧
  ∀ v W' G, R K W' d v G → WOk W' → G.Nodup → (∀ a ∈ G, Own W' a) → Mv W W' [] G → Q v W'.H
def runF (N : Nat) (f : FS) : RF := fun ds μ => match f (ds ++ List.replicate (N - ds.length) .un) μ with
  | some (.rt d _ _) => some d
  | some (.nx _ _) => some .non
  | _ => none
theorem fnf_def {P : Program} {w : World} {K : PySem.W.Frag} {mg : Str → Option Value} {base : Heap} {nm qual : Str} {params : Arguments} {body : List Stmt} {scope : Scope} {dvs0 : List V} {kws : List (Str × V)} {fa : Addr} {fd : FuncData} {N ps : List Str} {k n : Nat} {f : FS} {run : RF} {ob : List Nat}
    (F : FunD K nm qual params body scope dvs0 kws fa fd) (Sc : FnScope N ps scope) (hn : ps.length = n)
    (h : ∀ (cdv : Value) (A : Around) (outer : List Env) (s : Shared) (H : Hp) (E : XK), Room k (A.deeper (envOfC qual scope s.heap.objs.size fa cdv)) → PSS (cxOf (L2.CX P w) P w K mg base N qual scope fa cdv A outer s H E) ob (fun _ _ _ _ => False) body f)
    (hr : ∀ ds μ d, run ds μ = some d → runF N.length f ds μ = some d) : FnOk P w K mg base (L2.CX P w) (k + 1) fa fd ps (spF K n run) := by
  refine F.ok Sc (fun vs H Q E q => ?_) (fun cdv A outer s H vs Q E hroom q => ?_)
  · obtain ⟨W, ds, μ, d, _, _, r, _, hl, _⟩ := q
    rw [RL_len r, hl, hn]
  · obtain ⟨W, ds, μ, d, hH, okW, r, rm, hl, hrun, q⟩ := q
    subst hH
    obtain ⟨ts, p, kk⟩ := h cdv A outer s W.H E hroom
    refine ⟨ts, p, ?_⟩
    have lv : vs.length = ds.length := RL_len r
    have e0 : L2.start N vs = vs.map some ++ List.replicate (N.length - ds.length) none := by
      unfold L2.start
      rw [lv]
    rw [e0]
    have S : Sta K W (vs.map some ++ List.replicate (N.length - ds.length) none) (ds ++ List.replicate (N.length - ds.length) .un) μ [] := ⟨⟨[], [], RS_start _ r, rm, rfl⟩, List.nodup_nil, (fun _ h => nomatch h), okW⟩
    have hq := hr ds μ d hrun
    unfold runF at hq
    cases e1 : f (ds ++ List.replicate (N.length - ds.length) .un) μ with
    | none => rw [e1] at hq; cases hq
    | some o =>
      rw [e1] at hq
      refine kk _ _ W _ μ [] S o e1 ?_
      cases o with
      | nx ρ' μ' =>
        cases hq
        intro σ' W' F' S' mv kp
        exact q .non W' [] ⟨rfl, rfl⟩ S'.ok List.nodup_nil (fun _ hb => nomatch hb) (mv.sub (fun _ h => h) fun _ hb => nomatch hb)
      | rt d' ρ' μ' =>
        cases hq
        intro v σ' W' G F' rv S' nd own mv kp
        exact q v W' G rv S'.ok (nd.sublist (List.sublist_append_left G F')) own (mv.sub (fun _ h => h) fun _ hb => List.mem_append_left _ hb)
      | _ => cases hq
def OkF (P : Program) (w : World) (K : PySem.W.Frag) (mg : Str → Option Value) (base : Heap) (x : Str) (k n : Nat) (dd : List D) (run : RF) : Prop :=
  ∃ (f : Addr) (fd : FuncData) (ps : List Str) (dvs : List V) (us : List Value), FnOk P w K mg base (L2.CX P w) k f fd ps (spF K n run) ∧ Binds K fd ps us ∧ Vals dvs us ∧ (∀ W : Wd, RL K W dd dvs []) ∧ mg x = some (.ref f) ∧ PySem.W.keepIn K (.ref f) = true
def OkFM (P : Program) (w : World) (K : PySem.W.Frag) (mg : Str → Option Value) (base : Heap) (c m : Str) (k n : Nat) (dd : List D) (run : RF) : Prop :=
  ∃ (f : Addr) (fd : FuncData) (ps : List Str) (dvs : List V) (us : List Value), FnOk P w K mg base (L2.CX P w) k f fd ps (spF K n run) ∧ Binds K fd ps us ∧ Vals dvs us ∧ (∀ W : Wd, RL K W dd dvs []) ∧ Cls K (He.ga K c) ∧ Meth K (He.ga K c) m f
/-- into a def that only looks, and back -/
theorem look_back {K : PySem.W.Frag} {n : Nat} {run : RF} {W : Wd} {σ : L2.St} {ρ μ ds : List D} {F : List Addr} {vs : List V} {d d' : D} {Q : VK} {E : XK} (S : Sta K W σ ρ μ F) (r : RL K W.all ds vs []) (hn : ds.length = n) (hr : run ds (fzL μ) = some d) (hd : resF d = some d')
    (q : ∀ v W', Ext W W' → R K W' d' v [] → Q v W'.H) : spF K n run vs W.H Q E := by
  obtain ⟨F1, F2, _, h2, _⟩ := S.ex
  refine ⟨W.all, ds, fzL μ, d, rfl, Wd.all_ok, r, RL_fz S.ok μ h2, hn, hr, fun v W2 G rv ok2 _ own mv => ?_⟩
  have hx : Ext W ⟨W2.H, fun a => W.Fr a ∨ ((W2.Fr a ∨ a ∈ G) ∧ W.H a = none), W.m⟩ := by
    refine ⟨fun a o e => mv.keep a o e (fun z => nomatch z), fun a h => .inl h, fun a h => ?_, rfl, fun a h => ?_⟩
    · rcases h with h | h
      · exact .inl h
      · exact .inr h.2
    · rcases h with h | ⟨h | h, _⟩
      · intro z
        cases e : W.H a with
        | none => exact S.ok a h e
        | some o =>
          have := mv.keep a o e (fun z => nomatch z)
          rw [show W2.H a = none from z] at this
          cases this
      · exact ok2 a h
      · obtain ⟨_, w⟩ := own a h
        intro z
        rcases w with ⟨xs, w⟩ | ⟨C, dx, fs, w⟩ <;> rw [show W2.H a = none from z] at w <;> cases w
  refine q v ⟨W2.H, fun a => W.Fr a ∨ ((W2.Fr a ∨ a ∈ G) ∧ W.H a = none), W.m⟩ hx ?_
  have hH : (⟨W2.H, fun a => W.Fr a ∨ ((W2.Fr a ∨ a ∈ G) ∧ W.H a = none), W.m⟩ : Wd).H = W2.H := rfl
  cases d with
  | ml es =>
    have hd2 : (if noLL es = true then some (D.lst es) else none) = some d' := hd
    by_cases hl : noLL es = true
    case neg => rw [if_neg hl] at hd2; cases hd2
    rw [if_pos hl] at hd2
    cases hd2
    obtain ⟨a, ws, F', h1, h3, h4, h5⟩ := rv
    have ha : a ∈ G := by
      rw [h5]
      exact List.mem_cons_self ..
    have hf : W.Fr a ∨ ((W2.Fr a ∨ a ∈ G) ∧ W.H a = none) := .inr ⟨.inr ha, (mv.own a ha).elim (fun z => nomatch z) id⟩
    exact ⟨a, ws, h1, .inl ⟨.inl h3, hf⟩, RL_noL hH es hl h4, rfl⟩
  | _ =>
    obtain ⟨hl, rfl⟩ := resF_noL hd fun _ z => nomatch z
    exact R_noL hH _ hl rv
def qRunF (n : Nat) (dd : List D) (run : RF) (k : FA) : FQ := fun ρ μ => (k ρ μ).bind fun as => if (fzL as ++ dd).length = n then (run (fzL as ++ dd) (fzL μ)).bind resF else none
section
variable {X : Cx} {Wx : WX} {e o : Expr} {es : List Expr} {p apos pos : Pos} {kq : FA} {x m : Str} {k n : Nat} {dd : List D} {run : RF} {f : FQ}
theorem pq_callF (O : OkF X.prog X.w X.K X.mg X.base x k n dd run) (hr : Room k X.A) (ha : PAQ X (e :: es) kq) (hg : Gl X x := by rfl) (hdb : (x == ("__debug__" : Str)) = false := by decide)
    (he : starEach (e :: es) X.env = (false, eval e X.env) :: starEach es X.env := by rfl) (hpl : (backTo pos (starEach es X.env)).any (·.1) = false := by rfl) : PQ X (.Call (.Name x p) (e :: es) [] pos) (qRunF n dd run kq) := by
  obtain ⟨f, fd, ps, dvs, us, hF, hb, hv, hdd, hm, hk⟩ := O
  obtain ⟨t, pt, k1⟩ := ha
  refine ⟨_, pe_call hF hr hg hm hk hb hv passL pt hdb he hpl, fun σ W ρ μ F S d hd Q q => ?_⟩
  obtain ⟨as, e1, hd⟩ := bind_some hd
  by_cases hl : (fzL as ++ dd).length = n
  case neg => rw [if_neg hl] at hd; cases hd
  rw [if_pos hl] at hd
  obtain ⟨d', e2, hd⟩ := bind_some hd
  refine k1 σ W ρ μ F S as e1 _ fun vs W1 G1 x1 r1 => ?_
  exact look_back (S.ext x1) (RL_app (RL_fz x1.ok as r1) (hdd _)) hl e2 hd fun v W2 x2 r2 => q v W2 [] (x1.trans x2) r2
abbrev MTF := Str → Option RF
def OkMTF (X : Cx) (m : Str) (k n : Nat) (dd : List D) (runs : MTF) : Prop := ∀ c run, runs c = some run → OkFM X.prog X.w X.K X.mg X.base c m k n dd run
def clsO : D → Option (Str × List Str)
  | .obj c ns _ => some (c, ns)
  | .fo c ns _ => some (c, ns)
  | _ => none
def clsOf (μ : List D) : D → Option (Str × List Str)
  | .ref j => (μ[j]?).bind clsO
  | d => clsO d
theorem R_cls {K : PySem.W.Frag} {W : Wd} {t : D} {v : V} {G : List Addr} {z : Str × List Str} (r : R K W t v G) (h : clsO t = some z) : ∃ a dx vs, v = .ref a ∧ W.H a = some (.ins (He.ga K z.1) dx (z.2.zip vs)) := by
  cases t with
  | obj c ns ds =>
    cases h
    obtain ⟨a, dx, vs, F', h1, h2, _⟩ := r
    exact ⟨a, dx, vs, h1, h2⟩
  | fo c ns ds =>
    cases h
    obtain ⟨a, dx, vs, h1, h2, _⟩ := r
    exact ⟨a, dx, vs, h1, h2⟩
  | _ => cases h
def qMethF (m : Str) (n : Nat) (dd : List D) (runs : MTF) (f : FQ) (k : FA) : FQ := fun ρ μ => (f ρ μ).bind fun t => (clsOf μ t).bind fun z => if fidx m z.2 = none then (runs z.1).bind fun run => (k ρ μ).bind fun as => if (fz t :: (fzL as ++ dd)).length = n then (run (fz t :: (fzL as ++ dd)) (fzL μ)).bind resF else none else none
theorem methF_run {te : TE} {t : TA} {runs : MTF} (OM : OkMTF X m k n dd runs) (h0 : ∀ (σ : L2.St) (W : Wd) (ρ μ : List D) (F : List Addr), Sta X.K W σ ρ μ F → ∀ d, f ρ μ = some d → ∀ Q : VK, (∀ v W' G, Ext W W' → R X.K W' d v G → Q v W'.H) → te σ W.H Q)
    (k1 : ∀ (σ : L2.St) (W : Wd) (ρ μ : List D) (F : List Addr), Sta X.K W σ ρ μ F → ∀ ds, kq ρ μ = some ds → ∀ Q : List V → Hp → Prop, (∀ vs W' G, Ext W W' → RL X.K W' ds vs G → Q vs W'.H) → t σ W.H Q)
    {σ : L2.St} {W : Wd} {ρ μ : List D} {F : List Addr} (S : Sta X.K W σ ρ μ F) {d : D} (hd : qMethF m n dd runs f kq ρ μ = some d) {Q : VK} (q : ∀ v W' G, Ext W W' → R X.K W' d v G → Q v W'.H) : tMX X (fun _ _ _ _ => False) m k te t σ W.H Q := by
  obtain ⟨t0, e0, hd⟩ := bind_some hd
  obtain ⟨z, e1, hd⟩ := bind_some hd
  by_cases hf : fidx m z.2 = none
  case neg => rw [if_neg hf] at hd; cases hd
  rw [if_pos hf] at hd
  obtain ⟨run, e2, hd⟩ := bind_some hd
  obtain ⟨as, e3, hd⟩ := bind_some hd
  by_cases hl : (fz t0 :: (fzL as ++ dd)).length = n
  case neg => rw [if_neg hl] at hd; cases hd
  rw [if_pos hl] at hd
  obtain ⟨d', e4, hd⟩ := bind_some hd
  obtain ⟨g, fd, ps, dvs, us, hF, hb, hv, hdd, hc, hm⟩ := OM z.1 run e2
  refine h0 σ W ρ μ F S t0 e0 _ fun v W1 G1 x1 r1 => ?_
  have S1 := S.ext x1
  have hv2 : ∃ a dx vs, v = .ref a ∧ W1.H a = some (.ins (He.ga X.K z.1) dx (z.2.zip vs)) := by
    cases t0 with
    | ref j =>
      obtain ⟨t2, e5, e6⟩ := bind_some (show (μ[j]?).bind clsO = some z from e1)
      obtain ⟨a, rfl, h3, _⟩ := r1
      obtain ⟨F1, F2, _, h4, _⟩ := S1.ex
      obtain ⟨a', G', h5, h6, _⟩ := RL_map_get h4 e5
      rw [h3] at h5
      cases h5
      exact R_cls h6 e6
    | _ => exact R_cls r1 e1
  obtain ⟨a, dx, vs0, rfl, hH⟩ := hv2
  refine ⟨a, _, dx, _, g, fd, ps, _, dvs, us, rfl, hH, hc, hm, fidx_none hf, hF, hb, hv, ?_⟩
  refine k1 σ W1 ρ μ F S1 as e3 _ fun vs W2 G2 x2 r2 => ?_
  exact look_back (ds := fz t0 :: (fzL as ++ dd)) (vs := .ref a :: (vs ++ dvs)) (S1.ext x2) ⟨.ref a, vs ++ dvs, [], [], rfl, R_fz x2.ok t0 (R_ext x2 t0 r1), RL_app (RL_fz x2.ok as r2) (hdd _), rfl⟩ hl e4 hd fun v W3 x3 r3 => q v W3 [] ((x1.trans x2).trans x3) r3
theorem pq_methF {pl : Sem Bool} {runs : MTF} (OM : OkMTF X m k n dd runs) (hp : PQ X o f) (hr : Room k X.A) (ha : PAQ X (e :: es) kq)
    (hst : starEach (e :: es) X.env = (false, eval e X.env) :: starEach es X.env := by rfl) (hpl : (backTo pos (starEach es X.env)).any (·.1) = false := by rfl)
    (ht : eval (.Call (.Attribute o m apos) (e :: es) [] pos) X.env = (do
      let ov ← eval o X.env
      standAt apos.atName
      let (f, first) ← holding [ov] (getMethod ov m pl)
      callWith pos f first (backTo pos (starEach (e :: es) X.env)) (backToKw pos (keywordEach [] X.env))) := by rfl) :
    PQ X (.Call (.Attribute o m apos) (e :: es) [] pos) (qMethF m n dd runs f kq) := by
  obtain ⟨t, pt, k1⟩ := ha
  obtain ⟨te, pe, k0⟩ := hp
  exact ⟨_, pe_mx pe hr takes0 pt hst hpl ht, fun σ W ρ μ F S d hd Q q => methF_run OM k0 k1 S hd q⟩
theorem pq_methF0 {pl : Sem Bool} {runs : MTF} (OM : OkMTF X m k n dd runs) (hp : PQ X o f) (hr : Room k X.A)
    (ht : eval (.Call (.Attribute o m apos) [] [] pos) X.env = (do
      let ov ← eval o X.env
      standAt apos.atName
      let (f, first) ← holding [ov] (getMethod ov m pl)
      callWith pos f first (backTo pos (starEach [] X.env)) (backToKw pos (keywordEach [] X.env))) := by rfl) :
    PQ X (.Call (.Attribute o m apos) [] [] pos) (qMethF m n dd runs f aNil) := by
  obtain ⟨te, pe, k0⟩ := hp
  refine ⟨_, pe_mx0 pe hr takes0 ht, fun σ W ρ μ F S d hd Q q => methF_run (kq := aNil) (t := tNil) OM k0 (fun σ W ρ μ F S ds hd Q q => ?_) S hd q⟩
  cases hd
  exact q [] W [] (Ext.refl S.ok) ⟨rfl, rfl⟩
end
end Fw
/-! # more statements; tables -/
namespace Fw
open PySem PySem.Spec PyProof.Rows L2
open Evl (Ex)
section
variable {X : Cx} {Wx : WX} {e a b c o ep : Expr} {es : List Expr} {f g : FX} {p apos pos pos' tpos : Pos} {kq : FA} {kf : FXA} {x m : Str} {k n i : Nat} {q : List Str} {ok : OkT} {ob : List Nat} {qq : FQ}
/-! ### o.x += e, o.x -= e of whole numbers -/
def iAdd : D → D → Option D
  | .int a, .int b => some (.int (a + b))
  | _, _ => none
def iSub : D → D → Option D
  | .int a, .int b => some (.int (a - b))
  | _, _ => none
def xAug (ok : OkT) (i : Nat) (q : List Str) (x : Str) (op : D → D → Option D) (f : FQ) : FX := fun ρ μ => (ρ[i]?).bind fun r => (pget ok q r).bind fun t => (dFld ok x μ t).bind fun a => (f ρ μ).bind fun b => (op a b).map fun d => .ok d ρ μ
def fFldAug (ok : OkT) (i : Nat) (q : List Str) (x : Str) (op : D → D → Option D) (f : FQ) : FS := fFldX ok i q x (xAug ok i q x op f)
theorem ps1_fldaug {op : Operator} {o2 : D → D → Option D} {rd : V → V → Hp → VK → Prop} (T : CE X.K ok) (hop : InOp X op rd) (h2 : ∀ u v d (W : Wd), o2 u v = some d → ∃ z, fl d = true ∧ R X.K W d z [] ∧ ∀ u' v' F G, R X.K W u u' F → R X.K W v v' G → ∀ Q : VK, Q z W.H → rd u' v' W.H Q) (hp : PPath X ep i q) (he : PQ X e qq) :
    PS1 X ob Wx (.AugAssign (.Attribute ep x tpos) op e pos) (fFldAug ok i q x o2 qq) := by
  obtain ⟨tv, pv, kv⟩ := he
  obtain ⟨te, pe, k0⟩ := hp
  refine ⟨_, ps_fldaug pe pv hop, fun E σ W ρ μ F S o ho h => ?_⟩
  obtain ⟨o1, e1, ho⟩ := bind_some ho
  obtain ⟨r, e2, e1⟩ := bind_some e1
  obtain ⟨t, e3, e1⟩ := bind_some e1
  obtain ⟨a, e4, e1⟩ := bind_some e1
  obtain ⟨b, e5, e1⟩ := bind_some e1
  obtain ⟨d, e6, z⟩ := map_some e1
  subst z
  -- the field, read
  have rdq : ∀ (W1 : Wd) (S1 : Sta X.K W1 σ ρ μ F), ∃ u v ad C dx fs w G, σ[i]? = some (some u) ∧ rdp X.K W1.H u q v ∧ v = .ref ad ∧ W1.H ad = some (.ins C dx fs) ∧ Cls X.K C ∧ NoAttr X.K C x ∧ fs.lookup x = some w ∧ R X.K W1 a w G := by
    intro W1 S1
    obtain ⟨u, v, hu, hr, Fc, Sc, _, _⟩ := foc_sp T S1 e2 e3
    obtain ⟨G0, F0, r1, _, _⟩ := sta_tail Sc
    rw [R1_iff] at r1
    rcases r1 with ⟨z, _⟩ | ⟨v1, ev, r1⟩
    · have := (pget_ne e3).2
      rw [z] at this
      cases this
    injection ev with ev
    subst ev
    have main : ∀ (t : D) (G : List Addr) (u : V), R X.K W1 t u G → dFo ok x t = some a → ∃ ad C dx fs w G, u = .ref ad ∧ W1.H ad = some (.ins C dx fs) ∧ Cls X.K C ∧ NoAttr X.K C x ∧ fs.lookup x = some w ∧ R X.K W1 a w G := by
      intro t G u r he
      cases t with
      | obj c ns ds =>
        have he2 : (if ok c x = true then (fidx x ns).bind fun i => ds[i]? else none) = some a := he
        by_cases hk : ok c x = true
        case neg => rw [if_neg hk] at he2; cases he2
        rw [if_pos hk] at he2
        obtain ⟨j, h1, h2⟩ := bind_some he2
        obtain ⟨ad, dx, vs, F', rfl, hH, hn, hR, rfl⟩ := r
        obtain ⟨w, G1, q1, q2, _⟩ := RL_get hR h2
        obtain ⟨cl, na⟩ := T c x hk
        exact ⟨ad, _, dx, _, w, G1, rfl, hH, cl, na, by rw [fidx_lookup h1 (by rw [hn, RL_len hR])]; exact q1, q2⟩
      | fo c ns ds =>
        have he2 : (if ok c x = true then (fidx x ns).bind fun i => ds[i]? else none) = some a := he
        by_cases hk : ok c x = true
        case neg => rw [if_neg hk] at he2; cases he2
        rw [if_pos hk] at he2
        obtain ⟨j, h1, h2⟩ := bind_some he2
        obtain ⟨ad, dx, vs, rfl, hH, _, hn, hR, rfl⟩ := r
        obtain ⟨w, G1, q1, q2, _⟩ := RL_get hR h2
        obtain ⟨cl, na⟩ := T c x hk
        exact ⟨ad, _, dx, _, w, G1, rfl, hH, cl, na, by rw [fidx_lookup h1 (by rw [hn, RL_len hR])]; exact q1, q2⟩
      | _ => cases he
    cases t with
    | ref j =>
      obtain ⟨t2, e7, e8⟩ := bind_some (show (μ[j]?).bind (dFo ok x) = some a from e4)
      obtain ⟨ad, rfl, h3, _⟩ := r1
      obtain ⟨F1, F2, _, h4, _⟩ := S1.ex
      obtain ⟨ad', G', h5, h6, _⟩ := RL_map_get h4 e7
      rw [h3] at h5
      cases h5
      obtain ⟨ad2, C, dx, fs, w, G2, z1, z2⟩ := main t2 G' _ h6 e8
      exact ⟨u, _, ad2, C, dx, fs, w, G2, hu, hr, z1, z2⟩
    | _ =>
      obtain ⟨ad2, C, dx, fs, w, G2, z1, z2⟩ := main _ _ _ r1 e4
      exact ⟨u, _, ad2, C, dx, fs, w, G2, hu, hr, z1, z2⟩
  obtain ⟨u, v, ad, C, dx, fs, w, G, hu, hr, rfl, hH, cl, na, hl, rw_⟩ := rdq W S
  refine k0 σ W.H _ u _ hu hr ⟨ad, C, dx, fs, w, rfl, hH, cl, na, hl, ?_⟩
  refine kv σ W ρ μ F S b e5 _ fun y W1 G1 x1 r1 => ?_
  obtain ⟨z, hfl, rz, hrd⟩ := h2 a b d W1 e6
  refine hrd w y G G1 (R_ext x1 a rw_) r1 _ ?_
  have S1 := S.ext x1
  have run := fld_run (te := fun _ H Q => Q (.ref ad) H) (E := E) (F := F) (G := []) (x := x) (q := q) (ok := ok) (i := i) (d := d) (y := z) (ob := ob) (Wx := Wx) T (fun Q u' v' hu' hr' hQ => by
    rw [hu] at hu'
    cases hu'
    have ev : v' = .ref ad := rdp_det hr' (rdp_ex x1.ex hr)
    rw [ev] at hQ
    exact hQ) rz S1 S1.nd (fun _ hb => nomatch hb) x1.mvr h (by
      show ((ρ[i]?).bind fun r => (pget ok q r).bind _) = _
      exact ho)
  obtain ⟨a2, C2, dx2, fs2, ea, h3, _, _, h4, h5⟩ := run
  cases ea
  have e := h3
  rw [x1.ex _ _ hH] at e
  cases e
  exact ⟨_, _, h3, h4, h5⟩
theorem aug_add (W : Wd) (u v d : D) (h : iAdd u v = some d) : ∃ z, fl d = true ∧ R X.K W d z [] ∧ ∀ u' v' F G, R X.K W u u' F → R X.K W v v' G → ∀ Q : VK, Q z W.H → rAdd u' v' W.H Q := by
  cases u with
  | int a =>
    cases v with
    | int b =>
      cases h
      refine ⟨.int (a + b), rfl, ⟨rfl, rfl⟩, fun u' v' F G r1 r2 Q hQ => ?_⟩
      obtain ⟨rfl, _⟩ := r1
      obtain ⟨rfl, _⟩ := r2
      exact ⟨a, b, rfl, rfl, hQ⟩
    | _ => cases h
  | _ => cases h
theorem aug_sub (W : Wd) (u v d : D) (h : iSub u v = some d) : ∃ z, fl d = true ∧ R X.K W d z [] ∧ ∀ u' v' F G, R X.K W u u' F → R X.K W v v' G → ∀ Q : VK, Q z W.H → rSub u' v' W.H Q := by
  cases u with
  | int a =>
    cases v with
    | int b =>
      cases h
      refine ⟨.int (a - b), rfl, ⟨rfl, rfl⟩, fun u' v' F G r1 r2 Q hQ => ?_⟩
      obtain ⟨rfl, _⟩ := r1
      obtain ⟨rfl, _⟩ := r2
      exact ⟨a, b, rfl, rfl, hQ⟩
    | _ => cases h
  | _ => cases h
theorem ps1_fldadd (T : CE X.K ok) (hp : PPath X ep i q) (he : PQ X e qq) : PS1 X ob Wx (.AugAssign (.Attribute ep x tpos) .Add e pos) (fFldAug ok i q x iAdd qq) := ps1_fldaug T in_add (fun u v d W h => aug_add W u v d h) hp he
theorem ps1_fldsub (T : CE X.K ok) (hp : PPath X ep i q) (he : PQ X e qq) : PS1 X ob Wx (.AugAssign (.Attribute ep x tpos) .Sub e pos) (fFldAug ok i q x iSub qq) := ps1_fldaug T in_sub (fun u v d W h => aug_sub W u v d h) hp he
/-! ### o.xs.append(e) -/
def fAppF (ok : OkT) (i : Nat) (q : List Str) (f : FQ) : FS := fun ρ μ => (ρ[i]?).bind fun r => (pget ok q r).bind fun t => match t with
  | .ml ds => (f ρ μ).bind fun d => if data d = true ∧ ds.length ≤ LIM then (pput q r (.ml (ds ++ [d]))).map fun r' => .nx (ρ.set i r') μ else none
  | _ => none
theorem ps1_appF (T : CE X.K ok) (hp : PPath X ep i q) (hcall : ∀ (to te : TE), PE X ep to → PE X e te → PE X (.Call (.Attribute ep "append" apos) [e] [] p) (tBM X.K "list" rAppend to (tCons te tNil))) (he : PQ X e qq)
    (hsw : swapsWith (.Call (.Attribute ep "append" apos) [e] [] p) none pos.line X.env = pure false := by rfl) : PS1 X ob Wx (.Expr (.Call (.Attribute ep "append" apos) [e] [] p) pos) (fAppF ok i q qq) := by
  obtain ⟨te, pe, kv⟩ := he
  obtain ⟨to, po, k0⟩ := hp
  refine ⟨_, ps_expr (hcall to te po pe) hsw, fun E σ W ρ μ F S o ho h => ?_⟩
  obtain ⟨r, e2, ho⟩ := bind_some ho
  obtain ⟨t, e3, ho⟩ := bind_some ho
  cases t with
  | ml ds =>
    obtain ⟨d, e1, ho⟩ := bind_some (show (qq ρ μ).bind (fun d => if data d = true ∧ ds.length ≤ LIM then (pput q r (.ml (ds ++ [d]))).map fun r' => SO.nx (ρ.set i r') μ else none) = some o from ho)
    by_cases hd : data d = true ∧ ds.length ≤ LIM
    case neg => rw [if_neg hd] at ho; cases ho
    rw [if_pos hd] at ho
    obtain ⟨r', e4, z⟩ := map_some ho
    subst z
    obtain ⟨u, v, hu, hr, Fc, Sc, _, _⟩ := foc_sp T S e2 e3
    obtain ⟨G0, F0, r1, _, _⟩ := sta_tail Sc
    rw [R1_iff] at r1
    rcases r1 with ⟨z, _⟩ | ⟨v1, ev, r1⟩
    · cases z
    injection ev with ev
    subst ev
    obtain ⟨ad, vs, F', rfl, h2, h3, hB⟩ := r1
    refine k0 σ W.H _ u _ hu hr ⟨.inl ⟨rfl, vs, Evl.sq_of h2⟩, ?_⟩
    refine kv σ W ρ μ F S d e1 _ fun y W1 G x1 r1 => ?_
    have z := R_data d hd.1 r1
    subst z
    have S1 := S.ext x1
    obtain ⟨u', v', hu', hr', Fc, Sc, subc, put⟩ := foc_sp T S1 e2 e3
    rw [hu] at hu'
    cases hu'
    have ev : v' = .ref ad := rdp_det hr' (rdp_ex x1.ex hr)
    subst ev
    obtain ⟨G0, F0, r2, S0, eF⟩ := sta_tail Sc
    rw [R1_iff] at r2
    rcases r2 with ⟨z, _⟩ | ⟨v1, ev, r2⟩
    · cases z
    injection ev with ev
    subst ev
    obtain ⟨a2, vs2, F2, ea, h4, h5, hB2⟩ := r2
    cases ea
    rw [x1.ex _ _ h2] at h4
    cases h4
    subst hB2
    have lv : vs.length = ds.length := RL_len h5
    obtain ⟨⟨F3, F4, p1, p2, p3⟩, nd3, own3, ok3⟩ := S0
    obtain ⟨_, rfl⟩ := p1
    have e6 : F0 = F4 := p3
    subst e6
    have ndFc := Sc.nd
    rw [eF] at ndFc
    have ndO := List.nodup_append.mp ndFc
    have nd2 := List.nodup_cons.mp ndO.1
    have ha : Own W1 ad := S1.own ad (subc ad (by rw [eF]; exact List.mem_append_left _ (List.mem_cons_self ..)))
    have lt : Lt W1 ⟨upd W1.H ad (.lst (vs ++ [y])), W1.Fr, W1.m⟩ := Lt.upd_lst (x1.ex _ _ h2) ha.1
    have off : ∀ b, b ≠ ad → (⟨upd W1.H ad (.lst (vs ++ [y])), W1.Fr, W1.m⟩ : Wd).H b = W1.H b := fun b hb => upd_ne hb
    have naF : ad ∉ F0 := fun z => ndO.2.2 ad (List.mem_cons_self ..) ad z rfl
    have rn : R X.K ⟨upd W1.H ad (.lst (vs ++ [y])), W1.Fr, W1.m⟩ (.ml (ds ++ [d])) (.ref ad) (ad :: F2) := ⟨ad, vs ++ [y], F2, rfl, upd_same, by
      have k1 : RL X.K ⟨upd W1.H ad (.lst (vs ++ [y])), W1.Fr, W1.m⟩ ds vs F2 := RL_keep lt ds (fun b hb => off b fun z => nd2.1 (z ▸ hb)) h5
      have k2 : RL X.K ⟨upd W1.H ad (.lst (vs ++ [y])), W1.Fr, W1.m⟩ [d] [y] [] := ⟨y, [], [], [], rfl, R_lt lt d r1, ⟨rfl, rfl⟩, rfl⟩
      have z := RL_app k1 k2
      rw [List.append_nil] at z
      exact z, rfl⟩
    have hst : RL X.K ⟨upd W1.H ad (.lst (vs ++ [y])), W1.Fr, W1.m⟩ μ (W1.m.map V.ref) F0 := RL_keep lt μ (fun b hb => off b fun z => naF (z ▸ hb)) p2
    obtain ⟨F9, S9, _, mv9⟩ := put ⟨upd W1.H ad (.lst (vs ++ [y])), W1.Fr, W1.m⟩ [.ml (ds ++ [d])] μ ((ad :: F2) ++ F0) [] [] _ (by
        show (pput q r (.ml (ds ++ [d]))).map (fun d' => ρ.set i d') = some (ρ.set i r')
        rw [e4]
        rfl) ⟨⟨ad :: F2, F0, ⟨some (.ref ad), [], ad :: F2, [], rfl, R1_of rn, ⟨rfl, rfl⟩, (List.append_nil _).symm⟩, hst, rfl⟩, ndFc, fun b hb => by
          have hb1 := Sc.own b (by rw [eF]; exact hb)
          refine ⟨hb1.1, ?_⟩
          show (∃ xs, upd W1.H ad _ b = _) ∨ ∃ C dx fs, upd W1.H ad _ b = _
          by_cases z : b = ad
          · rw [z, upd_same]
            exact .inl ⟨_, rfl⟩
          · rw [upd_ne z]
            exact hb1.2, fun b hb => by
          show upd W1.H ad _ b ≠ none
          by_cases z : b = ad
          · rw [z, upd_same]
            exact fun z => nomatch z
          · rw [upd_ne z]
            exact x1.ok b hb⟩ ndFc (fun _ hb => nomatch hb) (fun _ hb => nomatch hb) ⟨fun b o hb nb => by
        show upd W1.H ad _ b = some o
        rw [upd_ne fun z => nb (by rw [z, eF]; exact List.mem_append_right _ (List.mem_append_left _ (List.mem_cons_self ..)))]
        exact hb, fun _ h => h, fun _ h => .inl h, fun b hb => .inl (by rw [eF]; exact hb), ⟨[], (List.append_nil _).symm⟩⟩
    exact ⟨ad, vs, y, rfl, rfl, x1.ex _ _ h2, lim_lt (by omega), h σ _ F9 S9 (x1.mvr.trans mv9) Kept.refl⟩
  | _ => cases ho
/-! ### list(e) -/
def qListOf (f : FQ) : FA := fun ρ μ => (f ρ μ).bind fun d => (seqD d).bind fun ds => if dataL ds = true then some ds else none
theorem pn_list {px : Pos} (he : PQ X e qq) (hm : X.mg "list" = none) (hg : Gl X "list" := by rfl) (hv : bootBuiltins "list" = some (.type "list") := by decide +kernel) (hs : starEach [e] X.env = (false, eval e X.env) :: starEach [] X.env := by rfl) (hpl : (backTo pos (starEach [] X.env)).any (·.1) = false := by rfl) :
    PN X (.Call (.Name "list" px) [e] [] pos) (qListOf qq) := by
  obtain ⟨te, pe, kv⟩ := he
  refine ⟨_, pe_callTy call_list_of hg hm hv (pa_cons pe pa_nil hs) (by decide) (by decide) hs hpl, fun σ W ρ μ F S ds hd Q q => ?_⟩
  obtain ⟨d, e1, hd⟩ := bind_some hd
  obtain ⟨es, e2, hd⟩ := bind_some hd
  by_cases hl : dataL es = true
  case neg => rw [if_neg hl] at hd; cases hd
  rw [if_pos hl] at hd
  cases hd
  refine kv σ W ρ μ F S d e1 _ fun y W1 G x1 r1 => ?_
  obtain ⟨a, vs, G', rfl, h2, h3⟩ := R_seq e2 r1
  have z := RL_data _ hl h3
  subst z
  refine ⟨a, vs, rfl, h2, fun l hl2 => ?_⟩
  have x2 : Ext W1 (W1.put l (.lst vs)) := Ext.put x1.ok hl2
  exact q l (W1.put l (.lst vs)) ⟨x1.trans x2, Evl.fresh_back x1.ex hl2, fun z => x1.ok l z hl2, vs, upd_same, RL_ext x2 _ h3⟩
end
/-! ### tables -/
def okT (L : List (Str × Str)) : OkT := fun c x => L.any fun p => decide (p.1 = c ∧ p.2 = x)
theorem ce_of {K : PySem.W.Frag} {L : List (Str × Str)} (h : ∀ p ∈ L, Cls K (He.ga K p.1) ∧ NoAttr K (He.ga K p.1) p.2) : CE K (okT L) := fun c x hk => by
  obtain ⟨p, hp, h2⟩ := List.any_eq_true.mp hk
  obtain ⟨rfl, rfl⟩ := of_decide_eq_true h2
  exact h p hp
section
variable {P : Program} {w : World} {K : PySem.W.Frag} {mg : Str → Option Value} {base : Heap} {x c m : Str} {j k n : Nat} {dd : List D}
theorem OkQ.mono {run : List D → Option D} (h : OkQ P w K mg base x j n dd run) (hk : j ≤ k) : OkQ P w K mg base x k n dd run := by
  obtain ⟨f, fd, ps, dvs, us, a1, a2⟩ := h
  exact ⟨f, fd, ps, dvs, us, a1.mono hk, a2⟩
theorem OkX.mono {run : RX} (h : OkX P w K mg base x j n dd run) (hk : j ≤ k) : OkX P w K mg base x k n dd run := by
  obtain ⟨f, fd, ps, dvs, us, a1, a2⟩ := h
  exact ⟨f, fd, ps, dvs, us, a1.mono hk, a2⟩
theorem OkM.mono {run : RX} (h : OkM P w K mg base c m j n dd run) (hk : j ≤ k) : OkM P w K mg base c m k n dd run := by
  obtain ⟨f, fd, ps, dvs, us, a1, a2⟩ := h
  exact ⟨f, fd, ps, dvs, us, a1.mono hk, a2⟩
theorem OkK.mono {run : RX} (h : OkK P w K mg base c j n dd run) (hk : j ≤ k) : OkK P w K mg base c k n dd run := by
  obtain ⟨f, fd, ps, dvs, us, a1, a2⟩ := h
  exact ⟨f, fd, ps, dvs, us, a1.mono hk, a2⟩
theorem OkF.mono {run : RF} (h : OkF P w K mg base x j n dd run) (hk : j ≤ k) : OkF P w K mg base x k n dd run := by
  obtain ⟨f, fd, ps, dvs, us, a1, a2⟩ := h
  exact ⟨f, fd, ps, dvs, us, a1.mono hk, a2⟩
theorem OkFM.mono {run : RF} (h : OkFM P w K mg base c m j n dd run) (hk : j ≤ k) : OkFM P w K mg base c m k n dd run := by
  obtain ⟨f, fd, ps, dvs, us, a1, a2⟩ := h
  exact ⟨f, fd, ps, dvs, us, a1.mono hk, a2⟩
end
/-- a table by the class's name -/
def tbl {α : Type} (L : List (Str × α)) : Str → Option α := fun c => match L with
  | [] => none
  | (d, a) :: L => if d = c then some a else tbl L c
theorem tbl_ok {α : Type} {p : Str → α → Prop} : ∀ {L : List (Str × α)}, (∀ z ∈ L, p z.1 z.2) → ∀ c a, tbl L c = some a → p c a
  | [], _, c, a, h => by cases h
  | (d, b) :: L, hp, c, a, h => by
    have h2 : (if d = c then some b else tbl L c) = some a := h
    by_cases e : d = c
    · rw [if_pos e] at h2
      cases h2
      exact e ▸ hp _ (List.mem_cons_self ..)
    · rw [if_neg e] at h2
      exact tbl_ok (fun z hz => hp z (List.mem_cons_of_mem _ hz)) c a h2
end Fw
/-! # the law that looks; quiet defs within what changes; reckoning -/
namespace Fw
open PySem PySem.Spec PyProof.Rows L2
open Evl (Ex)
theorem hob_of {ks : List Bool} {ob : List Nat} (h : ((List.range ks.length).all fun i => !(ks.getD i false) || ob.contains i) = true) : ∀ i : Nat, ks[i]? = some true → i ∈ ob := fun i hi => by
  have hl := (List.getElem?_eq_some_iff.mp hi).1
  have := List.all_eq_true.mp h i (List.mem_range.mpr hl)
  rw [List.getD_eq_getElem?_getD, hi] at this
  simpa using this
theorem law_spF {K : PySem.W.Frag} {run : RF} {H : Hp} {a : Addr} {ns : List Int} {E : XK} (hS : SqL K H a (ns.map V.int)) (hr : run [.lst (ns.map D.int)] [] = some (.bl true)) : spF K 1 run [.ref a] H (fun v _ => v = .bl true) E := by
  have rl : ∀ (W : Wd) (l : List Int), RL K W (l.map D.int) (l.map V.int) [] := fun W l => by
    induction l with
    | nil => exact ⟨rfl, rfl⟩
    | cons i l ih => exact rl_int ih
  refine ⟨⟨H, fun b => H b ≠ none, []⟩, [.lst (ns.map D.int)], [], .bl true, rfl, fun b h => h, ⟨.ref a, [], [], [], rfl, ⟨a, _, rfl, ?_, rl _ ns, rfl⟩, ⟨rfl, rfl⟩, rfl⟩, ⟨rfl, rfl⟩, rfl, hr, fun v W' G r _ _ _ _ => r.1⟩
  rcases hS with h | h
  · refine .inl ⟨h, ?_⟩
    rcases h with h | ⟨o, h⟩
    · show H a ≠ none
      rw [h]
      exact fun z => nomatch z
    · show H a ≠ none
      rw [h]
      exact fun z => nomatch z
  · exact .inr (.inr h)
section
variable {X : Cx} {Wx : WX} {e a b c o : Expr} {es : List Expr} {f g : FX} {p apos pos : Pos} {kf : FXA} {x m : Str} {k n i : Nat} {dd : List D} {ob : List Nat}
def xPB (t : FB) : FX := fun ρ μ => (t ρ μ).map fun b => .ok (.bl b) ρ μ
theorem ptx_b {t : FB} (h : PB X a t) : PTX X Wx a (xPB t) := ptx_q h
theorem ps1_setTX {tg : Expr} {vs : List Nat} {gt : D → List D → Option (List D)} (he : PX X Wx e g) (hg : PGD X tg vs gt) (hs : swapsWithSole [tg] e pos.line X.env = pure false := by rfl) (hw : swappedStores [tg] e X.env = pure none := by rfl)
    (h1 : (assignEach [tg] X.env).map (·.2) = [assign tg X.env] := by rfl) (hv : ∀ i ∈ ob, i ∉ vs := by decide) : PS1 X ob Wx (.Assign [tg] e pos) (fSetTX gt g) := by
  obtain ⟨te, p, k⟩ := he
  obtain ⟨tgt, p1, k1⟩ := hg
  refine ⟨_, ps_asg p p1 hs hw h1, fun E σ W ρ μ F S o ho h => ?_⟩
  refine runS_bind k S ho h fun d v W1 G ρ1 μ1 F1 r S1 nd own mv hk => ?_
  by_cases hd : data d = true
  case neg => rw [if_neg hd] at hk; cases hk
  rw [if_pos hd] at hk
  obtain ⟨ρ', e2, z⟩ := map_some hk
  subst z
  have z := R_data d hd r
  subst z
  exact k1 σ W1 ρ1 μ1 F1 d v S1 r ρ' e2 _ fun σ' F' S' sub hw => h σ' W1 F' S' (mv.sub (fun _ h => h) fun a ha => sub a ha) (Kept.of_wipe hw hv)
/-- a quiet def, the arguments of any sort -/
def xRunQ (n : Nat) (dd : List D) (run : List D → Option D) (k : FXA) : FX := xA k fun ds ρ μ => if dataL ds = true ∧ (ds ++ dd).length = n then (run (ds ++ dd)).bind fun d => if data d = true then some (.ok d ρ μ) else none else none
theorem px_callQ {run : List D → Option D} (O : OkQ X.prog X.w X.K X.mg X.base x k n dd run) (hr : Room k X.A) (ha : PAX X Wx (e :: es) kf) (hg : Gl X x := by rfl) (hdb : (x == ("__debug__" : Str)) = false := by decide)
    (he : starEach (e :: es) X.env = (false, eval e X.env) :: starEach es X.env := by rfl) (hpl : (backTo pos (starEach es X.env)).any (·.1) = false := by rfl) : PX X Wx (.Call (.Name x p) (e :: es) [] pos) (xRunQ n dd run kf) := by
  obtain ⟨f, fd, ps, dvs, us, hF, hb, hv, hdd, hdt, hm, hk⟩ := O
  obtain ⟨t, pt, k1⟩ := ha
  refine ⟨_, pe_call hF hr hg hm hk hb hv passL pt hdb he hpl, fun σ W ρ μ F S o ho Q hQ => ?_⟩
  refine runA_bind k1 S ho hQ fun ds vs W1 ρ1 μ1 F1 r S1 mv ho1 => ?_
  by_cases hl : dataL ds = true ∧ (ds ++ dd).length = n
  case neg => rw [if_neg hl] at ho1; cases ho1
  rw [if_pos hl] at ho1
  obtain ⟨d', e2, ho1⟩ := bind_some ho1
  by_cases hd : data d' = true
  case neg => rw [if_neg hd] at ho1; cases ho1
  rw [if_pos hd] at ho1
  cases ho1
  exact call_back hl.1 hdt S1.ok (RL_app r (hdd W1)) hl.2 e2 hd fun v W2 x2 r2 => hQ v W2 [] F1 r2 (S1.ext x2) S1.nd (fun _ hb => nomatch hb) (mv.trans x2.mvr)
end
/-! ### reckoning -/
section
variable {x0 : D} {ρ μ : List D}
def eB (o : Option EO) (k : D → FX) : Option EO := match o with
  | some (.ok d ρ' μ') => if fl d = true then k d ρ' μ' else none
  | some (.ex c fs ρ' μ') => some (.ex c fs ρ' μ')
  | none => none
theorem xB_eq (f : FX) (k : D → FX) : xB f k (x0 :: ρ) μ = eB (f (x0 :: ρ) μ) k := by
  unfold xB eB
  cases f (x0 :: ρ) μ with
  | none => rfl
  | some o => cases o <;> rfl
theorem eB_ok (d : D) (ρ' μ' : List D) (k : D → FX) : eB (some (.ok d ρ' μ')) k = if fl d = true then k d ρ' μ' else none := rfl
theorem eB_ex (c : Str) (fs : List (Str × D)) (ρ' μ' : List D) (k : D → FX) : eB (some (.ex c fs ρ' μ')) k = some (.ex c fs ρ' μ') := rfl
def eT (o : Option EO) (k : Bool → FX) : Option EO := match o with
  | some (.ok d ρ' μ') => (match d with
    | .bl b => k b ρ' μ'
    | _ => none)
  | some (.ex c fs ρ' μ') => some (.ex c fs ρ' μ')
  | none => none
theorem xT_eq (f : FX) (k : Bool → FX) : xT f k (x0 :: ρ) μ = eT (f (x0 :: ρ) μ) k := by
  unfold xT eT
  cases f (x0 :: ρ) μ with
  | none => rfl
  | some o => cases o <;> rfl
theorem eT_bl (b : Bool) (ρ' μ' : List D) (k : Bool → FX) : eT (some (.ok (.bl b) ρ' μ')) k = k b ρ' μ' := rfl
theorem eT_ex (c : Str) (fs : List (Str × D)) (ρ' μ' : List D) (k : Bool → FX) : eT (some (.ex c fs ρ' μ')) k = some (.ex c fs ρ' μ') := rfl
def eS (o : Option EO) (k : D → FS) : Option SO := match o with
  | some (.ok d ρ' μ') => k d ρ' μ'
  | some (.ex c fs ρ' μ') => some (.ex c fs ρ' μ')
  | none => none
theorem xS_eq (f : FX) (k : D → FS) : xS f k (x0 :: ρ) μ = eS (f (x0 :: ρ) μ) k := by
  unfold xS eS
  cases f (x0 :: ρ) μ with
  | none => rfl
  | some o => cases o <;> rfl
theorem eS_ok (d : D) (ρ' μ' : List D) (k : D → FS) : eS (some (.ok d ρ' μ')) k = k d ρ' μ' := rfl
theorem eS_ex (c : Str) (fs : List (Str × D)) (ρ' μ' : List D) (k : D → FS) : eS (some (.ex c fs ρ' μ')) k = some (.ex c fs ρ' μ') := rfl
theorem xQ_eq (q : FQ) : xQ q (x0 :: ρ) μ = (q (x0 :: ρ) μ).bind fun d => if fl d = true then some (.ok d (x0 :: ρ) μ) else none := rfl
theorem xN_eq (k : FA) : xN k (x0 :: ρ) μ = (k (x0 :: ρ) μ).map fun ds => .ok (.ml ds) (x0 :: ρ) μ := rfl
theorem xMove_eq (i : Nat) : xMove i (x0 :: ρ) μ = ((x0 :: ρ)[i]?).bind fun d => if isUn d = true then none else some (.ok d ((x0 :: ρ).set i .un) μ) := rfl
theorem xOp_eq (o : D → D → Option D) (f g : FX) : xOp o f g (x0 :: ρ) μ = eB (f (x0 :: ρ) μ) fun x => xB g fun y => fun ρ μ => (o x y).bind fun d => if data d = true then some (.ok d ρ μ) else none := xB_eq _ _
theorem xNot_eq (f : FX) : xNot f (x0 :: ρ) μ = eT (f (x0 :: ρ) μ) fun b ρ μ => some (.ok (.bl (!b)) ρ μ) := xT_eq _ _
theorem xAnd_eq (f g : FX) : xAnd f g (x0 :: ρ) μ = eT (f (x0 :: ρ) μ) fun b ρ μ => if b = true then g ρ μ else some (.ok (.bl false) ρ μ) := xT_eq _ _
theorem xOr_eq (f g : FX) : xOr f g (x0 :: ρ) μ = eT (f (x0 :: ρ) μ) fun b ρ μ => if b = true then some (.ok (.bl true) ρ μ) else g ρ μ := xT_eq _ _
theorem xPB_eq (t : FB) : xPB t (x0 :: ρ) μ = (t (x0 :: ρ) μ).map fun b => .ok (.bl b) (x0 :: ρ) μ := rfl
theorem xIsi_eq (T : String) (f : FX) : xIsi T f (x0 :: ρ) μ = eB (f (x0 :: ρ) μ) fun d ρ μ => (tyN d).bind fun n => (kitB n T).map fun b => .ok (.bl b) ρ μ := xB_eq _ _
def aB (o : Option AO) (k : List AV → List D → List D → Option EO) : Option EO := match o with
  | some (.ok as ρ' μ') => k as ρ' μ'
  | some (.ex c fs ρ' μ') => some (.ex c fs ρ' μ')
  | none => none
theorem aB_ok (as : List AV) (ρ' μ' : List D) (k : List AV → List D → List D → Option EO) : aB (some (.ok as ρ' μ')) k = k as ρ' μ' := rfl
theorem aB_ex (c : Str) (fs : List (Str × D)) (ρ' μ' : List D) (k : List AV → List D → List D → Option EO) : aB (some (.ex c fs ρ' μ')) k = some (.ex c fs ρ' μ') := rfl
theorem xA_eq (k : FXA) (g : List D → FX) : xA k g (x0 :: ρ) μ = aB (k (x0 :: ρ) μ) fun as ρ1 μ1 => (avals as).bind fun ds => g ds ρ1 μ1 := by
  unfold xA aB
  cases k (x0 :: ρ) μ with
  | none => rfl
  | some o => cases o <;> rfl
theorem xaNil_eq : xaNil (x0 :: ρ) μ = some (.ok [] (x0 :: ρ) μ) := rfl
def eA (o : Option EO) (k : D → List D → List D → Option AO) : Option AO := match o with
  | some (.ok d ρ' μ') => k d ρ' μ'
  | some (.ex c fs ρ' μ') => some (.ex c fs ρ' μ')
  | none => none
theorem eA_ok (d : D) (ρ' μ' : List D) (k : D → List D → List D → Option AO) : eA (some (.ok d ρ' μ')) k = k d ρ' μ' := rfl
theorem eA_ex (c : Str) (fs : List (Str × D)) (ρ' μ' : List D) (k : D → List D → List D → Option AO) : eA (some (.ex c fs ρ' μ')) k = some (.ex c fs ρ' μ') := rfl
theorem xaCons_eq (f : FX) (k : FXA) : xaCons f k (x0 :: ρ) μ = eA (f (x0 :: ρ) μ) fun d ρ1 μ1 => if fl d = true then aoCons (.val d) (k ρ1 μ1) else none := by
  unfold xaCons eA
  cases f (x0 :: ρ) μ with
  | none => rfl
  | some o => cases o <;> rfl
theorem aoCons_ok (a : AV) (as : List AV) (ρ μ : List D) : aoCons a (some (.ok as ρ μ)) = some (.ok (a :: as) ρ μ) := rfl
theorem aoCons_ex (a : AV) (c : Str) (fs : List (Str × D)) (ρ μ : List D) : aoCons a (some (.ex c fs ρ μ)) = some (.ex c fs ρ μ) := rfl
theorem xaSlot_eq (j : Nat) (k : FXA) : xaSlot j k (x0 :: ρ) μ = ((x0 :: ρ)[j]?).bind fun d => if isUn d = true then none else aoCons (.slot j) (k (x0 :: ρ) μ) := rfl
theorem avals_nil : avals [] = some [] := rfl
theorem avals_val (d : D) (as : List AV) : avals (.val d :: as) = (avals as).map fun ds => d :: ds := rfl
theorem xTup_eq (k : FXA) : xTup k (x0 :: ρ) μ = aB (k (x0 :: ρ) μ) fun as ρ1 μ1 => (avals as).bind fun ds => if ds.length ≤ 100 ∧ dataL ds = true then some (.ok (.tup ds) ρ1 μ1) else none := xA_eq _ _
theorem xCall_eq (o : List D → Option D) (k : FXA) : xCall o k (x0 :: ρ) μ = aB (k (x0 :: ρ) μ) fun as ρ1 μ1 => (avals as).bind fun ds => (o ds).bind fun d => if data d = true then some (.ok d ρ1 μ1) else none := xA_eq _ _
theorem xRunQ_eq (n : Nat) (dd : List D) (run : List D → Option D) (k : FXA) : xRunQ n dd run k (x0 :: ρ) μ = aB (k (x0 :: ρ) μ) fun as ρ1 μ1 => (avals as).bind fun ds => if dataL ds = true ∧ (ds ++ dd).length = n then (run (ds ++ dd)).bind fun d => if data d = true then some (.ok d ρ1 μ1) else none else none := xA_eq _ _
theorem xRun_eq (n : Nat) (dd : List D) (run : RX) (k : FXA) : xRun n dd run k (x0 :: ρ) μ = aB (k (x0 :: ρ) μ) fun as ρ1 μ1 => (mo as ρ1).bind fun z => if (z.1 ++ dd).length = n then (run (z.1 ++ dd) μ1).bind (xPut fun ys => mi as z.2 (ys.take z.1.length)) else none := by
  unfold xRun aB
  cases k (x0 :: ρ) μ with
  | none => rfl
  | some o => cases o <;> rfl
theorem xPut_ok (put : List D → Option (List D)) (d : D) (ds μ : List D) : xPut put (.ok d ds μ) = (put ds).map fun ρ' => .ok d ρ' μ := rfl
theorem xPut_ex (put : List D → Option (List D)) (c : Str) (fs : List (Str × D)) (ds μ : List D) : xPut put (.ex c fs ds μ) = (put ds).map fun ρ' => .ex c fs ρ' μ := rfl
theorem mo_nil : mo [] ρ = some ([], ρ) := rfl
theorem mo_val (d : D) (as : List AV) : mo (.val d :: as) ρ = (mo as ρ).map fun z => (d :: z.1, z.2) := rfl
theorem mo_slot (j : Nat) (as : List AV) : mo (.slot j :: as) ρ = (mo as ρ).bind fun z => (z.2[j]?).bind fun d => if isUn d = true then none else some (d :: z.1, z.2.set j .un) := rfl
theorem mi_nil : mi [] ρ [] = some ρ := by unfold mi; rfl
theorem mi_val (d d' : D) (as : List AV) (ds : List D) : mi (.val d :: as) ρ (d' :: ds) = mi as ρ ds := by rw [mi]
theorem mi_slot (j : Nat) (d' : D) (as : List AV) (ds : List D) : mi (.slot j :: as) ρ (d' :: ds) = mi as (ρ.set j d') ds := by rw [mi]
/-- methods of a slot -/
def mSK (i : Nat) (m : Str) (n : Nat) (dd : List D) (runs : MT) (o : Option AO) (t : Option D) : Option EO := match t with
  | some (.obj c ns _) => if fidx m ns = none then (runs c).bind fun run => aB o fun as ρ1 μ1 => (mo (.slot i :: as) ρ1).bind fun z => if (z.1 ++ dd).length = n then (run (z.1 ++ dd) μ1).bind (xPut fun ys => mi (.slot i :: as) z.2 (ys.take z.1.length)) else none else none
  | _ => none
theorem xMethS_eq (i : Nat) (m : Str) (n : Nat) (dd : List D) (runs : MT) (k : FXA) : xMethS i m n dd runs k (x0 :: ρ) μ = mSK i m n dd runs (k (x0 :: ρ) μ) ((x0 :: ρ)[i]?) := by
  unfold xMethS mSK
  cases (x0 :: ρ)[i]? with
  | none => rfl
  | some t =>
    cases t with
    | obj c ns ds =>
      show (if fidx m ns = none then _ else none) = (if fidx m ns = none then _ else none)
      by_cases h : fidx m ns = none
      · rw [if_pos h, if_pos h]
        cases runs c with
        | none => rfl
        | some run =>
          unfold aB
          cases k (x0 :: ρ) μ with
          | none => rfl
          | some o => cases o <;> rfl
      · rw [if_neg h, if_neg h]
    | _ => rfl
theorem mSK_obj (i : Nat) (m : Str) (n : Nat) (dd : List D) (runs : MT) (o : Option AO) (c : Str) (ns : List Str) (ds : List D) : mSK i m n dd runs o (some (.obj c ns ds)) = if fidx m ns = none then (runs c).bind fun run => aB o fun as ρ1 μ1 => (mo (.slot i :: as) ρ1).bind fun z => if (z.1 ++ dd).length = n then (run (z.1 ++ dd) μ1).bind (xPut fun ys => mi (.slot i :: as) z.2 (ys.take z.1.length)) else none else none := rfl
/-- methods by a path -/
def mQK (q : List Str) (m : Str) (n : Nat) (dd : List D) (runs : MT) (ρ μ : List D) (i : Nat) (r : D) (o : Option (List D)) (t : Option D) : Option EO := match t with
  | some (.obj c ns ds) => if fidx m ns = none then (runs c).bind fun run => o.bind fun as => if flL as = true ∧ (D.obj c ns ds :: (as ++ dd)).length = n then (run (D.obj c ns ds :: (as ++ dd)) μ).bind (xPut fun ys => (put1 fun t' => (pput q r t').map fun r' => ρ.set i r') (ys.take 1)) else none else none
  | some (.ref j) => (match μ[j]? with
    | some (.obj c ns _) => if fidx m ns = none then (runs c).bind fun run => o.bind fun as => if flL as = true ∧ (D.ref j :: (as ++ dd)).length = n then (run (D.ref j :: (as ++ dd)) μ).bind (xPut fun ys => some ρ) else none else none
    | _ => none)
  | _ => none
theorem xMethQ_eq (ok : OkT) (i : Nat) (q : List Str) (m : Str) (n : Nat) (dd : List D) (runs : MT) (k : FA) : xMethQ ok i q m n dd runs k (x0 :: ρ) μ = ((x0 :: ρ)[i]?).bind fun r => mQK q m n dd runs (x0 :: ρ) μ i r (k (x0 :: ρ) μ) (pget ok q r) := by
  unfold xMethQ mQK
  cases (x0 :: ρ)[i]? with
  | none => rfl
  | some r =>
    simp only [Option.bind_some]
    generalize pget ok q r = t
    cases t with
    | none => rfl
    | some t => cases t <;> rfl
theorem mQK_obj (q : List Str) (m : Str) (n : Nat) (dd : List D) (runs : MT) (ρ μ : List D) (i : Nat) (r : D) (o : Option (List D)) (c : Str) (ns : List Str) (ds : List D) : mQK q m n dd runs ρ μ i r o (some (.obj c ns ds)) = if fidx m ns = none then (runs c).bind fun run => o.bind fun as => if flL as = true ∧ (D.obj c ns ds :: (as ++ dd)).length = n then (run (D.obj c ns ds :: (as ++ dd)) μ).bind (xPut fun ys => (put1 fun t' => (pput q r t').map fun r' => ρ.set i r') (ys.take 1)) else none else none := rfl
theorem put1_one (g : D → Option (List D)) (d : D) : put1 g [d] = g d := rfl
theorem pget_nil (ok : OkT) (d : D) : pget ok [] d = if isUn d = true then none else some d := by rw [pget]
theorem pget_cons (ok : OkT) (x : Str) (p : List Str) (c : Str) (ns : List Str) (ds : List D) : pget ok (x :: p) (.obj c ns ds) = if ok c x = true then (fidx x ns).bind fun i => (ds[i]?).bind (pget ok p) else none := by rw [pget]
theorem pput_nil (d e : D) : pput [] d e = if isUn e = true then none else some e := by rw [pput]
theorem pput_cons (x : Str) (p : List Str) (c : Str) (ns : List Str) (ds : List D) (e : D) : pput (x :: p) (.obj c ns ds) e = (fidx x ns).bind fun i => (ds[i]?).bind fun d => (pput p d e).map fun d' => .obj c ns (ds.set i d') := by rw [pput]
theorem qFld_eq (ok : OkT) (x : Str) (f : FQ) : qFld ok x f (x0 :: ρ) μ = (f (x0 :: ρ) μ).bind (dFld ok x μ) := rfl
theorem dFld_obj (ok : OkT) (x : Str) (c : Str) (ns : List Str) (ds : List D) : dFld ok x μ (.obj c ns ds) = if ok c x = true then (fidx x ns).bind fun i => ds[i]? else none := rfl
theorem dFld_fo (ok : OkT) (x : Str) (c : Str) (ns : List Str) (ds : List D) : dFld ok x μ (.fo c ns ds) = if ok c x = true then (fidx x ns).bind fun i => ds[i]? else none := rfl
theorem dFld_ref (ok : OkT) (x : Str) (k : Nat) : dFld ok x μ (.ref k) = (μ[k]?).bind (dFo ok x) := rfl
theorem dFo_obj (ok : OkT) (x : Str) (c : Str) (ns : List Str) (ds : List D) : dFo ok x (.obj c ns ds) = if ok c x = true then (fidx x ns).bind fun i => ds[i]? else none := rfl
theorem dFo_fo (ok : OkT) (x : Str) (c : Str) (ns : List Str) (ds : List D) : dFo ok x (.fo c ns ds) = if ok c x = true then (fidx x ns).bind fun i => ds[i]? else none := rfl
theorem varK_obj (c : Str) (ns : List Str) (ds : List D) : varK (some (.obj c ns ds)) = some (.obj c ns ds) := rfl
theorem varK_fo (c : Str) (ns : List Str) (ds : List D) : varK (some (.fo c ns ds)) = some (.fo c ns ds) := rfl
theorem varK_ref (k : Nat) : varK (some (.ref k)) = some (.ref k) := rfl
theorem qRunF_eq (n : Nat) (dd : List D) (run : RF) (k : FA) : qRunF n dd run k (x0 :: ρ) μ = (k (x0 :: ρ) μ).bind fun as => if (fzL as ++ dd).length = n then (run (fzL as ++ dd) (fzL μ)).bind resF else none := rfl
theorem qMethF_eq (m : Str) (n : Nat) (dd : List D) (runs : MTF) (f : FQ) (k : FA) : qMethF m n dd runs f k (x0 :: ρ) μ = (f (x0 :: ρ) μ).bind fun t => (clsOf μ t).bind fun z => if fidx m z.2 = none then (runs z.1).bind fun run => (k (x0 :: ρ) μ).bind fun as => if (fz t :: (fzL as ++ dd)).length = n then (run (fz t :: (fzL as ++ dd)) (fzL μ)).bind resF else none else none := rfl
theorem clsOf_obj (c : Str) (ns : List Str) (ds : List D) : clsOf μ (.obj c ns ds) = some (c, ns) := rfl
theorem clsOf_fo (c : Str) (ns : List Str) (ds : List D) : clsOf μ (.fo c ns ds) = some (c, ns) := rfl
theorem clsOf_ref (k : Nat) : clsOf μ (.ref k) = (μ[k]?).bind clsO := rfl
theorem xMake_eq (c : Str) (n : Nat) (dd : List D) (run : RX) (k : FXA) : xMake c n dd run k (x0 :: ρ) μ = aB (k (x0 :: ρ) μ) fun as ρ1 μ1 => (avals as).bind fun ds => if (D.obj c [] [] :: (ds ++ dd)).length = n then (run (D.obj c [] [] :: (ds ++ dd)) μ1).bind fun o => match o with
  | .ok d (t :: _) μ' => (match d with
    | .non => if isUn t = true then none else some (.ok t ρ1 μ')
    | _ => none)
  | .ex cx fs (_ :: _) μ' => some (.ex cx fs ρ1 μ')
  | _ => none
  else none := xA_eq _ _
theorem fSetX_eq (i : Nat) (g : FX) : fSetX i g (x0 :: ρ) μ = eS (g (x0 :: ρ) μ) fun d ρ μ => if isUn d = true then none else some (.nx (ρ.set i d) μ) := xS_eq _ _
theorem fSetTX_eq (gt : D → List D → Option (List D)) (g : FX) : fSetTX gt g (x0 :: ρ) μ = eS (g (x0 :: ρ) μ) fun d ρ μ => if data d = true then (gt d ρ).map fun ρ' => .nx ρ' μ else none := xS_eq _ _
theorem fExX_eq (g : FX) : fExX g (x0 :: ρ) μ = eS (g (x0 :: ρ) μ) fun _ ρ μ => some (.nx ρ μ) := xS_eq _ _
theorem fRetX_eq (g : FX) : fRetX g (x0 :: ρ) μ = eS (g (x0 :: ρ) μ) fun d ρ μ => some (.rt d ρ μ) := xS_eq _ _
def ifK (f g : FS) (d : D) (ρ μ : List D) : Option SO := match d with
  | .bl b => if b = true then f ρ μ else g ρ μ
  | _ => none
theorem ifK_bl (f g : FS) (b : Bool) : ifK f g (.bl b) ρ μ = if b = true then f ρ μ else g ρ μ := rfl
theorem fIfX_eq (t : FX) (f g : FS) : fIfX t f g (x0 :: ρ) μ = eS (t (x0 :: ρ) μ) (ifK f g) := xS_eq _ _
def fldK (ok : OkT) (i : Nat) (q : List Str) (x : Str) (d : D) (ρ μ : List D) (r : D) (t : Option D) : Option SO := match t with
  | some (.obj c ns ds) => if ok c x = true ∧ ns.length < 1000 then (pput q r (putD x d c ns ds)).map fun r' => .nx (ρ.set i r') μ else none
  | some (.ref j) => (match μ[j]? with
    | some (.obj c ns ds) => if ok c x = true ∧ ns.length < 1000 ∧ fl d = true then some (.nx ρ (μ.set j (putD x d c ns ds))) else none
    | _ => none)
  | _ => none
theorem fFldX_eq (ok : OkT) (i : Nat) (q : List Str) (x : Str) (g : FX) : fFldX ok i q x g (x0 :: ρ) μ = eS (g (x0 :: ρ) μ) fun d ρ μ => (ρ[i]?).bind fun r => fldK ok i q x d ρ μ r (pget ok q r) := by
  unfold fFldX
  rw [xS_eq]
  unfold eS
  cases g (x0 :: ρ) μ with
  | none => rfl
  | some o =>
    cases o with
    | ex c fs ρ' μ' => rfl
    | ok d ρ' μ' =>
      simp only
      cases ρ'[i]? with
      | none => rfl
      | some r =>
        simp only [Option.bind_some]
        unfold fldK
        generalize pget ok q r = t
        cases t with
        | none => rfl
        | some t => cases t <;> rfl
theorem fldK_obj (ok : OkT) (i : Nat) (q : List Str) (x : Str) (d : D) (ρ μ : List D) (r : D) (c : Str) (ns : List Str) (ds : List D) : fldK ok i q x d ρ μ r (some (.obj c ns ds)) = if ok c x = true ∧ ns.length < 1000 then (pput q r (putD x d c ns ds)).map fun r' => .nx (ρ.set i r') μ else none := rfl
theorem fFldAug_eq (ok : OkT) (i : Nat) (q : List Str) (x : Str) (op : D → D → Option D) (f : FQ) : fFldAug ok i q x op f (x0 :: ρ) μ = fFldX ok i q x (xAug ok i q x op f) (x0 :: ρ) μ := rfl
theorem xAug_eq (ok : OkT) (i : Nat) (q : List Str) (x : Str) (op : D → D → Option D) (f : FQ) : xAug ok i q x op f (x0 :: ρ) μ = ((x0 :: ρ)[i]?).bind fun r => (pget ok q r).bind fun t => (dFld ok x μ t).bind fun a => (f (x0 :: ρ) μ).bind fun b => (op a b).map fun d => .ok d (x0 :: ρ) μ := rfl
theorem iAdd_int (a b : Int) : iAdd (.int a) (.int b) = some (.int (a + b)) := rfl
theorem iSub_int (a b : Int) : iSub (.int a) (.int b) = some (.int (a - b)) := rfl
theorem fRaise_eq (c : Str) : fRaise c (x0 :: ρ) μ = some (.ex c [] (x0 :: ρ) μ) := rfl
theorem putD_some {x : Str} {ns : List Str} {i : Nat} (h : fidx x ns = some i) (d : D) (c : Str) (ds : List D) : putD x d c ns ds = .obj c ns (ds.set i d) := by
  unfold putD
  rw [h]
theorem isUn_obj (c : Str) (ns : List Str) (ds : List D) : isUn (.obj c ns ds) = false := rfl
theorem isUn_fo (c : Str) (ns : List Str) (ds : List D) : isUn (.fo c ns ds) = false := rfl
theorem isUn_ml (ds : List D) : isUn (.ml ds) = false := rfl
theorem isUn_lst (ds : List D) : isUn (.lst ds) = false := rfl
theorem isUn_tup (ds : List D) : isUn (.tup ds) = false := rfl
theorem isUn_int (i : Int) : isUn (.int i) = false := rfl
theorem isUn_str (i : List Nat) : isUn (.str i) = false := rfl
theorem isUn_bl (i : Bool) : isUn (.bl i) = false := rfl
theorem isUn_non : isUn .non = false := rfl
theorem isUn_ref (i : Nat) : isUn (.ref i) = false := rfl
theorem fl_int (i : Int) : fl (.int i) = true := rfl
theorem fl_str (i : List Nat) : fl (.str i) = true := rfl
theorem fl_bl (i : Bool) : fl (.bl i) = true := rfl
theorem fl_non : fl .non = true := rfl
theorem fl_ref (i : Nat) : fl (.ref i) = true := rfl
theorem fl_tup (ds : List D) : fl (.tup ds) = dataL ds := rfl
theorem fl_lst (ds : List D) : fl (.lst ds) = dataL ds := rfl
theorem flL_nil : flL [] = true := rfl
theorem flL_cons (d : D) (ds : List D) : flL (d :: ds) = (fl d && flL ds) := rfl
theorem resF_bl (b : Bool) : resF (.bl b) = some (.bl b) := rfl
theorem resF_int (b : Int) : resF (.int b) = some (.int b) := rfl
theorem resF_str (b : List Nat) : resF (.str b) = some (.str b) := rfl
theorem resF_non : resF .non = some .non := rfl
theorem resF_tup (ds : List D) : resF (.tup ds) = if noLL ds = true then some (.tup ds) else none := rfl
theorem resF_ml (ds : List D) : resF (.ml ds) = if noLL ds = true then some (.lst ds) else none := rfl
theorem fzL_nil : fzL [] = [] := rfl
theorem fzL_cons (d : D) (ds : List D) : fzL (d :: ds) = fz d :: fzL ds := rfl
theorem fz_int (i : Int) : fz (.int i) = .int i := rfl
theorem fz_str (i : List Nat) : fz (.str i) = .str i := rfl
theorem fz_bl (i : Bool) : fz (.bl i) = .bl i := rfl
theorem fz_non : fz .non = .non := rfl
theorem fz_ref (i : Nat) : fz (.ref i) = .ref i := rfl
theorem fz_tup (ds : List D) : fz (.tup ds) = .tup (fzL ds) := rfl
theorem fz_lst (ds : List D) : fz (.lst ds) = .lst (fzL ds) := rfl
theorem fz_ml (ds : List D) : fz (.ml ds) = .lst (fzL ds) := rfl
theorem fz_obj (c : Str) (ns : List Str) (ds : List D) : fz (.obj c ns ds) = .fo c ns (fzL ds) := rfl
theorem fz_fo (c : Str) (ns : List Str) (ds : List D) : fz (.fo c ns ds) = .fo c ns (fzL ds) := rfl
def rF (o : Option SO) : Option D := match o with
  | some (.rt d _ _) => some d
  | some (.nx _ _) => some .non
  | _ => none
theorem runF_eq (N : Nat) (f : FS) (ds : List D) : runF N f ds μ = rF (f (ds ++ List.replicate (N - ds.length) .un) μ) := rfl
theorem rF_rt (d : D) (ρ μ : List D) : rF (some (.rt d ρ μ)) = some d := rfl
theorem rF_nx (ρ μ : List D) : rF (some (.nx ρ μ)) = some .non := rfl
def rX (ks : List Bool) (ds : List D) (o : Option SO) : Option EO := o.bind fun o => match o with
  | .rt d ρ' μ' => if isUn d = true then none else (fin ks ds ρ').map fun ds' => .ok d ds' μ'
  | .nx ρ' μ' => (fin ks ds ρ').map fun ds' => .ok .non ds' μ'
  | .ex c fs ρ' μ' => (fin ks ds ρ').map fun ds' => .ex c fs ds' μ'
  | _ => none
theorem runX_eq (N : Nat) (ks : List Bool) (f : FS) (ds : List D) : runX N ks f ds μ = rX ks ds (f (ds ++ List.replicate (N - ds.length) .un) μ) := rfl
theorem rX_rt (ks : List Bool) (ds : List D) (d : D) (ρ' μ' : List D) : rX ks ds (some (.rt d ρ' μ')) = if isUn d = true then none else (fin ks ds ρ').map fun ds' => .ok d ds' μ' := rfl
theorem rX_nx (ks : List Bool) (ds : List D) (ρ' μ' : List D) : rX ks ds (some (.nx ρ' μ')) = (fin ks ds ρ').map fun ds' => .ok .non ds' μ' := rfl
theorem rX_ex (ks : List Bool) (ds : List D) (c : Str) (fs : List (Str × D)) (ρ' μ' : List D) : rX ks ds (some (.ex c fs ρ' μ')) = (fin ks ds ρ').map fun ds' => .ex c fs ds' μ' := rfl
theorem fin_nil : fin [] [] ρ = some [] := by rw [fin]
theorem fin_t (ks : List Bool) (d r : D) (ds : List D) : fin (true :: ks) (d :: ds) (r :: ρ) = if isUn r = true then none else (fin ks ds ρ).map fun l => r :: l := by rw [fin]
theorem fin_f (ks : List Bool) (d r : D) (ds : List D) : fin (false :: ks) (d :: ds) (r :: ρ) = if fl d = true then (fin ks ds ρ).map fun l => d :: l else none := by rw [fin]
end
end Fw
/-! # range with a step; index of a text -/
namespace Fw
open PySem PySem.Spec PyProof.Rows L2
open Evl (Ex)
def rangeS (i j c : Int) : List D := (List.range (Builtin.Range.rangeSize i j c).toNat).map fun (k : Nat) => .int (i + (k : Int) * c)
def rg3K (x y z : D) : Option (List D) := match x, y, z with
  | .int i, .int j, .int c => if (0 < c ∧ c < 1073741824) ∧ Builtin.Range.small i j c = true then some (rangeS i j c) else none
  | _, _, _ => none
def aR3 (f g h : FQ) : FA := fun ρ μ => (f ρ μ).bind fun x => (g ρ μ).bind fun y => (h ρ μ).bind fun z => rg3K x y z
theorem it_rangeS {K : PySem.W.Frag} {W0 : Wd} {Rel : Wd → Wd → Prop} {i j c : Int} : ItD K (Itc i c (Builtin.Range.rangeSize i j c).toNat) W0 (rangeS i j c) Rel where
  go := fun k W r h => by
    unfold rangeS at h
    rw [List.length_map, List.length_range] at h
    exact h
  st := fun k W r h => by
    unfold rangeS at h
    rw [List.length_map, List.length_range] at h
    exact h
  yl := fun k W x H' r ok h y => by
    obtain ⟨e, rfl⟩ := y
    unfold rangeS at h ⊢
    rw [List.length_map, List.length_range] at h
    exact ⟨W, .int (i + (k : Int) * c), e.symm, by rw [List.getElem?_map, List.getElem?_range h]; rfl, Ext.refl ok, rfl, rfl⟩
theorem rs_nonneg {i j c : Int} (hc : 0 < c) : 0 ≤ Builtin.Range.rangeSize i j c := by
  unfold Builtin.Range.rangeSize
  rw [if_pos hc]
  by_cases h : i < j
  · rw [if_pos h]
    have := Int.ediv_nonneg (a := j - i - 1) (b := c) (by omega) (by omega)
    omega
  · rw [if_neg h]
    exact Int.le_refl _
section
variable {X : Cx} {tg a b c : Expr} {f g h : FQ}
theorem pif_range3 {p pos : Pos} (ha : PQ X a f) (hb : PQ X b g) (hc : PQ X c h) (hm : X.mg "range" = none) (hg : Gl X "range" := by rfl) (hs : starEach [a, b, c] X.env = (false, eval a X.env) :: starEach [b, c] X.env := by rfl)
    (hs2 : starEach [b, c] X.env = (false, eval b X.env) :: starEach [c] X.env := by rfl) (hs3 : starEach [c] X.env = (false, eval c X.env) :: starEach [] X.env := by rfl) (hpl : (backTo pos (starEach [b, c] X.env)).any (·.1) = false := by rfl) :
    PIF X tg (.Call (.Name "range" p) [a, b, c] [] pos) (aR3 f g h) := by
  obtain ⟨t1, p1, k1⟩ := ha
  obtain ⟨t2, p2, k2⟩ := hb
  obtain ⟨t3, p3, k3⟩ := hc
  refine ⟨_, pi_range3 hg hm (pa_cons p1 (pa_cons p2 (pa_cons p3 pa_nil hs3) hs2) hs) hs hpl, fun σ W ρ μ F S ds hd Q q => ?_⟩
  obtain ⟨x, e1, hd⟩ := bind_some hd
  obtain ⟨y, e2, hd⟩ := bind_some hd
  obtain ⟨z, e3, hd⟩ := bind_some hd
  refine k1 σ W ρ μ F S x e1 _ fun v W1 G1 x1 r1 => ?_
  refine k2 σ W1 ρ μ F (S.ext x1) y e2 _ fun v' W2 G2 x2 r2 => ?_
  refine k3 σ W2 ρ μ F ((S.ext x1).ext x2) z e3 _ fun v'' W3 G3 x3 r3 => ?_
  cases x with
  | int i =>
    cases y with
    | int j =>
      cases z with
      | int c =>
        have hd2 : (if (0 < c ∧ c < 1073741824) ∧ Builtin.Range.small i j c = true then some (rangeS i j c) else none) = some ds := hd
        by_cases hl : (0 < c ∧ c < 1073741824) ∧ Builtin.Range.small i j c = true
        · rw [if_pos hl] at hd2
          cases hd2
          obtain ⟨rfl, _⟩ := r1
          obtain ⟨rfl, _⟩ := r2
          obtain ⟨rfl, _⟩ := r3
          exact ⟨i, j, c, (Builtin.Range.rangeSize i j c).toNat, rfl, ⟨by omega, by omega, hl.2, (Int.toNat_of_nonneg (rs_nonneg hl.1.1)).symm⟩, q _ W3 ((x1.trans x2).trans x3) it_rangeS⟩
        · rw [if_neg hl] at hd2
          cases hd2
      | _ => cases hd
    | _ => cases hd
  | _ => cases hd
theorem aR3_eq (x0 : D) (ρ μ : List D) : aR3 f g h (x0 :: ρ) μ = (f (x0 :: ρ) μ).bind fun x => (g (x0 :: ρ) μ).bind fun y => (h (x0 :: ρ) μ).bind fun z => rg3K x y z := rfl
theorem rg3K_int (i j c : Int) : rg3K (.int i) (.int j) (.int c) = if (0 < c ∧ c < 1073741824) ∧ Builtin.Range.small i j c = true then some (rangeS i j c) else none := rfl
end
/-! ### s.index(t) -/
def oIndex (s : List Nat) : List D → Option D
  | [.str t] => match Builtin.Str.occurrences (tr s) (tr t) 0 (tr s).length 1 with
    | i :: _ => some (.int (i : Nat))
    | [] => none
  | _ => none
theorem mtd_index {X : Cx} : MtD X "str.index" oIndex := by
  refine ⟨_, mt_sindex, fun W s ds vs G ok rl d hd Q q => ?_⟩
  match ds, hd with
  | [.str t], hd =>
    obtain ⟨v, rfl, r1⟩ := RL_one rl
    obtain ⟨rfl, _⟩ := r1
    have hd2 : (match Builtin.Str.occurrences (tr s) (tr t) 0 (tr s).length 1 with
      | i :: _ => some (D.int (i : Nat))
      | [] => none) = some d := hd
    cases e : Builtin.Str.occurrences (tr s) (tr t) 0 (tr s).length 1 with
    | nil => rw [e] at hd2; cases hd2
    | cons i rest =>
      rw [e] at hd2
      cases hd2
      exact ⟨tr s, tr t, i, rest, rfl, rfl, e, q _ W [] (Ext.refl ok) ⟨rfl, rfl⟩⟩
/-! ### names for what built-ins tell -/
def dMin (x y : D) : Option D := match x, y with | .int i, .int j => some (.int (if j < i then j else i)) | _, _ => none
def dMax (x y : D) : Option D := match x, y with | .int i, .int j => some (.int (if j > i then j else i)) | _, _ => none
def dStrI (x : D) : Option D := match x with | .int i => if i.natAbs.log2 < 1920 then some (.str (ofS (toString i))) else none | _ => none
theorem dMin_int (i j : Int) : dMin (.int i) (.int j) = some (.int (if j < i then j else i)) := rfl
theorem dMax_int (i j : Int) : dMax (.int i) (.int j) = some (.int (if j > i then j else i)) := rfl
theorem dStrI_int (i : Int) : dStrI (.int i) = if i.natAbs.log2 < 1920 then some (.str (ofS (toString i))) else none := rfl
end Fw
/-! # plain laws of the mirrors' operators -/
namespace Fw
open PySem PySem.Spec PyProof.Rows L2
theorem eqV_str (a b : List Nat) : eqV (.str (tr a)) (.str (tr b)) = decide (a = b) := by
  by_cases h : a = b
  · subst h
    simp [eqV]
  · have h2 : tr a ≠ tr b := fun z => h (tr_inj z)
    simp [eqV, h, h2]
theorem atoms_strs : ∀ es : List (List Nat), atoms (es.map D.str) = some ((es.map tr).map V.str)
  | [] => rfl
  | e :: es => by
    show ((some (V.str (tr e))).bind fun u => (atoms (es.map D.str)).map fun us => u :: us) = _
    rw [atoms_strs es]
    rfl
theorem inV_strs (t : List Nat) : ∀ es : List (List Nat), inV (.str (tr t)) ((es.map tr).map V.str) = decide (t ∈ es)
  | [] => by
    unfold inV
    simp
  | e :: es => by
    have ih := inV_strs t es
    unfold inV at ih ⊢
    rw [List.map_cons, List.map_cons, List.any_cons, ih, eqV_str]
    by_cases h : e = t
    · simp [h]
    · have h2 : ¬ t = e := fun z => h z.symm
      simp [h, h2]
theorem inDB_tup (t : List Nat) (ds : List D) : inDB (.str t) (.tup ds) = inSeq (.str t) (.tup ds) := by
  cases t with
  | nil => rfl
  | cons c t => cases t <;> rfl
theorem inDB_lst (t : List Nat) (ds : List D) : inDB (.str t) (.lst ds) = inSeq (.str t) (.lst ds) := by
  cases t with
  | nil => rfl
  | cons c t => cases t <;> rfl
theorem dIn_tup (t : List Nat) (es : List (List Nat)) : dIn (.str t) (.tup (es.map D.str)) = some (.bl (decide (t ∈ es))) := by
  unfold dIn
  rw [inDB_tup]
  unfold inSeq
  show Option.map D.bl ((some (es.map D.str)).bind fun ds => (some (V.str (tr t))).bind fun u => (atoms ds).map fun us => inV u us) = _
  rw [Option.bind_some, Option.bind_some, atoms_strs]
  show some (D.bl (inV (.str (tr t)) ((es.map tr).map V.str))) = _
  rw [inV_strs]
theorem dIn_lst (t : List Nat) (es : List (List Nat)) : dIn (.str t) (.lst (es.map D.str)) = some (.bl (decide (t ∈ es))) := by
  unfold dIn
  rw [inDB_lst]
  unfold inSeq
  show Option.map D.bl ((some (es.map D.str)).bind fun ds => (some (V.str (tr t))).bind fun u => (atoms ds).map fun us => inV u us) = _
  rw [Option.bind_some, Option.bind_some, atoms_strs]
  show some (D.bl (inV (.str (tr t)) ((es.map tr).map V.str))) = _
  rw [inV_strs]
theorem dNotIn_tup (t : List Nat) (es : List (List Nat)) : dNotIn (.str t) (.tup (es.map D.str)) = some (.bl (!decide (t ∈ es))) := by
  have h := dIn_tup t es
  unfold dIn at h
  obtain ⟨b, h1, h2⟩ := map_some h
  unfold dNotIn
  rw [h1]
  injection h2 with h2
  rw [← h2]
  rfl
theorem dNotIn_lst (t : List Nat) (es : List (List Nat)) : dNotIn (.str t) (.lst (es.map D.str)) = some (.bl (!decide (t ∈ es))) := by
  have h := dIn_lst t es
  unfold dIn at h
  obtain ⟨b, h1, h2⟩ := map_some h
  unfold dNotIn
  rw [h1]
  injection h2 with h2
  rw [← h2]
  rfl
theorem dIn_sign (c : Nat) (z : List Nat) : dIn (.str [c]) (.str z) = some (.bl (decide (c ∈ z))) := rfl
theorem dNotIn_sign (c : Nat) (z : List Nat) : dNotIn (.str [c]) (.str z) = some (.bl (!decide (c ∈ z))) := rfl
theorem boolsD_map : ∀ bs : List Bool, boolsD (bs.map D.bl) = some bs
  | [] => rfl
  | b :: bs => by
    show (boolsD (bs.map D.bl)).map (fun bs => b :: bs) = _
    rw [boolsD_map bs]
    rfl
theorem starts_take (e t : List Nat) : Txt.startswith (tr e) (tr t) = decide (e.take t.length = t) := by
  unfold Txt.startswith Builtin.Str.subAt
  rw [tr_length, tr_length, Nat.zero_add]
  show (decide (t.length ≤ e.length) && ((e.toArray.extract 0 t.length) == t.toArray)) = _
  rw [List.extract_toArray]
  have h1 : e.extract 0 t.length = e.take t.length := by
    rw [List.extract_eq_take_drop, List.drop_zero, Nat.sub_zero]
  rw [h1]
  by_cases h : e.take t.length = t
  · have hl : t.length ≤ e.length := by
      have := congrArg List.length h
      rw [List.length_take] at this
      omega
    rw [decide_eq_true h, decide_eq_true hl, h]
    simp
  · rw [decide_eq_false h]
    have h2 : ((e.take t.length).toArray == t.toArray) = false := by
      apply beq_eq_false_iff_ne.mpr
      intro z
      exact h (by simpa using z)
    rw [h2, Bool.and_false]
/-! ### equal trees -/
def cok (s : List Nat) : Bool := s.all fun c => decide (c < 1114112)
mutual
/-- trees without truths and instances, at most h deep, of signs -/
def pl : Nat → D → Bool
  | _, .non => true
  | _, .int _ => true
  | _, .str s => cok s
  | h + 1, .tup ds => plL h ds
  | h + 1, .lst ds => plL h ds
  | _, _ => false
def plL : Nat → List D → Bool
  | _, [] => true
  | h, d :: ds => pl h d && plL h ds
end
theorem strOk_tr {s : List Nat} (h : cok s = true) : PyData.canLay0 (.str (tr s)) = true := by
  show (tr s).cps.all (· < 0x110000) = true
  unfold cok at h
  rw [List.all_eq_true] at h
  rw [Array.all_eq_true]
  intro i hi
  have : s[i]'(by simpa using hi) ∈ s := List.getElem_mem _
  have := h _ this
  simpa using this
mutual
theorem pl_toP : ∀ (h : Nat) (d : D), pl h d = true → ∃ p, toP d = some p ∧ p.canLay0 = true ∧ p.depth ≤ h
  | _, .non, _ => ⟨_, rfl, rfl, by unfold PyData.depth; exact Nat.zero_le _⟩
  | _, .int i, _ => ⟨_, rfl, rfl, by unfold PyData.depth; exact Nat.zero_le _⟩
  | h, .str s, e => ⟨_, rfl, strOk_tr (by cases h <;> exact e), by unfold PyData.depth; exact Nat.zero_le _⟩
  | 0, .tup ds, e => by cases e
  | 0, .lst ds, e => by cases e
  | h + 1, .tup ds, e => by
    obtain ⟨ps, h1, h2, h3⟩ := plL_toP h ds e
    refine ⟨.tuple ps, ?_, ?_, ?_⟩
    · show (toPL ds).map PyData.tuple = _
      rw [h1]
      rfl
    · unfold PyData.canLay0
      exact h2
    · unfold PyData.depth
      omega
  | h + 1, .lst ds, e => by
    obtain ⟨ps, h1, h2, h3⟩ := plL_toP h ds e
    refine ⟨.list ps, ?_, ?_, ?_⟩
    · show (toPL ds).map PyData.list = _
      rw [h1]
      rfl
    · unfold PyData.canLay0
      exact h2
    · unfold PyData.depth
      omega
  | h, .bl _, e => by cases h <;> cases e
  | h, .ml _, e => by cases h <;> cases e
  | h, .obj _ _ _, e => by cases h <;> cases e
  | h, .fo _ _ _, e => by cases h <;> cases e
  | h, .ref _, e => by cases h <;> cases e
  | h, .un, e => by cases h <;> cases e
theorem plL_toP : ∀ (h : Nat) (ds : List D), plL h ds = true → ∃ ps, toPL ds = some ps ∧ PyData.canLayAll0 ps = true ∧ PyData.depthAll ps ≤ h
  | _, [], _ => ⟨[], rfl, rfl, by unfold PyData.depthAll; exact Nat.zero_le _⟩
  | h, d :: ds, e => by
    obtain ⟨a, b⟩ := Bool.and_eq_true_iff.mp (show (pl h d && plL h ds) = true by unfold plL at e; exact e)
    obtain ⟨p, h1, h2, h3⟩ := pl_toP h d a
    obtain ⟨ps, h4, h5, h6⟩ := plL_toP h ds b
    refine ⟨p :: ps, ?_, ?_, ?_⟩
    · show ((toP d).bind fun p => (toPL ds).map fun ps => p :: ps) = _
      rw [h1, h4]
      rfl
    · unfold PyData.canLayAll0
      rw [h2, h5]
      rfl
    · unfold PyData.depthAll
      omega
end
mutual
theorem eqv_pl : ∀ (x y : D) (h h' : Nat) (p q : PyData), pl h x = true → pl h' y = true → toP x = some p → toP y = some q → (PyData.eqv p q = true ↔ x = y)
  | .non, y, h, h', p, q, hx, hy, e1, e2 => by
    cases e1
    cases y <;> first
      | (cases h' <;> cases hy; done)
      | (cases e2; simp [PyData.eqv]; done)
      | (obtain ⟨z, _, rfl⟩ := map_some e2; simp [PyData.eqv])
  | .int i, y, h, h', p, q, hx, hy, e1, e2 => by
    cases e1
    cases y <;> first
      | (cases h' <;> cases hy; done)
      | (cases e2; simp [PyData.eqv]; done)
      | (obtain ⟨z, _, rfl⟩ := map_some e2; simp [PyData.eqv])
  | .str s, y, h, h', p, q, hx, hy, e1, e2 => by
    cases e1
    cases y <;> first
      | (cases h' <;> cases hy; done)
      | (cases e2
         simp only [PyData.eqv, beq_iff_eq, D.str.injEq]
         exact ⟨tr_inj, fun z => by rw [z]⟩)
      | (cases e2; simp [PyData.eqv]; done)
      | (obtain ⟨z, _, rfl⟩ := map_some e2; simp [PyData.eqv])
  | .tup xs, y, h, h', p, q, hx, hy, e1, e2 => by
    obtain ⟨ps, e3, rfl⟩ := map_some e1
    cases h with
    | zero => cases hx
    | succ h =>
      cases y with
      | tup ys =>
        cases h' with
        | zero => cases hy
        | succ h' =>
          obtain ⟨qs, e4, rfl⟩ := map_some e2
          have := eqvL_pl xs ys h h' ps qs hx hy e3 e4
          simp only [PyData.eqv, D.tup.injEq]
          exact this
      | lst ys =>
        obtain ⟨qs, e4, rfl⟩ := map_some e2
        simp [PyData.eqv]
      | non => cases e2; simp [PyData.eqv]
      | int i => cases e2; simp [PyData.eqv]
      | str s => cases e2; simp [PyData.eqv]
      | _ => cases h' <;> cases hy
  | .lst xs, y, h, h', p, q, hx, hy, e1, e2 => by
    obtain ⟨ps, e3, rfl⟩ := map_some e1
    cases h with
    | zero => cases hx
    | succ h =>
      cases y with
      | lst ys =>
        cases h' with
        | zero => cases hy
        | succ h' =>
          obtain ⟨qs, e4, rfl⟩ := map_some e2
          have := eqvL_pl xs ys h h' ps qs hx hy e3 e4
          simp only [PyData.eqv, D.lst.injEq]
          exact this
      | tup ys =>
        obtain ⟨qs, e4, rfl⟩ := map_some e2
        simp [PyData.eqv]
      | non => cases e2; simp [PyData.eqv]
      | int i => cases e2; simp [PyData.eqv]
      | str s => cases e2; simp [PyData.eqv]
      | _ => cases h' <;> cases hy
  | .bl _, _, h, _, _, _, hx, _, _, _ => by cases h <;> cases hx
  | .ml _, _, h, _, _, _, hx, _, _, _ => by cases h <;> cases hx
  | .obj _ _ _, _, h, _, _, _, hx, _, _, _ => by cases h <;> cases hx
  | .fo _ _ _, _, h, _, _, _, hx, _, _, _ => by cases h <;> cases hx
  | .ref _, _, h, _, _, _, hx, _, _, _ => by cases h <;> cases hx
  | .un, _, h, _, _, _, hx, _, _, _ => by cases h <;> cases hx
theorem eqvL_pl : ∀ (xs ys : List D) (h h' : Nat) (ps qs : List PyData), plL h xs = true → plL h' ys = true → toPL xs = some ps → toPL ys = some qs → (PyData.eqvAll ps qs = true ↔ xs = ys)
  | [], [], _, _, _, _, _, _, e1, e2 => by
    cases e1
    cases e2
    simp [PyData.eqvAll]
  | [], y :: ys, _, _, _, _, _, _, e1, e2 => by
    cases e1
    obtain ⟨p, _, e2⟩ := bind_some e2
    obtain ⟨ps, _, rfl⟩ := map_some e2
    simp [PyData.eqvAll]
  | x :: xs, [], _, _, _, _, _, _, e1, e2 => by
    cases e2
    obtain ⟨p, _, e1⟩ := bind_some e1
    obtain ⟨ps, _, rfl⟩ := map_some e1
    simp [PyData.eqvAll]
  | x :: xs, y :: ys, h, h', _, _, hx, hy, e1, e2 => by
    unfold plL at hx hy
    obtain ⟨a1, b1⟩ := Bool.and_eq_true_iff.mp hx
    obtain ⟨a2, b2⟩ := Bool.and_eq_true_iff.mp hy
    obtain ⟨p, p1, e1⟩ := bind_some e1
    obtain ⟨ps, p2, rfl⟩ := map_some e1
    obtain ⟨q, q1, e2⟩ := bind_some e2
    obtain ⟨qs, q2, rfl⟩ := map_some e2
    have h1 := eqv_pl x y h h' p q a1 a2 p1 q1
    have h2 := eqvL_pl xs ys h h' ps qs b1 b2 p2 q2
    simp only [PyData.eqvAll, Bool.and_eq_true, List.cons.injEq, h1, h2]
end
/-- equality of plain trees -/
theorem eqDB_pl {x y : D} {h h' : Nat} (hx : pl h x = true) (hy : pl h' y = true) (hh : h ≤ 60) (hh' : h' ≤ 60) : ∃ b, eqDB x y = some b ∧ (b = true ↔ x = y) := by
  obtain ⟨p, p1, p2, p3⟩ := pl_toP h x hx
  obtain ⟨q, q1, q2, q3⟩ := pl_toP h' y hy
  have gen : ∀ u v, atom x = some u → atom y = some v → ∃ b, (if scal u v = true then some (decide (u = v)) else none) = some b ∧ (b = true ↔ x = y) := by
    intro u v e1 e2
    cases x <;> first
      | (cases h <;> cases hx; done)
      | (cases e1; done)
      | (cases e1
         cases y <;> first
          | (cases h' <;> cases hy; done)
          | (cases e2; done)
          | (cases e2
             refine ⟨_, if_pos rfl, ?_⟩
             rw [decide_eq_true_iff]
             constructor
             · intro z
               first
                | rfl
                | (cases z; done)
                | (injection z with z; rw [z]; done)
                | (injection z with z; rw [tr_inj z])
             · intro z
               first
                | rfl
                | (cases z; done)
                | (injection z with z; rw [z])))
  unfold eqDB
  have sh : ∀ {p : PyData} {h : Nat}, p.canLay0 = true → p.depth ≤ h → h ≤ 60 → SeqAt.shaped p = true := fun h1 h2 h3 => Bool.and_eq_true_iff.mpr ⟨h1, decide_eq_true (by omega)⟩
  have rest : ∃ b, ((toP x).bind fun p => (toP y).bind fun q => if SeqAt.shaped p = true ∧ SeqAt.shaped q = true then some (PyData.eqv p q) else none) = some b ∧ (b = true ↔ x = y) := by
    rw [p1, q1, Option.bind_some, Option.bind_some, if_pos ⟨sh p2 p3 hh, sh q2 q3 hh'⟩]
    exact ⟨_, rfl, eqv_pl x y h h' p q hx hy p1 q1⟩
  cases e1 : atom x with
  | none => exact rest
  | some u =>
    cases e2 : atom y with
    | none => exact rest
    | some v => exact gen u v e1 e2
theorem dEq_pl {x y : D} {h h' : Nat} (hx : pl h x = true) (hy : pl h' y = true) (hh : h ≤ 60) (hh' : h' ≤ 60) : ∃ b, dEq x y = some (.bl b) ∧ (b = true ↔ x = y) := by
  obtain ⟨b, h1, h2⟩ := eqDB_pl hx hy hh hh'
  exact ⟨b, by unfold dEq; rw [h1]; rfl, h2⟩
theorem dNe_pl {x y : D} {h h' : Nat} (hx : pl h x = true) (hy : pl h' y = true) (hh : h ≤ 60) (hh' : h' ≤ 60) : ∃ b, dNe x y = some (.bl (!b)) ∧ (b = true ↔ x = y) := by
  obtain ⟨b, h1, h2⟩ := eqDB_pl hx hy hh hh'
  exact ⟨b, by unfold dNe; rw [h1]; rfl, h2⟩
theorem dEq_of {x y : D} {h h' : Nat} (hx : pl h x = true) (hy : pl h' y = true) (hh : h ≤ 60) (hh' : h' ≤ 60) (e : x = y) : dEq x y = some (.bl true) := by
  obtain ⟨b, h1, h2⟩ := dEq_pl hx hy hh hh'
  rw [h1, h2.mpr e]
theorem dNe_of {x y : D} {h h' : Nat} (hx : pl h x = true) (hy : pl h' y = true) (hh : h ≤ 60) (hh' : h' ≤ 60) (e : x = y) : dNe x y = some (.bl false) := by
  obtain ⟨b, h1, h2⟩ := dNe_pl hx hy hh hh'
  rw [h1, h2.mpr e]
  rfl
/-! ### comprehensions -/
section
variable {g : D → List D → Option (List D)} {t : FB} {f : FQ} {ρ μ : List D}
theorem lcL_map {α : Type} (A : α → D) (T : α → Bool) (Y : α → D) : ∀ (as : List α), (∀ a ∈ as, ∃ ρ', g (A a) ρ = some ρ' ∧ t ρ' μ = some (T a) ∧ (T a = true → f ρ' μ = some (Y a) ∧ data (Y a) = true)) → lcL g t f ρ μ (as.map A) = some ((as.filter T).map Y)
  | [], _ => rfl
  | a :: as, h => by
    obtain ⟨ρ', h1, h2, h3⟩ := h a (List.mem_cons_self ..)
    have ih := lcL_map A T Y as fun b hb => h b (List.mem_cons_of_mem _ hb)
    rw [List.map_cons]
    unfold lcL
    rw [h1, Option.bind_some, h2, Option.bind_some]
    by_cases ht : T a = true
    · obtain ⟨h4, h5⟩ := h3 ht
      rw [if_pos ht, h4, Option.bind_some, if_pos h5, ih, List.filter_cons_of_pos ht]
      rfl
    · rw [if_neg ht, ih, List.filter_cons_of_neg ht]
end
theorem qLc_eq (it : FA) (g : D → List D → Option (List D)) (vs : List Nat) (t : FB) (f : FQ) (x0 : D) (ρ μ : List D) : qLc it g vs t f (x0 :: ρ) μ = (it (x0 :: ρ) μ).bind fun ds => if ds.length ≤ LIM then lcL g t f (wipeD (x0 :: ρ) vs) μ ds else none := rfl
theorem wipeD_nil (ρ : List D) : wipeD ρ [] = ρ := rfl
theorem wipeD_cons (ρ : List D) (v : Nat) (vs : List Nat) : wipeD ρ (v :: vs) = (wipeD ρ vs).set v .un := rfl
theorem bYes_eq (x0 : D) (ρ μ : List D) : bYes (x0 :: ρ) μ = some true := rfl
theorem itemsQ_ml (ds : List D) : itemsQ (.ml ds) = if dataL ds = true then some ds else none := rfl
theorem itemsQ_lst (ds : List D) : itemsQ (.lst ds) = some ds := rfl
theorem itemsQ_tup (ds : List D) : itemsQ (.tup ds) = if dataL ds = true then some ds else none := rfl
theorem itemsQ_str (s : List Nat) : itemsQ (.str s) = some (s.map fun c => .str [c]) := rfl
theorem dIs_bl (a b : Bool) : dIs (.bl a) (.bl b) = some (.bl (decide (a = b))) := rfl
theorem dIsNot_bl (a b : Bool) : dIsNot (.bl a) (.bl b) = some (.bl (!decide (a = b))) := rfl
theorem dIs_nn : dIs .non .non = some (.bl true) := rfl
theorem dIsNot_nn : dIsNot .non .non = some (.bl false) := rfl
theorem asL_lst (ds : List D) : asL (.lst ds) = some ds := rfl
theorem noLL_nil : noLL [] = true := rfl
theorem noLL_cons (d : D) (ds : List D) : noLL (d :: ds) = (noL d && noLL ds) := rfl
theorem noL_str (s : List Nat) : noL (.str s) = true := rfl
theorem noL_int (s : Int) : noL (.int s) = true := rfl
theorem noL_bl (s : Bool) : noL (.bl s) = true := rfl
theorem noL_non : noL .non = true := rfl
theorem noL_tup (ds : List D) : noL (.tup ds) = noLL ds := rfl
theorem fzL_strs : ∀ es : List (List Nat), fzL (es.map D.str) = es.map D.str
  | [] => rfl
  | e :: es => congrArg (D.str e :: ·) (fzL_strs es)
theorem fzL_ints : ∀ es : List Int, fzL (es.map D.int) = es.map D.int
  | [] => rfl
  | e :: es => congrArg (D.int e :: ·) (fzL_ints es)
end Fw
/-! # C.m(x, ..): a def read off an own class -/
namespace Fw
open PySem PySem.Spec PyProof.Rows L2
/-- what the class must have for that -/
def baseB (K : PySem.W.Frag) (c m : Str) : Bool := PySem.W.readsIn K (He.ga K c) (.type "type") && (decide (PySem.W.specialIn K (.ref (He.ga K c)) "__getattribute__" = some (some (.builtin "type.__getattribute__"))) && ((match PySem.W.findCls K (.ref (He.ga K c)) (.type "type") m with
  | some (.val v) => decide (v = .ref (He.ma K (He.ga K c) m))
  | _ => false) && (PySem.W.handedIn (.ref (He.ma K (He.ga K c) m)) && PySem.W.keepIn K (.ref (He.ma K (He.ga K c) m)))))
def OkB (P : Program) (w : World) (K : PySem.W.Frag) (mg : Str → Option Value) (base : Heap) (c m : Str) (k n : Nat) (run : RX) : Prop :=
  ∃ (fd : FuncData) (ps : List Str), FnOk P w K mg base (L2.CX P w) k (He.ma K (He.ga K c) m) fd ps (spX K n run) ∧ Binds K fd ps [] ∧ mg c = some (.ref (He.ga K c)) ∧ baseB K c m = true
section
variable {X : Cx} {Wx : WX} {e : Expr} {es : List Expr} {p apos pos : Pos} {kf : FXA} {c m : Str} {k n : Nat} {run : RX}
theorem px_base {pl : Sem Bool} (O : OkB X.prog X.w X.K X.mg X.base c m k n run) (hr : Room k X.A) (tk : Takes X Wx) (ha : PAX X Wx (e :: es) kf) (hg : Gl X c := by rfl) (hdb : (c == ("__debug__" : Str)) = false := by decide)
    (hst : starEach (e :: es) X.env = (false, eval e X.env) :: starEach es X.env := by rfl) (hpl : (backTo pos (starEach es X.env)).any (·.1) = false := by rfl)
    (ht : eval (.Call (.Attribute (.Name c p) m apos) (e :: es) [] pos) X.env = (do
      let ov ← eval (.Name c p) X.env
      standAt apos.atName
      let (f, first) ← holding [ov] (getMethod ov m pl)
      callWith pos f first (backTo pos (starEach (e :: es) X.env)) (backToKw pos (keywordEach [] X.env))) := by rfl) :
    PX X Wx (.Call (.Attribute (.Name c p) m apos) (e :: es) [] pos) (xRun n [] run kf) := by
  obtain ⟨fd, ps, hF, hb, hm, hB⟩ := O
  obtain ⟨t, pt, k1⟩ := ha
  obtain ⟨b1, hB⟩ := Bool.and_eq_true_iff.mp hB
  obtain ⟨b2, hB⟩ := Bool.and_eq_true_iff.mp hB
  obtain ⟨b3, hB⟩ := Bool.and_eq_true_iff.mp hB
  obtain ⟨b4, b5⟩ := Bool.and_eq_true_iff.mp hB
  have b2' := of_decide_eq_true b2
  have b3' : PySem.W.findCls X.K (.ref (He.ga X.K c)) (.type "type") m = some (.val (.ref (He.ma X.K (He.ga X.K c) m))) := by
    cases q : PySem.W.findCls X.K (.ref (He.ga X.K c)) (.type "type") m with
    | none => rw [q] at b3; cases b3
    | some r =>
      rw [q] at b3
      cases r with
      | val v => rw [of_decide_eq_true b3]
      | get _ _ _ _ => cases b3
  refine ⟨fun σ H Q => t σ H fun vs H1 => spX X.K n run (vs ++ []) H1 Q (WE Wx σ), ⟨fun pins s σ H Q I h => ?_⟩, fun σ W ρ μ F S o ho Q hQ => ?_⟩
  · refine PySem.W.methodCall_KW (pl := pl) (ld_glob I hg hm ?_ hdb) ht
    refine PySem.W.method_cls I.kIn b2' (PySem.W.cls_value I.kIn b1 b3' b4 ?_)
    refine PySem.W.callWith_K (h₀ := X.base) I.ok.mod.kin b5 (thn (pt.run pos pins _ σ H _ (I.tok _) h) fun us s1 ⟨vs, H1, I1, r, q⟩ => ⟨I1.kIn, ?_⟩) hst hpl
    exact run_fnSD hF hr hb .nil (passAt tk σ) I1 r q
  · obtain ⟨o1, e1, ho⟩ := bind_some ho
    refine k1 σ W ρ μ F S o1 e1 _ ?_
    cases o1 with
    | ok as ρ1 μ1 =>
      intro vs W1 F1 r S1 mv
      obtain ⟨z, e2, ho⟩ := bind_some (show (mo as ρ1).bind (fun z => if (z.1 ++ []).length = n then (run (z.1 ++ []) μ1).bind (xPut fun ys => mi as z.2 (ys.take z.1.length)) else none) = some o from ho)
      obtain ⟨ds, ρr⟩ := z
      by_cases hl : (ds ++ []).length = n
      case neg => rw [if_neg hl] at ho; cases ho
      rw [if_pos hl] at ho
      obtain ⟨o2, e3, ho⟩ := bind_some ho
      have fo := (foc_args S1 r e2).trans fun Fc Sc => foc_vals (ds := []) (vs := []) Sc ⟨rfl, rfl⟩
      rw [← List.map_append] at fo
      exact spX_of fo hl e3 ho (hQ.after mv)
    | ex c fs ρ1 μ1 =>
      cases ho
      exact hQ
end
/-! ### -e -/
def dNeg : D → Option D
  | .int i => some (.int (-i))
  | _ => none
theorem pq_neg {X : Cx} {e : Expr} {pos : Pos} {f : FQ} (h : PQ X e f) : PQ X (.UnaryOp .USub e pos) (q1 dNeg f) := by
  obtain ⟨te, p, k⟩ := h
  refine ⟨_, pe_un un_neg p, fun σ W ρ μ F S d hd Q q => ?_⟩
  obtain ⟨x, e1, hd⟩ := bind_some hd
  refine k σ W ρ μ F S x e1 _ fun v W1 G x1 r1 => ?_
  cases x with
  | int i =>
    cases hd
    obtain ⟨rfl, _⟩ := r1
    exact ⟨i, rfl, q _ W1 [] x1 ⟨rfl, rfl⟩⟩
  | _ => cases hd
theorem q1_eq (o : D → Option D) (f : FQ) (x0 : D) (ρ μ : List D) : q1 o f (x0 :: ρ) μ = (f (x0 :: ρ) μ).bind o := rfl
theorem dNeg_int (i : Int) : dNeg (.int i) = some (.int (-i)) := rfl
end Fw
/-! # slots seen otherwise: what is not asked any more is wiped; runs without a promise -/
namespace Fw
open PySem PySem.Spec PyProof.Rows L2
open Evl (Ex)
/-- slots may be seen so: the world stays -/
def Rly (p : List D → List D) : Prop := ∀ (K : PySem.W.Frag) (W : Wd) (σ : L2.St) (ρ μ : List D) (F : List Addr), Sta K W σ ρ μ F → ∃ W' F', W'.H = W.H ∧ Sta K W' σ (p ρ) μ F' ∧ Mv W W' F F'
theorem rly_id : Rly fun ρ => ρ := fun _ W _ _ _ F S => ⟨W, F, rfl, S, (Ext.refl S.ok).mvr⟩
theorem Rly.comp {p q : List D → List D} (hp : Rly p) (hq : Rly q) : Rly fun ρ => q (p ρ) := fun K W σ ρ μ F S => by
  obtain ⟨W1, F1, e1, S1, m1⟩ := hp K W σ ρ μ F S
  obtain ⟨W2, F2, e2, S2, m2⟩ := hq K W1 σ _ μ F1 S1
  exact ⟨W2, F2, e2.trans e1, S2, m1.trans m2⟩
theorem set_oob {α : Type} {l : List α} {i : Nat} {x : α} (h : l.length ≤ i) : l.set i x = l := List.set_eq_of_length_le h
theorem rly_un (i : Nat) : Rly fun ρ => ρ.set i .un := fun K W σ ρ μ F S => by
  have hl := S.len
  by_cases hi : i < σ.length
  · have g : R1 K W .un (σ[i]) [] := rfl
    obtain ⟨F', S', sub⟩ := S.set (i := i) g
    have e : σ.set i σ[i] = σ := set_self (List.getElem?_eq_getElem hi)
    rw [e] at S'
    exact ⟨W, F', rfl, S', (Ext.refl S.ok).mv sub⟩
  · refine ⟨W, F, rfl, ?_, (Ext.refl S.ok).mvr⟩
    have e : ρ.set i .un = ρ := set_oob (by omega)
    show Sta K W σ (ρ.set i .un) μ F
    rw [e]
    exact S
theorem rly_wipe : ∀ vs : List Nat, Rly fun ρ => wipeD ρ vs
  | [] => rly_id
  | v :: vs => (rly_wipe vs).comp (rly_un v)
theorem rly_fz (i : Nat) : Rly (fzAt i) := fun K W σ ρ μ F S => S.fz i
/-- what stands behind a statement, seen so -/
def postO (p : List D → List D) : SO → SO
  | .nx ρ μ => .nx (p ρ) μ
  | .ct ρ μ => .ct (p ρ) μ
  | .bk ρ μ => .bk (p ρ) μ
  | o => o
def fPost (p : List D → List D) (f : FS) : FS := fun ρ μ => (f ρ μ).map (postO p)
def fPre (p : List D → List D) (f : FS) : FS := fun ρ μ => f (p ρ) μ
theorem Goes.post {p : List D → List D} (hp : Rly p) {K : PySem.W.Frag} {ob : List Nat} {Wx : WX} {E : Ends} {σ : L2.St} {W : Wd} {F : List Addr} {o : SO} (h : Goes K ob Wx E σ W F (postO p o)) : Goes K ob Wx E σ W F o := by
  cases o with
  | nx ρ μ =>
    intro σ' W' F' S m k
    obtain ⟨W2, F2, e, S2, m2⟩ := hp K W' σ' ρ μ F' S
    have := h σ' W2 F2 S2 (m.trans m2) k
    rw [e] at this
    exact this
  | ct ρ μ =>
    intro σ' W' F' S m k
    obtain ⟨W2, F2, e, S2, m2⟩ := hp K W' σ' ρ μ F' S
    have := h σ' W2 F2 S2 (m.trans m2) k
    rw [e] at this
    exact this
  | bk ρ μ =>
    intro σ' W' F' S m k
    obtain ⟨W2, F2, e, S2, m2⟩ := hp K W' σ' ρ μ F' S
    have := h σ' W2 F2 S2 (m.trans m2) k
    rw [e] at this
    exact this
  | rt d ρ μ => exact h
  | ex c fs ρ μ => exact h
section
variable {X : Cx} {ob : List Nat} {Wx : WX} {st : Stmt} {ss : List Stmt} {f : FS} {p : List D → List D}
theorem pss_post (hp : Rly p) (h : PSS X ob Wx ss f) : PSS X ob Wx ss (fPost p f) := by
  obtain ⟨ts, q, k⟩ := h
  refine ⟨ts, q, fun E σ W ρ μ F S o ho hg => ?_⟩
  obtain ⟨o', e, rfl⟩ := map_some ho
  exact k E σ W ρ μ F S o' e (Goes.post hp hg)
theorem ps1_post (hp : Rly p) (h : PS1 X ob Wx st f) : PS1 X ob Wx st (fPost p f) := by
  obtain ⟨ts, q, k⟩ := h
  refine ⟨ts, q, fun E σ W ρ μ F S o ho hg => ?_⟩
  obtain ⟨o', e, rfl⟩ := map_some ho
  exact k E σ W ρ μ F S o' e (Goes.post hp hg)
theorem ps1_pre (hp : Rly p) (h : PS1 X ob Wx st f) : PS1 X ob Wx st (fPre p f) := by
  obtain ⟨ts, q, k⟩ := h
  refine ⟨ts, q, fun E σ W ρ μ F S o ho hg => ?_⟩
  obtain ⟨W2, F2, e, S2, m2⟩ := hp X.K W σ ρ μ F S
  have := k E σ W2 (p ρ) μ F2 S2 o ho (hg.after m2 Kept.refl)
  rw [e] at this
  exact this
/-- slots wiped behind, ahead -/
abbrev fWp (vs : List Nat) (f : FS) : FS := fPost (fun ρ => wipeD ρ vs) f
abbrev fPw (vs : List Nat) (f : FS) : FS := fPre (fun ρ => wipeD ρ vs) f
abbrev fPf (i : Nat) (f : FS) : FS := fPost (fzAt i) f
theorem pss_wp (vs : List Nat) (h : PSS X ob Wx ss f) : PSS X ob Wx ss (fWp vs f) := pss_post (rly_wipe vs) h
theorem ps1_wp (vs : List Nat) (h : PS1 X ob Wx st f) : PS1 X ob Wx st (fWp vs f) := ps1_post (rly_wipe vs) h
theorem ps1_pw (vs : List Nat) (h : PS1 X ob Wx st f) : PS1 X ob Wx st (fPw vs f) := ps1_pre (rly_wipe vs) h
theorem ps1_pf (i : Nat) (h : PS1 X ob Wx st f) : PS1 X ob Wx st (fPf i f) := ps1_post (rly_fz i) h
end
/-! ### runs that promise nothing -/
theorem fnok_no {P : Program} {w : World} {K : PySem.W.Frag} {mg : Str → Option Value} {base : Heap} {CX : CXT} {k : Nat} {f : Addr} {fd : FuncData} {ps : List Str} {sp : Sp} (h : ∀ vs H Q E, ¬ sp vs H Q E) : FnOk P w K mg base CX k f fd ps sp :=
  ⟨fun vs H Q E q => (h vs H Q E q).elim, fun A outer s H args us vs Q E hr he hb hv hs => (h vs H Q E hs).elim⟩
theorem spQ_no {K : PySem.W.Frag} {n : Nat} : ∀ vs H Q E, ¬ spQ K n (fun _ => none) vs H Q E := by
  rintro vs H Q E ⟨W, ds, d, _, _, _, _, _, _, h, _⟩
  cases h
theorem spF_no {K : PySem.W.Frag} {n : Nat} : ∀ vs H Q E, ¬ spF K n (fun _ _ => none) vs H Q E := by
  rintro vs H Q E ⟨W, ds, μ, d, _, _, _, _, _, h, _⟩
  cases h
theorem spX_no {K : PySem.W.Frag} {n : Nat} : ∀ vs H Q E, ¬ spX K n (fun _ _ => none) vs H Q E := by
  rintro vs H Q E ⟨W, ds, μ, F, o, _, _, _, h, _⟩
  cases h
end Fw
/-! # a mirror reckoned: the rules as one -/
namespace Fw
open PySem PySem.Spec PyProof.Rows L2
/-! ### a choice is handed on -/
section
variable {c : Prop} [Decidable c]
def postK (p : List D → List D) (o : Option SO) : Option SO := o.map (postO p)
theorem seqK_ite (a b : Option SO) (g : FS) : seqK (if c then a else b) g = if c then seqK a g else seqK b g := by split <;> rfl
theorem turnK_ite (a b : Option SO) (g : D → List D → Option (List D)) (f : FS) (ds : List D) : turnK g f ds (if c then a else b) = if c then turnK g f ds a else turnK g f ds b := by split <;> rfl
theorem endK_ite (a b : Option SO) : endK (if c then a else b) = if c then endK a else endK b := by split <;> rfl
theorem rF_ite (a b : Option SO) : rF (if c then a else b) = if c then rF a else rF b := by split <;> rfl
theorem rX_ite (a b : Option SO) (ks : List Bool) (ds : List D) : rX ks ds (if c then a else b) = if c then rX ks ds a else rX ks ds b := by split <;> rfl
theorem varK_ite (a b : Option D) : varK (if c then a else b) = if c then varK a else varK b := by split <;> rfl
theorem blK_ite (a b : Option D) : blK (if c then a else b) = if c then blK a else blK b := by split <;> rfl
theorem andK_ite (a b r : Option D) : andK (if c then a else b) r = if c then andK a r else andK b r := by split <;> rfl
theorem orK_ite (a b r : Option D) : orK (if c then a else b) r = if c then orK a r else orK b r := by split <;> rfl
theorem notK_ite (a b : Option D) : notK (if c then a else b) = if c then notK a else notK b := by split <;> rfl
theorem osK_ite (a b : Option D) : osK (if c then a else b) = if c then osK a else osK b := by split <;> rfl
theorem m0K_ite (a b : Option D) (o : List Nat → List D → Option D) : m0K o (if c then a else b) = if c then m0K o a else m0K o b := by split <;> rfl
theorem m1K_ite (a b r : Option D) (o : List Nat → List D → Option D) : m1K o (if c then a else b) r = if c then m1K o a r else m1K o b r := by split <;> rfl
theorem rgK_ite (a b : Option D) : rgK (if c then a else b) = if c then rgK a else rgK b := by split <;> rfl
theorem eB_ite (a b : Option EO) (k : D → FX) : eB (if c then a else b) k = if c then eB a k else eB b k := by split <;> rfl
theorem eT_ite (a b : Option EO) (k : Bool → FX) : eT (if c then a else b) k = if c then eT a k else eT b k := by split <;> rfl
theorem eS_ite (a b : Option EO) (k : D → FS) : eS (if c then a else b) k = if c then eS a k else eS b k := by split <;> rfl
theorem aB_ite (a b : Option AO) (k : List AV → List D → List D → Option EO) : aB (if c then a else b) k = if c then aB a k else aB b k := by split <;> rfl
theorem eA_ite (a b : Option EO) (k : D → List D → List D → Option AO) : eA (if c then a else b) k = if c then eA a k else eA b k := by split <;> rfl
theorem aoCons_ite (a b : Option AO) (x : AV) : aoCons x (if c then a else b) = if c then aoCons x a else aoCons x b := by split <;> rfl
theorem postK_ite (a b : Option SO) (p : List D → List D) : postK p (if c then a else b) = if c then postK p a else postK p b := by split <;> rfl
theorem bind_ite {α β : Type} (a b : Option α) (f : α → Option β) : (if c then a else b).bind f = if c then a.bind f else b.bind f := by split <;> rfl
theorem map_ite {α β : Type} (a b : Option α) (f : α → β) : (if c then a else b).map f = if c then a.map f else b.map f := by split <;> rfl
theorem ite_some {α : Type} (a b : α) : (if c then some a else some b) = some (if c then a else b) := by split <;> rfl
end
theorem fPost_eq (p : List D → List D) (f : FS) (x0 : D) (ρ μ : List D) : fPost p f (x0 :: ρ) μ = postK p (f (x0 :: ρ) μ) := rfl
theorem fPre_eq (p : List D → List D) (f : FS) (x0 : D) (ρ μ : List D) : fPre p f (x0 :: ρ) μ = f (p (x0 :: ρ)) μ := rfl
theorem postK_nx (p : List D → List D) (ρ μ : List D) : postK p (some (.nx ρ μ)) = some (.nx (p ρ) μ) := rfl
theorem postK_rt (p : List D → List D) (d : D) (ρ μ : List D) : postK p (some (.rt d ρ μ)) = some (.rt d ρ μ) := rfl
theorem postK_ex (p : List D → List D) (c : Str) (fs : List (Str × D)) (ρ μ : List D) : postK p (some (.ex c fs ρ μ)) = some (.ex c fs ρ μ) := rfl
theorem fzAt_eq (i : Nat) (x0 : D) (ρ : List D) : fzAt i (x0 :: ρ) = fzK i (x0 :: ρ) (x0 :: ρ)[i]? := rfl
theorem fzK_lst (i : Nat) (ρ ds : List D) : fzK i ρ (some (.lst ds)) = ρ := rfl
/-! ### and, or where the second is asked or not -/
theorem andK_r (b : Bool) (r : Option D) : andK (some (.bl b)) r = if b = true then r else some (.bl false) := by cases b <;> rfl
theorem orK_r (b : Bool) (r : Option D) : orK (some (.bl b)) r = if b = true then some (.bl true) else r := by cases b <;> rfl
/-! ### sizes -/
theorem LIM_eq : LIM = 1000000 := rfl
theorem lk {n : Nat} (h : n ≤ 1000000) : n ≤ LIM := h
theorem dAdd_strK {a b : List Nat} (h : a.length + b.length ≤ 1000000) : dAdd (.str a) (.str b) = some (.str (a ++ b)) := by rw [dAdd_str, if_pos (lk h)]
theorem dIAdd_strK {a b : List Nat} (h : a.length + b.length ≤ 1000000) : dIAdd (.str a) (.str b) = some (.str (a ++ b)) := if_pos h
theorem dIAdd_int (a b : Int) : dIAdd (.int a) (.int b) = some (.int (a + b)) := rfl
theorem dAdd_lstK {a b : List D} (h : a.length + b.length ≤ 1000000) : dAdd (.lst a) (.lst b) = some (.lst (a ++ b)) := by rw [dAdd_lst, if_pos (lk h)]
theorem dAdd_mlstK {a b : List D} (h : dataL a = true) (h' : a.length + b.length ≤ 1000000) : dAdd (.ml a) (.lst b) = some (.lst (a ++ b)) := by rw [dAdd_mlst, if_pos h, if_pos (lk h')]
theorem dAdd_tupK {a b : List D} (h : a.length + b.length ≤ 1000000) (h1 : dataL a = true) (h2 : dataL b = true) : dAdd (.tup a) (.tup b) = some (.tup (a ++ b)) := by rw [dAdd_tup, if_pos ⟨lk h, h1, h2⟩]
theorem dLen_strK {s : List Nat} (h : s.length ≤ 1000000) : dLen (.str s) = some (.int s.length) := by rw [dLen_str, if_pos (lk h)]
theorem dSl_strK {s : List Nat} {lo hi : Option Int} (h : s.length ≤ 1000000) : dSl (.str s) lo hi = some (.str (cut s lo hi)) := by rw [dSl_str, if_pos (lk h)]
theorem dSl_tupK {ds : List D} {lo hi : Option Int} (h : dataL ds = true) : dSl (.tup ds) lo hi = some (.tup (cut ds lo hi)) := by rw [dSl_tup, if_pos h]
theorem itemsF_tupK {ds : List D} (h : dataL ds = true) : itemsF (.tup ds) = some ds := if_pos h
theorem itemsQ_tupK {ds : List D} (h : dataL ds = true) : itemsQ (.tup ds) = some ds := if_pos h
theorem itemsQ_mlK {ds : List D} (h : dataL ds = true) : itemsQ (.ml ds) = some ds := if_pos h
theorem rgK_intK {j : Int} (h : -1000000000000000000 ≤ j ∧ j < 1000000000000000000) : rgK (some (.int j)) = some (rangeD 0 j) := by
  rw [rgK_int, if_pos (small62_of (by omega) (by omega))]
theorem rg2K_intK {i j : Int} (h : -1000000000000000000 ≤ i ∧ i < 1000000000000000000) (h' : -1000000000000000000 ≤ j ∧ j < 1000000000000000000) : rg2K (.int i) (.int j) = some (rangeD i j) := by
  rw [rg2K_int, if_pos ⟨small62_of (by omega) (by omega), small62_of (by omega) (by omega)⟩]
theorem dSub_int (i j : Int) : dSub (.int i) (.int j) = some (.int (i - j)) := rfl
theorem dMul_intK {i j : Int} (h : (-18446744073709551616 < i ∧ i < 18446744073709551616) ∨ (-18446744073709551616 < j ∧ j < 18446744073709551616)) : dMul (.int i) (.int j) = some (.int (i * j)) := if_pos (c := cMul i j = true) (decide_eq_true h)
theorem dMod_intK {i j : Int} (h : 0 < j) : dMod (.int i) (.int j) = some (.int (i % j)) := if_pos (c := decide (0 < j) = true) (decide_eq_true h)
theorem dFdiv_intK {i j : Int} (h : 0 < j ∧ j < 1073741824) : dFdiv (.int i) (.int j) = some (.int (i / j)) := if_pos (c := decide (0 < j ∧ j < 1073741824) = true) (decide_eq_true h)
theorem dDivmod_intK {i j : Int} (h : 0 < j ∧ j < 1073741824) : dDivmod (.int i) (.int j) = some (.tup [.int (i / j), .int (i % j)]) := if_pos h
theorem log2_small {i : Int} (h : -1000000000000000000 ≤ i ∧ i < 1000000000000000000) : i.natAbs.log2 < 1920 := by
  have h1 : i.natAbs < 2 ^ 64 := by omega
  by_cases z : i.natAbs = 0
  · rw [z]; decide
  · exact Nat.lt_trans ((Nat.log2_lt z).mpr h1) (by decide)
theorem dStrI_intK {i : Int} (h : -1000000000000000000 ≤ i ∧ i < 1000000000000000000) : dStrI (.int i) = some (.str (ofS (toString i))) := if_pos (log2_small h)
/-! ### items -/
theorem ixAt_lit {α : Type} (xs : List α) (n : Nat) : ixAt xs (OfNat.ofNat n : Int) = xs[n]? := ixAt_nat xs n
theorem ixAt_natc {α : Type} (xs : List α) (n : Nat) : ixAt xs (n : Int) = xs[n]? := ixAt_nat xs n
theorem ixAt_m1 {α : Type} (xs : List α) : ixAt xs (-1) = xs.getLast? := by
  unfold ixAt
  rw [if_neg (by decide), List.getLast?_eq_getElem?]
  cases xs with
  | nil => rfl
  | cons x xs =>
    rw [if_pos (by simp only [List.length_cons]; omega)]
    congr 1
    simp only [List.length_cons]
    omega
theorem ixAt_in {α : Type} [Inhabited α] {xs : List α} {i : Int} (h0 : 0 ≤ i) (h1 : i < (xs.length : Int)) : ixAt xs i = some (xs.getD i.toNat default) := by
  rw [ixAt_pos h0, List.getD_eq_getElem?_getD]
  have h : i.toNat < xs.length := by omega
  rw [List.getElem?_eq_getElem h]
  rfl
theorem dIx_strL (s : List Nat) (n : Nat) (h : s.length ≤ 1000000) : dIx (.str s) (.int (OfNat.ofNat n : Int)) = (s[n]?).map fun c => .str [c] := by rw [dIx_str, if_pos (lk h), ixAt_lit]
theorem dIx_strM (s : List Nat) (h : s.length ≤ 1000000) : dIx (.str s) (.int (-1)) = (s.getLast?).map fun c => .str [c] := by rw [dIx_str, if_pos (lk h), ixAt_m1]
theorem dIx_strI {s : List Nat} {i : Int} (h : s.length ≤ 1000000) (h0 : 0 ≤ i) (h1 : i < (s.length : Int)) : dIx (.str s) (.int i) = some (.str [s.getD i.toNat default]) := by rw [dIx_str, if_pos (lk h), ixAt_in h0 h1]; rfl
theorem ixAt_maps {α β : Type} (f : α → β) (xs : List α) (i : Int) : ixAt (xs.map f) i = (ixAt xs i).map f := ixAt_map f xs i
/-- a written list of texts, of numbers -/
def strsL : List D → List (List Nat)
  | .str s :: ds => s :: strsL ds
  | _ :: ds => [] :: strsL ds
  | [] => []
def allStr : List D → Bool
  | .str _ :: ds => allStr ds
  | _ :: _ => false
  | [] => true
theorem strsL_of : ∀ {ds : List D}, allStr ds = true → ds = (strsL ds).map D.str
  | [], _ => rfl
  | .str s :: ds, h => by
    show _ = D.str s :: (strsL ds).map D.str
    rw [← strsL_of (ds := ds) h]
  | .non :: _, h => nomatch h
  | .bl _ :: _, h => nomatch h
  | .int _ :: _, h => nomatch h
  | .tup _ :: _, h => nomatch h
  | .lst _ :: _, h => nomatch h
  | .ml _ :: _, h => nomatch h
  | .obj _ _ _ :: _, h => nomatch h
  | .fo _ _ _ :: _, h => nomatch h
  | .ref _ :: _, h => nomatch h
  | .un :: _, h => nomatch h
theorem strsL_nil : strsL [] = [] := rfl
theorem strsL_cons (s : List Nat) (ds : List D) : strsL (.str s :: ds) = s :: strsL ds := rfl
theorem allStr_nil : allStr [] = true := rfl
theorem allStr_cons (s : List Nat) (ds : List D) : allStr (.str s :: ds) = allStr ds := rfl
theorem ixAt_strs {d : D} {ds : List D} {i : Int} (h : allStr (d :: ds) = true) (h0 : 0 ≤ i) (h1 : i < ((strsL (d :: ds)).length : Int)) : ixAt (d :: ds) i = some (.str ((strsL (d :: ds)).getD i.toNat default)) := by
  have e := ixAt_map D.str (strsL (d :: ds)) i
  rw [← strsL_of h, ixAt_in h0 h1] at e
  exact e
def intsL : List D → List Int
  | .int s :: ds => s :: intsL ds
  | _ :: ds => 0 :: intsL ds
  | [] => []
def allInt : List D → Bool
  | .int _ :: ds => allInt ds
  | _ :: _ => false
  | [] => true
theorem intsL_of : ∀ {ds : List D}, allInt ds = true → ds = (intsL ds).map D.int
  | [], _ => rfl
  | .int s :: ds, h => by
    show _ = D.int s :: (intsL ds).map D.int
    rw [← intsL_of (ds := ds) h]
  | .non :: _, h => nomatch h
  | .bl _ :: _, h => nomatch h
  | .str _ :: _, h => nomatch h
  | .tup _ :: _, h => nomatch h
  | .lst _ :: _, h => nomatch h
  | .ml _ :: _, h => nomatch h
  | .obj _ _ _ :: _, h => nomatch h
  | .fo _ _ _ :: _, h => nomatch h
  | .ref _ :: _, h => nomatch h
  | .un :: _, h => nomatch h
theorem intsL_nil : intsL [] = [] := rfl
theorem intsL_cons (s : Int) (ds : List D) : intsL (.int s :: ds) = s :: intsL ds := rfl
theorem allInt_nil : allInt [] = true := rfl
theorem allInt_cons (s : Int) (ds : List D) : allInt (.int s :: ds) = allInt ds := rfl
theorem ixAt_ints {d : D} {ds : List D} {i : Int} (h : allInt (d :: ds) = true) (h0 : 0 ≤ i) (h1 : i < ((intsL (d :: ds)).length : Int)) : ixAt (d :: ds) i = some (.int ((intsL (d :: ds)).getD i.toNat default)) := by
  have e := ixAt_map D.int (intsL (d :: ds)) i
  rw [← intsL_of h, ixAt_in h0 h1] at e
  exact e
/-! ### data -/
theorem data_non : data .non = true := rfl
theorem data_bl (b : Bool) : data (.bl b) = true := rfl
theorem data_int (b : Int) : data (.int b) = true := rfl
theorem data_str (b : List Nat) : data (.str b) = true := rfl
theorem data_tup (ds : List D) : data (.tup ds) = dataL ds := rfl
theorem data_lst (ds : List D) : data (.lst ds) = dataL ds := rfl
theorem data_ml (ds : List D) : data (.ml ds) = false := rfl
theorem data_obj (c : Str) (ns : List Str) (ds : List D) : data (.obj c ns ds) = false := rfl
theorem data_fo (c : Str) (ns : List Str) (ds : List D) : data (.fo c ns ds) = false := rfl
theorem data_ref (k : Nat) : data (.ref k) = false := rfl
theorem dataL_nil : dataL [] = true := rfl
theorem dataL_cons (d : D) (ds : List D) : dataL (d :: ds) = (data d && dataL ds) := rfl
theorem dataL_append : ∀ a b : List D, dataL (a ++ b) = (dataL a && dataL b)
  | [], b => rfl
  | d :: a, b => by
    rw [List.cons_append, dataL_cons, dataL_cons, dataL_append a b, Bool.and_assoc]
theorem dataL_map {α : Type} {f : α → D} (h : ∀ a, data (f a) = true) : ∀ as : List α, dataL (as.map f) = true
  | [] => rfl
  | a :: as => by
    rw [List.map_cons, dataL_cons, h, dataL_map h as]
    rfl
theorem flL_data : ∀ {ds : List D}, dataL ds = true → flL ds = true
  | [], _ => rfl
  | d :: ds, h => by
    rw [dataL_cons, Bool.and_eq_true] at h
    rw [flL_cons, Bool.and_eq_true]
    exact ⟨by cases d <;> first | rfl | exact h.1, flL_data h.2⟩
theorem fz_fz : ∀ d : D, fz (fz d) = fz d := by
  intro d
  cases d with
  | tup ds => rw [fz_tup, fz_tup]; congr 1; exact go ds
  | lst ds => rw [fz_lst, fz_lst]; congr 1; exact go ds
  | ml ds => rw [fz_ml, fz_lst]; congr 1; exact go ds
  | obj c ns ds => rw [fz_obj, fz_fo]; congr 1; exact go ds
  | fo c ns ds => rw [fz_fo, fz_fo]; congr 1; exact go ds
  | _ => rfl
where go : ∀ ds : List D, fzL (fzL ds) = fzL ds
  | [] => rfl
  | d :: ds => by rw [fzL_cons, fzL_cons, fz_fz d, go ds]
theorem fzL_fzL : ∀ ds : List D, fzL (fzL ds) = fzL ds
  | [] => rfl
  | d :: ds => by rw [fzL_cons, fzL_cons, fz_fz d, fzL_fzL ds]
theorem fz_bls : fz .un = .un := rfl
/-! ### texts of one sign -/
theorem ltS (c d : Nat) : (([c] : List Nat) < [d]) ↔ c < d := by simp [List.cons_lt_cons_iff]
theorem dLe_sign (c d : Nat) : dLe (.str [c]) (.str [d]) = some (.bl (decide (c ≤ d))) := by
  rw [dLe_str]
  by_cases h : c ≤ d
  · rw [decide_eq_true h, decide_eq_false (by rw [ltS]; omega)]; rfl
  · rw [decide_eq_false h, decide_eq_true (by rw [ltS]; omega)]; rfl
theorem dIn_signK (c : Nat) (z : List Nat) : dIn (.str [c]) (.str z) = some (.bl (decide (c ∈ z))) := dIn_sign c z
theorem dNotIn_signK (c : Nat) (z : List Nat) : dNotIn (.str [c]) (.str z) = some (.bl (!decide (c ∈ z))) := dNotIn_sign c z

/-! ### lazy: what hangs on a test is not looked at ahead of it -/
def ifB (o : Option Bool) (f g : FS) (ρ μ : List D) : Option SO := o.bind fun b => if b = true then f ρ μ else g ρ μ
theorem fIf_k (t : FB) (f g : FS) (x0 : D) (ρ μ : List D) : fIf t f g (x0 :: ρ) μ = ifB (t (x0 :: ρ) μ) f g (x0 :: ρ) μ := rfl
theorem ifB_b (b : Bool) (f g : FS) (ρ μ : List D) : ifB (some b) f g ρ μ = if b = true then f ρ μ else g ρ μ := rfl
def ifQ (o : Option Bool) (f g : FQ) (ρ μ : List D) : Option D := o.bind fun b => if b = true then f ρ μ else g ρ μ
theorem qIf_k (t : FB) (f g : FQ) (x0 : D) (ρ μ : List D) : qIf t f g (x0 :: ρ) μ = ifQ (t (x0 :: ρ) μ) f g (x0 :: ρ) μ := rfl
theorem ifQ_b (b : Bool) (f g : FQ) (ρ μ : List D) : ifQ (some b) f g ρ μ = if b = true then f ρ μ else g ρ μ := rfl
def anB (o : Option Bool) (g : FB) (ρ μ : List D) : Option Bool := o.bind fun b => if b = true then g ρ μ else some false
def orB (o : Option Bool) (g : FB) (ρ μ : List D) : Option Bool := o.bind fun b => if b = true then some true else g ρ μ
theorem bAnd_k (t u : FB) (x0 : D) (ρ μ : List D) : bAnd t u (x0 :: ρ) μ = anB (t (x0 :: ρ) μ) u (x0 :: ρ) μ := rfl
theorem bOr_k (t u : FB) (x0 : D) (ρ μ : List D) : bOr t u (x0 :: ρ) μ = orB (t (x0 :: ρ) μ) u (x0 :: ρ) μ := rfl
theorem anB_b (b : Bool) (g : FB) (ρ μ : List D) : anB (some b) g ρ μ = if b = true then g ρ μ else some false := rfl
theorem orB_b (b : Bool) (g : FB) (ρ μ : List D) : orB (some b) g ρ μ = if b = true then some true else g ρ μ := rfl
def anQ (o : Option D) (g : FQ) (ρ μ : List D) : Option D := andK o (g ρ μ)
def orQ (o : Option D) (g : FQ) (ρ μ : List D) : Option D := orK o (g ρ μ)
theorem qAnd_k (f g : FQ) (x0 : D) (ρ μ : List D) : qAnd f g (x0 :: ρ) μ = anQ (f (x0 :: ρ) μ) g (x0 :: ρ) μ := qAnd_eq f g x0 ρ μ
theorem qOr_k (f g : FQ) (x0 : D) (ρ μ : List D) : qOr f g (x0 :: ρ) μ = orQ (f (x0 :: ρ) μ) g (x0 :: ρ) μ := qOr_eq f g x0 ρ μ
theorem anQ_b (b : Bool) (g : FQ) (ρ μ : List D) : anQ (some (.bl b)) g ρ μ = if b = true then g ρ μ else some (.bl false) := by cases b <;> rfl
theorem orQ_b (b : Bool) (g : FQ) (ρ μ : List D) : orQ (some (.bl b)) g ρ μ = if b = true then some (.bl true) else g ρ μ := by cases b <;> rfl
def ch1 (o o' : D → D → Option D) (x y : Option D) (h : FQ) (ρ μ : List D) : Option D := x.bind fun x => y.bind fun y => andK (o x y) ((h ρ μ).bind fun z => o' y z)
theorem q3_k (o o' : D → D → Option D) (f g h : FQ) (x0 : D) (ρ μ : List D) : q3 o o' f g h (x0 :: ρ) μ = ch1 o o' (f (x0 :: ρ) μ) (g (x0 :: ρ) μ) h (x0 :: ρ) μ := q3_eq o o' f g h x0 ρ μ
def ch2 (o' : D → D → Option D) (r : Option D) (y : D) (h : FQ) (ρ μ : List D) : Option D := andK r ((h ρ μ).bind fun z => o' y z)
theorem ch1_s (o o' : D → D → Option D) (x y : D) (h : FQ) (ρ μ : List D) : ch1 o o' (some x) (some y) h ρ μ = ch2 o' (o x y) y h ρ μ := rfl
theorem ch2_b (o' : D → D → Option D) (b : Bool) (y : D) (h : FQ) (ρ μ : List D) : ch2 o' (some (.bl b)) y h ρ μ = if b = true then (h ρ μ).bind fun z => o' y z else some (.bl false) := by cases b <;> rfl
section
variable {c : Prop} [Decidable c]
theorem ifB_ite (a b : Option Bool) (f g : FS) (ρ μ : List D) : ifB (if c then a else b) f g ρ μ = if c then ifB a f g ρ μ else ifB b f g ρ μ := by split <;> rfl
theorem ifQ_ite (a b : Option Bool) (f g : FQ) (ρ μ : List D) : ifQ (if c then a else b) f g ρ μ = if c then ifQ a f g ρ μ else ifQ b f g ρ μ := by split <;> rfl
theorem anB_ite (a b : Option Bool) (g : FB) (ρ μ : List D) : anB (if c then a else b) g ρ μ = if c then anB a g ρ μ else anB b g ρ μ := by split <;> rfl
theorem orB_ite (a b : Option Bool) (g : FB) (ρ μ : List D) : orB (if c then a else b) g ρ μ = if c then orB a g ρ μ else orB b g ρ μ := by split <;> rfl
theorem anQ_ite (a b : Option D) (g : FQ) (ρ μ : List D) : anQ (if c then a else b) g ρ μ = if c then anQ a g ρ μ else anQ b g ρ μ := by split <;> rfl
theorem orQ_ite (a b : Option D) (g : FQ) (ρ μ : List D) : orQ (if c then a else b) g ρ μ = if c then orQ a g ρ μ else orQ b g ρ μ := by split <;> rfl
theorem ch2_ite (o' : D → D → Option D) (a b : Option D) (y : D) (h : FQ) (ρ μ : List D) : ch2 o' (if c then a else b) y h ρ μ = if c then ch2 o' a y h ρ μ else ch2 o' b y h ρ μ := by split <;> rfl
/-! ### a truth out of a choice -/
theorem ite_bl0 (b : Bool) : (if c then some (D.bl b) else some (.bl false)) = some (.bl (decide c && b)) := by split <;> simp [*]
theorem ite_bl1 (b : Bool) : (if c then some (D.bl true) else some (.bl b)) = some (.bl (decide c || b)) := by split <;> simp [*]
theorem ite_bl2 (b : Bool) : (if c then some (D.bl false) else some (.bl b)) = some (.bl (!decide c && b)) := by split <;> simp [*]
theorem ite_bl3 (b : Bool) : (if c then some (D.bl b) else some (.bl true)) = some (.bl (!decide c || b)) := by split <;> simp [*]
theorem ite_b0 (b : Bool) : (if c then some b else some false) = some (decide c && b) := by split <;> simp [*]
theorem ite_b1 (b : Bool) : (if c then some true else some b) = some (decide c || b) := by split <;> simp [*]
theorem ite_b2 (b : Bool) : (if c then some false else some b) = some (!decide c && b) := by split <;> simp [*]
theorem ite_b3 (b : Bool) : (if c then some b else some true) = some (!decide c || b) := by split <;> simp [*]
end
theorem natc_add (m n : Nat) : ((m + n : Nat) : Int) = (m : Int) + (n : Int) := Int.natCast_add m n
def kset := And.intro (And.intro (And.intro (And.intro (And.intro (And.intro (And.intro (And.intro (@runQ_eq) (@fSeq_eq)) (And.intro (@seqK_nx) (And.intro (@seqK_rt) (@seqK_ex)))) (And.intro (And.intro (@turnK_nx) (And.intro (@turnK_rt) (@endK_rt))) (And.intro (@endK_nx) (And.intro (@qVar_zero) (@qVar_succ))))) (And.intro (And.intro (And.intro (@varK_int) (And.intro (@varK_str) (@varK_bl))) (And.intro (@varK_non) (And.intro (@varK_tup) (@varK_lst)))) (And.intro (And.intro (@varK_ml) (And.intro (@qB_eq) (@blK_bl))) (And.intro (@qNot_eq) (And.intro (@notK_b) (@fApp_eq)))))) (And.intro (And.intro (And.intro (And.intro (@fFz_eq) (And.intro (@fzK_ml) (@aR1_eq))) (And.intro (@aR2_eq) (And.intro (@oSome_eq) (@osK_int)))) (And.intro (And.intro (@oNone_eq) (And.intro (@qM1_eq) (@m1K_str))) (And.intro (@qM0_eq) (And.intro (@m0K_str) (@dAdd_int))))) (And.intro (And.intro (And.intro (@dEq_int) (And.intro (@dNe_int) (@dEq_str))) (And.intro (@dNe_str) (And.intro (@dLt_int) (@dLe_int)))) (And.intro (And.intro (@dGt_int) (And.intro (@dGe_int) (@dLen_lst))) (And.intro (@dLen_ml) (And.intro (@dLen_tup) (@o1_eq))))))) (And.intro (And.intro (And.intro (And.intro (And.intro (@o2_eq) (And.intro (@oStr_eq) (@itemsF_lst))) (And.intro (@itemsF_str) (And.intro (@dSl_lst) (@qC_eq)))) (And.intro (And.intro (@q2_eq) (And.intro (@qTup_eq) (@qN_eq))) (And.intro (@qSl_eq) (And.intro (@qCall_eq) (@qRun_eq))))) (And.intro (And.intro (And.intro (@qIsi_eq) (And.intro (@aNil_eq) (@aCons_eq))) (And.intro (@aData_eq) (And.intro (@aF_eq) (@aQ_eq)))) (And.intro (And.intro (@bNot_eq) (And.intro (@fNext_eq) (@fSet_eq))) (And.intro (@fSetN_eq) (And.intro (@fSetT_eq) (@fRet_eq)))))) (And.intro (And.intro (And.intro (And.intro (@fRetN_eq) (And.intro (@fFor_eq) (@fAug_eq))) (And.intro (@tgN_eq) (And.intro (@tgT_eq) (@tgs_cons)))) (And.intro (And.intro (@tgs_nil) (And.intro (@dataL_ints) (@dataL_strs))) (And.intro (@xB_eq) (And.intro (@eB_ok) (@eB_ex))))) (And.intro (And.intro (And.intro (@xT_eq) (And.intro (@eT_bl) (@eT_ex))) (And.intro (@xS_eq) (And.intro (@eS_ok) (@eS_ex)))) (And.intro (And.intro (@xQ_eq) (And.intro (@xN_eq) (@xMove_eq))) (And.intro (@xOp_eq) (And.intro (@xNot_eq) (@xAnd_eq)))))))) (And.intro (And.intro (And.intro (And.intro (And.intro (And.intro (@xOr_eq) (And.intro (@xPB_eq) (@xIsi_eq))) (And.intro (@aB_ok) (And.intro (@aB_ex) (@xA_eq)))) (And.intro (And.intro (@xaNil_eq) (And.intro (@eA_ok) (@eA_ex))) (And.intro (@xaCons_eq) (And.intro (@aoCons_ok) (@aoCons_ex))))) (And.intro (And.intro (And.intro (@xaSlot_eq) (And.intro (@avals_nil) (@avals_val))) (And.intro (@xTup_eq) (And.intro (@xCall_eq) (@xRunQ_eq)))) (And.intro (And.intro (@xRun_eq) (And.intro (@xPut_ok) (@xPut_ex))) (And.intro (@mo_nil) (And.intro (@mo_val) (@mo_slot)))))) (And.intro (And.intro (And.intro (And.intro (@mi_nil) (And.intro (@mi_val) (@mi_slot))) (And.intro (@xMethS_eq) (And.intro (@mSK_obj) (@xMethQ_eq)))) (And.intro (And.intro (@mQK_obj) (And.intro (@put1_one) (@pget_nil))) (And.intro (@pget_cons) (And.intro (@pput_nil) (@pput_cons))))) (And.intro (And.intro (And.intro (@qFld_eq) (And.intro (@dFld_obj) (@dFld_fo))) (And.intro (@dFld_ref) (And.intro (@dFo_obj) (@dFo_fo)))) (And.intro (And.intro (@varK_obj) (And.intro (@varK_fo) (@varK_ref))) (And.intro (@qRunF_eq) (And.intro (@qMethF_eq) (@clsOf_obj))))))) (And.intro (And.intro (And.intro (And.intro (And.intro (@clsOf_fo) (And.intro (@clsOf_ref) (@xMake_eq))) (And.intro (@fSetX_eq) (And.intro (@fSetTX_eq) (@fExX_eq)))) (And.intro (And.intro (@fRetX_eq) (And.intro (@ifK_bl) (@fIfX_eq))) (And.intro (@fFldX_eq) (And.intro (@fldK_obj) (@fFldAug_eq))))) (And.intro (And.intro (And.intro (@xAug_eq) (And.intro (@iAdd_int) (@iSub_int))) (And.intro (@fRaise_eq) (And.intro (@isUn_obj) (@isUn_fo)))) (And.intro (And.intro (@isUn_ml) (And.intro (@isUn_lst) (@isUn_tup))) (And.intro (@isUn_int) (And.intro (@isUn_str) (@isUn_bl)))))) (And.intro (And.intro (And.intro (And.intro (@isUn_non) (And.intro (@isUn_ref) (@fl_int))) (And.intro (@fl_str) (And.intro (@fl_bl) (@fl_non)))) (And.intro (And.intro (@fl_ref) (And.intro (@fl_tup) (@fl_lst))) (And.intro (@flL_nil) (And.intro (@flL_cons) (@resF_bl))))) (And.intro (And.intro (And.intro (@resF_int) (And.intro (@resF_str) (@resF_non))) (And.intro (@resF_tup) (And.intro (@resF_ml) (@fzL_nil)))) (And.intro (And.intro (@fzL_cons) (And.intro (@fz_int) (@fz_str))) (And.intro (@fz_bl) (And.intro (@fz_non) (@fz_ref))))))))) (And.intro (And.intro (And.intro (And.intro (And.intro (And.intro (And.intro (@fz_tup) (And.intro (@fz_lst) (@fz_ml))) (And.intro (@fz_obj) (And.intro (@fz_fo) (@runF_eq)))) (And.intro (And.intro (@rF_rt) (And.intro (@rF_nx) (@runX_eq))) (And.intro (@rX_rt) (And.intro (@rX_nx) (@rX_ex))))) (And.intro (And.intro (And.intro (@fin_nil) (And.intro (@fin_t) (@fin_f))) (And.intro (@aR3_eq) (And.intro (@dMin_int) (@dMax_int)))) (And.intro (And.intro (@wipeD_nil) (And.intro (@wipeD_cons) (@bYes_eq))) (And.intro (@itemsQ_lst) (And.intro (@itemsQ_str) (@dIs_bl)))))) (And.intro (And.intro (And.intro (And.intro (@dIsNot_bl) (And.intro (@asL_lst) (@noLL_nil))) (And.intro (@noLL_cons) (And.intro (@noL_str) (@noL_int)))) (And.intro (And.intro (@noL_bl) (And.intro (@noL_non) (@noL_tup))) (And.intro (@fzL_strs) (And.intro (@fzL_ints) (@boolsD_map))))) (And.intro (And.intro (And.intro (@q1_eq) (And.intro (@dNeg_int) (@tyN_NoneType))) (And.intro (@tyN_bool) (And.intro (@tyN_int) (@tyN_str)))) (And.intro (And.intro (@tyN_list) (And.intro (@tyN_tuple) (@tyN_ml))) (And.intro (@kitB_NoneType_bool) (And.intro (@kitB_NoneType_int) (@kitB_NoneType_str))))))) (And.intro (And.intro (And.intro (And.intro (And.intro (@kitB_NoneType_list) (And.intro (@kitB_NoneType_tuple) (@kitB_bool_bool))) (And.intro (@kitB_bool_int) (And.intro (@kitB_bool_str) (@kitB_bool_list)))) (And.intro (And.intro (@kitB_bool_tuple) (And.intro (@kitB_int_bool) (@kitB_int_int))) (And.intro (@kitB_int_str) (And.intro (@kitB_int_list) (@kitB_int_tuple))))) (And.intro (And.intro (And.intro (@kitB_str_bool) (And.intro (@kitB_str_int) (@kitB_str_str))) (And.intro (@kitB_str_list) (And.intro (@kitB_str_tuple) (@kitB_list_bool)))) (And.intro (And.intro (@kitB_list_int) (And.intro (@kitB_list_str) (@kitB_list_list))) (And.intro (@kitB_list_tuple) (And.intro (@kitB_tuple_bool) (@kitB_tuple_int)))))) (And.intro (And.intro (And.intro (And.intro (@kitB_tuple_str) (And.intro (@kitB_tuple_list) (@kitB_tuple_tuple))) (And.intro (@fIf_k) (And.intro (@ifB_b) (@qIf_k)))) (And.intro (And.intro (@ifQ_b) (And.intro (@bAnd_k) (@bOr_k))) (And.intro (@anB_b) (And.intro (@orB_b) (@qAnd_k))))) (And.intro (And.intro (And.intro (@qOr_k) (And.intro (@anQ_b) (@orQ_b))) (And.intro (@q3_k) (And.intro (@ch1_s) (@ch2_b)))) (And.intro (And.intro (@ifB_ite) (And.intro (@ifQ_ite) (@anB_ite))) (And.intro (@orB_ite) (And.intro (@anQ_ite) (@orQ_ite)))))))) (And.intro (And.intro (And.intro (And.intro (And.intro (And.intro (@ch2_ite) (And.intro (@ite_bl0) (@ite_bl1))) (And.intro (@ite_bl2) (And.intro (@ite_bl3) (@ite_b0)))) (And.intro (And.intro (@ite_b1) (And.intro (@ite_b2) (@ite_b3))) (And.intro (@natc_add) (And.intro (@fPost_eq) (@fPre_eq))))) (And.intro (And.intro (And.intro (@postK_nx) (And.intro (@postK_rt) (@postK_ex))) (And.intro (@fzAt_eq) (And.intro (@fzK_lst) (@dAdd_strK)))) (And.intro (And.intro (@dIAdd_strK) (And.intro (@dIAdd_int) (@dAdd_lstK))) (And.intro (@dAdd_mlstK) (And.intro (@dAdd_tupK) (@dLen_strK)))))) (And.intro (And.intro (And.intro (And.intro (@dSl_strK) (And.intro (@dSl_tupK) (@itemsF_tupK))) (And.intro (@itemsQ_tupK) (And.intro (@itemsQ_mlK) (@rgK_intK)))) (And.intro (And.intro (@rg2K_intK) (And.intro (@dSub_int) (@dMul_intK))) (And.intro (@dMod_intK) (And.intro (@dFdiv_intK) (@dDivmod_intK))))) (And.intro (And.intro (And.intro (@dStrI_intK) (And.intro (@ixAt_natc) (@ixAt_m1))) (And.intro (@ixAt_in) (And.intro (@dIx_strI) (@ixAt_maps)))) (And.intro (And.intro (@strsL_nil) (And.intro (@strsL_cons) (@allStr_nil))) (And.intro (@allStr_cons) (And.intro (@ixAt_strs) (@intsL_nil))))))) (And.intro (And.intro (And.intro (And.intro (And.intro (@intsL_cons) (And.intro (@allInt_nil) (@allInt_cons))) (And.intro (@ixAt_ints) (And.intro (@data_non) (@data_bl)))) (And.intro (And.intro (@data_int) (And.intro (@data_str) (@data_tup))) (And.intro (@data_lst) (And.intro (@data_ml) (@data_obj))))) (And.intro (And.intro (And.intro (@data_fo) (And.intro (@data_ref) (@dataL_nil))) (And.intro (@dataL_cons) (And.intro (@dataL_append) (@fz_fz)))) (And.intro (And.intro (@fzL_fzL) (And.intro (@dLe_sign) (@dIn_signK))) (And.intro (@dNotIn_signK) (And.intro (@dIx_lst) (@dIx_ml)))))) (And.intro (And.intro (And.intro (And.intro (@dIx_tup) (And.intro (@bind_ite) (@map_ite))) (And.intro (@seqK_ite) (And.intro (@turnK_ite) (@endK_ite)))) (And.intro (And.intro (@rF_ite) (And.intro (@rX_ite) (@varK_ite))) (And.intro (@blK_ite) (And.intro (@andK_ite) (@orK_ite))))) (And.intro (And.intro (And.intro (@notK_ite) (And.intro (@osK_ite) (@m0K_ite))) (And.intro (@m1K_ite) (And.intro (@rgK_ite) (@eB_ite)))) (And.intro (And.intro (@eT_ite) (And.intro (@eS_ite) (@aB_ite))) (And.intro (@eA_ite) (And.intro (@aoCons_ite) (@postK_ite)))))))))
end Fw
/-! # loops, elements, equality: for the plain law -/
namespace Fw
open PySem PySem.Spec PyProof.Rows L2
section
variable {α τ : Type} {g : D → List D → Option (List D)} {b : FS} {μ : List D}
theorem forL_inv (A : α → D) (S : τ → List D) (I : τ → List α → Prop) (step : τ → α → τ)
    (h : ∀ s a rest, I s (a :: rest) → ∃ ρ1, g (A a) (S s) = some ρ1 ∧ b ρ1 μ = some (.nx (S (step s a)) μ) ∧ I (step s a) rest) :
    ∀ as s, I s as → forL g b (S s) μ (as.map A) = some (.nx (S (as.foldl step s)) μ) ∧ I (as.foldl step s) []
  | [], s, hi => ⟨rfl, hi⟩
  | a :: as, s, hi => by
    obtain ⟨ρ1, h1, h2, h3⟩ := h s a as hi
    obtain ⟨k1, k2⟩ := forL_inv A S I step h as (step s a) h3
    exact ⟨(forL_turn h1 h2).trans k1, k2⟩
/-- a loop that keeps to I; the state behind exists -/
theorem forL_ex (A : α → D) (S : τ → List D) (I : τ → List α → Prop)
    (h : ∀ s a rest, I s (a :: rest) → ∃ ρ1 s', g (A a) (S s) = some ρ1 ∧ b ρ1 μ = some (.nx (S s') μ) ∧ I s' rest) :
    ∀ as s, I s as → ∃ s', forL g b (S s) μ (as.map A) = some (.nx (S s') μ) ∧ I s' []
  | [], s, hi => ⟨s, rfl, hi⟩
  | a :: as, s, hi => by
    obtain ⟨ρ1, s', h1, h2, h3⟩ := h s a as hi
    obtain ⟨s2, k1, k2⟩ := forL_ex A S I h as s' h3
    exact ⟨s2, (forL_turn h1 h2).trans k1, k2⟩
end
theorem rangeD_map (j : Int) : rangeD 0 j = (List.range j.toNat).map fun (i : Nat) => D.int (i : Int) := by
  unfold rangeD
  rw [Int.sub_zero]
  refine List.map_congr_left fun i _ => ?_
  rw [Int.zero_add]
theorem rangeD_map2 (i j : Int) : rangeD i j = (List.range (j - i).toNat).map fun (k : Nat) => D.int (i + (k : Int)) := rfl
/-! ### equality of plain trees -/
theorem cok_of {s : List Nat} (h : ∀ c ∈ s, c < 1114112) : cok s = true := by
  unfold cok
  rw [List.all_eq_true]
  intro c hc
  exact decide_eq_true (h c hc)
theorem pl_non (h : Nat) : pl h .non = true := by cases h <;> rfl
theorem pl_int (h : Nat) (i : Int) : pl h (.int i) = true := by cases h <;> rfl
theorem pl_str (h : Nat) (s : List Nat) : pl h (.str s) = cok s := by cases h <;> rfl
theorem pl_tup (h : Nat) (ds : List D) : pl (h + 1) (.tup ds) = plL h ds := rfl
theorem pl_lst (h : Nat) (ds : List D) : pl (h + 1) (.lst ds) = plL h ds := rfl
theorem plL_nil (h : Nat) : plL h [] = true := by cases h <;> rfl
theorem plL_cons (h : Nat) (d : D) (ds : List D) : plL h (d :: ds) = (pl h d && plL h ds) := by cases h <;> rfl
theorem plL_map {α : Type} {h : Nat} {f : α → D} : ∀ {as : List α}, (∀ a ∈ as, pl h (f a) = true) → plL h (as.map f) = true
  | [], _ => plL_nil h
  | a :: as, q => by
    rw [List.map_cons, plL_cons, q a (List.mem_cons_self ..), plL_map fun x hx => q x (List.mem_cons_of_mem _ hx)]
    rfl
theorem plL_all {h : Nat} : ∀ {ds : List D}, plL h ds = true ↔ ∀ d ∈ ds, pl h d = true
  | [] => by rw [plL_nil]; simp
  | d :: ds => by
    rw [plL_cons, Bool.and_eq_true, plL_all, List.forall_mem_cons]
noncomputable def eqT (x y : D) : Bool := @decide (x = y) (Classical.propDecidable _)
theorem eqT_iff {x y : D} : eqT x y = true ↔ x = y := by unfold eqT; exact @decide_eq_true_iff _ (Classical.propDecidable _)
theorem eqT_self (x : D) : eqT x x = true := eqT_iff.mpr rfl
theorem eqT_neg {x y : D} (h : x ≠ y) : eqT x y = false := by
  cases e : eqT x y with
  | false => rfl
  | true => exact absurd (eqT_iff.mp e) h
theorem dEq_eqT {x y : D} (hx : pl 50 x = true) (hy : pl 50 y = true) : dEq x y = some (.bl (eqT x y)) := by
  obtain ⟨b, h1, h2⟩ := dEq_pl hx hy (by omega) (by omega)
  rw [h1]
  cases b with
  | true => rw [eqT_iff.mpr (h2.mp rfl)]
  | false =>
    rw [eqT_neg]
    intro z
    exact absurd (h2.mpr z) (by decide)
theorem dNe_eqT {x y : D} (hx : pl 50 x = true) (hy : pl 50 y = true) : dNe x y = some (.bl (!eqT x y)) := by
  obtain ⟨b, h1, h2⟩ := dNe_pl hx hy (by omega) (by omega)
  rw [h1]
  cases b with
  | true => rw [eqT_iff.mpr (h2.mp rfl)]
  | false =>
    rw [eqT_neg]
    intro z
    exact absurd (h2.mpr z) (by decide)
theorem dEq_lstK {x y : List D} (hx : pl 50 (.lst x) = true) (hy : pl 50 (.lst y) = true) : dEq (.lst x) (.lst y) = some (.bl (eqT (.lst x) (.lst y))) := dEq_eqT hx hy
theorem dNe_lstK {x y : List D} (hx : pl 50 (.lst x) = true) (hy : pl 50 (.lst y) = true) : dNe (.lst x) (.lst y) = some (.bl (!eqT (.lst x) (.lst y))) := dNe_eqT hx hy
theorem dEq_tupK {x y : List D} (hx : pl 50 (.tup x) = true) (hy : pl 50 (.tup y) = true) : dEq (.tup x) (.tup y) = some (.bl (eqT (.tup x) (.tup y))) := dEq_eqT hx hy
theorem dNe_tupK {x y : List D} (hx : pl 50 (.tup x) = true) (hy : pl 50 (.tup y) = true) : dNe (.tup x) (.tup y) = some (.bl (!eqT (.tup x) (.tup y))) := dNe_eqT hx hy
theorem dEq_mlK {x y : List D} (hx : pl 50 (.lst x) = true) (hy : pl 50 (.lst y) = true) : dEq (.ml x) (.lst y) = some (.bl (eqT (.lst x) (.lst y))) := dEq_lstK hx hy
theorem dNe_mlK {x y : List D} (hx : pl 50 (.lst x) = true) (hy : pl 50 (.lst y) = true) : dNe (.ml x) (.lst y) = some (.bl (!eqT (.lst x) (.lst y))) := dNe_lstK hx hy
theorem dEq_lmK {x y : List D} (hx : pl 50 (.lst x) = true) (hy : pl 50 (.lst y) = true) : dEq (.lst x) (.ml y) = some (.bl (eqT (.lst x) (.lst y))) := dEq_lstK hx hy
theorem map_str_inj {a b : List (List Nat)} : a.map D.str = b.map D.str ↔ a = b := by
  constructor
  · intro h
    exact List.map_inj_right (fun _ _ z => D.str.inj z) |>.mp h
  · intro h; rw [h]
theorem map_int_inj {a b : List Int} : a.map D.int = b.map D.int ↔ a = b := by
  constructor
  · intro h
    exact List.map_inj_right (fun _ _ z => D.int.inj z) |>.mp h
  · intro h; rw [h]
/-! ### slices -/
def lcK (g : D → List D → Option (List D)) (t : FB) (f : FQ) (ρ μ : List D) (o : Option (List D)) : Option (List D) := o.bind fun ds => if ds.length ≤ LIM then lcL g t f ρ μ ds else none
theorem sIx_nn {n z : Nat} {k : Int} (h : 0 ≤ k) : HT.sIx n z (some k) = min k.toNat n := by
  have := HT.sIx_nat n z k.toNat
  rwa [Int.toNat_of_nonneg h] at this
theorem cut_lo {α : Type} {xs : List α} {k : Int} (h : 0 ≤ k) : cut xs (some k) none = xs.drop k.toNat := by
  have := cut_drop xs k.toNat
  rwa [Int.toNat_of_nonneg h] at this
theorem cut_hi {α : Type} {xs : List α} {k : Int} (h : 0 ≤ k) : cut xs none (some k) = xs.take k.toNat := by
  have := cut_take xs k.toNat
  rwa [Int.toNat_of_nonneg h] at this
theorem cut_lohi {α : Type} {xs : List α} {i j : Int} (h : 0 ≤ i) (h' : 0 ≤ j) : cut xs (some i) (some j) = (xs.take j.toNat).drop i.toNat := by
  unfold cut
  rw [sIx_nn h, sIx_nn h', List.drop_take]
  by_cases z : i.toNat ≤ xs.length
  · rw [Nat.min_eq_left z]
    by_cases y : j.toNat ≤ xs.length
    · rw [Nat.min_eq_left y]
    · rw [Nat.min_eq_right (by omega), List.take_of_length_le (by rw [List.length_drop]; omega), List.take_of_length_le (by rw [List.length_drop]; omega)]
  · rw [Nat.min_eq_right (by omega : xs.length ≤ i.toNat), List.drop_of_length_le (Nat.le_refl _), List.drop_of_length_le (by omega), List.take_nil, List.take_nil]
theorem sIx_neg {n z : Nat} {k : Int} (h : k < 0) : HT.sIx n z (some k) = n - k.natAbs := by
  show (if k < 0 then (k + (n : Int)).toNat else min k.toNat n) = _
  rw [if_pos h]
  omega
theorem cut_loN {α : Type} {xs : List α} {k : Int} (h : k < 0) : cut xs (some k) none = xs.drop (xs.length - k.natAbs) := by
  unfold cut
  rw [sIx_neg h, HT.sIx_none, List.take_of_length_le]
  rw [List.length_drop]
  exact Nat.le_refl _
theorem cut_hiN {α : Type} {xs : List α} {k : Int} (h : k < 0) : cut xs none (some k) = xs.take (xs.length - k.natAbs) := by
  unfold cut
  rw [sIx_neg h, HT.sIx_none, List.drop_zero, Nat.sub_zero]
theorem cut_lohiN {α : Type} {xs : List α} {i j : Int} (h : 0 ≤ i) (h' : j < 0) : cut xs (some i) (some j) = (xs.take (xs.length - j.natAbs)).drop i.toNat := by
  unfold cut
  rw [sIx_nn h, sIx_neg h', List.drop_take]
  by_cases z : i.toNat ≤ xs.length
  · rw [Nat.min_eq_left z]
  · rw [Nat.min_eq_right (by omega : xs.length ≤ i.toNat), List.drop_of_length_le (Nat.le_refl _), List.drop_of_length_le (by omega), List.take_nil, List.take_nil]
theorem dIx_strZ {s : List Nat} (h : s.length ≤ 1000000) (hs : s ≠ []) : dIx (.str s) (.int (-1)) = some (.str [s.getLastD 0]) := by
  rw [dIx_strM s h]
  cases s with
  | nil => exact absurd rfl hs
  | cons c s => rw [List.getLast?_eq_some_getLast hs]; rfl
theorem dIx_strA {s : List Nat} (h : s.length ≤ 1000000) (hs : s ≠ []) : dIx (.str s) (.int 0) = some (.str [s.headD 0]) := by
  rw [dIx_strL s 0 h]
  cases s with
  | nil => exact absurd rfl hs
  | cons c s => rfl
theorem qLc_k {it : FA} {g : D → List D → Option (List D)} {vs : List Nat} {t : FB} {f : FQ} {x0 : D} {ρ μ : List D} : qLc it g vs t f (x0 :: ρ) μ = lcK g t f (wipeD (x0 :: ρ) vs) μ (it (x0 :: ρ) μ) := qLc_eq it g vs t f x0 ρ μ
theorem lcK_s {g : D → List D → Option (List D)} {t : FB} {f : FQ} {ρ μ ds : List D} (h : ds.length ≤ 1000000) : lcK g t f ρ μ (some ds) = lcL g t f ρ μ ds := if_pos (lk h)
section
variable {g : FS} {ks : List Bool} {ds ρ μ : List D} {f : FS} {r : Option D} {gg : D → List D → Option (List D)}
theorem seqK_no : seqK none g = none := rfl
theorem endK_no : endK none = none := rfl
theorem rF_no : rF none = none := rfl
theorem rX_no : rX ks ds none = none := rfl
theorem turnK_no : turnK gg g ds none = none := rfl
end
theorem cut_none {α : Type} {xs : List α} : cut xs none none = xs := cut_all ⟨rfl, rfl⟩
theorem cut_map {α β : Type} (f : α → β) (xs : List α) (lo hi : Option Int) : cut (xs.map f) lo hi = (cut xs lo hi).map f := by
  unfold cut
  rw [List.length_map, List.map_take, List.map_drop]
theorem def_int : (default : Int) = 0 := rfl
theorem def_nat : (default : Nat) = 0 := rfl
theorem def_list {α : Type} : (default : List α) = [] := rfl
/-! ### elements -/
section
variable {α : Type} {g : D → List D → Option (List D)} {t : FB} {f : FQ} {ρ μ : List D}
theorem lc_all (A : α → D) (Y : α → D) (as : List α) (h : ∀ a ∈ as, ∃ ρ', g (A a) ρ = some ρ' ∧ f ρ' μ = some (Y a) ∧ data (Y a) = true) : lcL g bYes f ρ μ (as.map A) = some (as.map Y) := by
  have := lcL_map (t := bYes) A (fun _ => true) Y as (fun a ha => by
    obtain ⟨ρ', h1, h2, h3⟩ := h a ha
    exact ⟨ρ', h1, rfl, fun _ => ⟨h2, h3⟩⟩)
  rw [List.filter_eq_self.mpr fun _ _ => rfl] at this
  exact this
end
theorem appK_mlK {i : Nat} {ρ μ : List D} {q : FQ} {ds : List D} (h : ds.length ≤ 1000000) : appK i ρ μ q (some (.ml ds)) = (q ρ μ).bind fun d => if data d = true then some (.nx (ρ.set i (.ml (ds ++ [d]))) μ) else none := by
  rw [appK_ml]
  congr 1
  funext d
  by_cases z : data d = true
  · rw [if_pos ⟨z, lk h⟩, if_pos z]
  · rw [if_neg (fun w => z w.1), if_neg z]
theorem nab1 : Int.natAbs (-1) = 1 := rfl
theorem nab2 : Int.natAbs (-2) = 2 := rfl
theorem nab3 : Int.natAbs (-3) = 3 := rfl
theorem nab4 : Int.natAbs (-4) = 4 := rfl
theorem nab5 : Int.natAbs (-5) = 5 := rfl
theorem nab6 : Int.natAbs (-6) = 6 := rfl
theorem dEq_blK (a b : Bool) : dEq (.bl a) (.bl b) = some (.bl (decide (a = b))) := by cases a <;> cases b <;> rfl
theorem dNe_blK (a b : Bool) : dNe (.bl a) (.bl b) = some (.bl (!decide (a = b))) := by cases a <;> cases b <;> rfl
theorem allStr_map : ∀ es : List (List Nat), allStr (es.map D.str) = true
  | [] => rfl
  | _ :: es => allStr_map es
theorem strsL_map : ∀ es : List (List Nat), strsL (es.map D.str) = es
  | [] => rfl
  | e :: es => congrArg (e :: ·) (strsL_map es)
theorem dIn_tupS {t : List Nat} {ds : List D} (h : allStr ds = true) : dIn (.str t) (.tup ds) = some (.bl (decide (t ∈ strsL ds))) := by
  have := dIn_tup t (strsL ds)
  rwa [← strsL_of h] at this
theorem dIn_lstS {t : List Nat} {ds : List D} (h : allStr ds = true) : dIn (.str t) (.lst ds) = some (.bl (decide (t ∈ strsL ds))) := by
  have := dIn_lst t (strsL ds)
  rwa [← strsL_of h] at this
theorem dNotIn_tupS {t : List Nat} {ds : List D} (h : allStr ds = true) : dNotIn (.str t) (.tup ds) = some (.bl (!decide (t ∈ strsL ds))) := by
  have := dNotIn_tup t (strsL ds)
  rwa [← strsL_of h] at this
theorem dNotIn_lstS {t : List Nat} {ds : List D} (h : allStr ds = true) : dNotIn (.str t) (.lst ds) = some (.bl (!decide (t ∈ strsL ds))) := by
  have := dNotIn_lst t (strsL ds)
  rwa [← strsL_of h] at this
theorem strsD_map : ∀ es : List (List Nat), strsD (es.map D.str) = some es
  | [] => rfl
  | e :: es => by
    show (strsD (es.map D.str)).map (fun bs => e :: bs) = _
    rw [strsD_map es]
    rfl
theorem joinL_nil : ∀ ts : List (List Nat), TL.joinL [] ts = ts.flatten
  | [] => rfl
  | [t] => by simp [TL.joinL]
  | t :: u :: ts => by
    have := joinL_nil (u :: ts)
    simp only [TL.joinL, List.append_nil, List.nil_append] at this ⊢
    rw [this]
    simp
theorem oJoin_seq {s : List Nat} {x : D} {ts : List (List Nat)} (hx : seqD x = some (ts.map D.str)) (h : (ts.map (·.length)).sum + ts.length * s.length ≤ 1000000) : oJoin s [x] = some (.str (TL.joinL s ts)) := by
  show (seqD x).bind _ = _
  rw [hx]
  show (strsD (ts.map D.str)).bind _ = _
  rw [strsD_map]
  exact if_pos h
theorem oJoin_lst {s : List Nat} {ts : List (List Nat)} (h : (ts.map (·.length)).sum + ts.length * s.length ≤ 1000000) : oJoin s [.lst (ts.map D.str)] = some (.str (TL.joinL s ts)) := oJoin_seq rfl h
theorem oJoin_tup {s : List Nat} {ts : List (List Nat)} (h : (ts.map (·.length)).sum + ts.length * s.length ≤ 1000000) : oJoin s [.tup (ts.map D.str)] = some (.str (TL.joinL s ts)) := oJoin_seq rfl h
theorem sum_len_le {α : Type} {f : α → List Nat} {k : Nat} : ∀ {l : List α}, (∀ x ∈ l, (f x).length ≤ k) → ((l.map f).map (·.length)).sum ≤ l.length * k
  | [], _ => Nat.zero_le _
  | x :: l, h => by
    have := sum_len_le (l := l) fun y hy => h y (List.mem_cons_of_mem _ hy)
    have h1 := h x (List.mem_cons_self ..)
    simp only [List.map_cons, List.sum_cons, List.length_cons, Nat.add_mul, Nat.one_mul]
    omega
/-- texts of one sign each, joined -/
theorem oJoin_signs {α : Type} {f : α → Nat} {l : List α} (h : l.length ≤ 1000000) : oJoin [] [.lst (l.map fun x => D.str [f x])] = some (.str (l.map f)) := by
  have e : (l.map fun x => D.str [f x]) = (l.map fun x => [f x]).map D.str := by rw [List.map_map]; rfl
  rw [e, oJoin_lst, joinL_nil]
  · congr 2
    clear e h
    induction l with
    | nil => rfl
    | cons a l ih => simp [ih]
  · have := sum_len_le (f := fun x => [f x]) (k := 1) (l := l) (fun _ _ => Nat.le_refl _)
    simp only [List.length_nil, Nat.mul_zero, Nat.add_zero]
    omega
theorem ixl0 {α : Type} (xs : List α) : ixAt xs 0 = xs[0]? := ixAt_nat xs 0
theorem ixl1 {α : Type} (xs : List α) : ixAt xs 1 = xs[1]? := ixAt_nat xs 1
theorem ixl2 {α : Type} (xs : List α) : ixAt xs 2 = xs[2]? := ixAt_nat xs 2
theorem ixl3 {α : Type} (xs : List α) : ixAt xs 3 = xs[3]? := ixAt_nat xs 3
theorem ixl4 {α : Type} (xs : List α) : ixAt xs 4 = xs[4]? := ixAt_nat xs 4
theorem ixl5 {α : Type} (xs : List α) : ixAt xs 5 = xs[5]? := ixAt_nat xs 5
theorem ixl6 {α : Type} (xs : List α) : ixAt xs 6 = xs[6]? := ixAt_nat xs 6
theorem ixl7 {α : Type} (xs : List α) : ixAt xs 7 = xs[7]? := ixAt_nat xs 7
theorem ixl8 {α : Type} (xs : List α) : ixAt xs 8 = xs[8]? := ixAt_nat xs 8
theorem ixl9 {α : Type} (xs : List α) : ixAt xs 9 = xs[9]? := ixAt_nat xs 9
theorem ixl10 {α : Type} (xs : List α) : ixAt xs 10 = xs[10]? := ixAt_nat xs 10
theorem ixl11 {α : Type} (xs : List α) : ixAt xs 11 = xs[11]? := ixAt_nat xs 11
theorem ixl12 {α : Type} (xs : List α) : ixAt xs 12 = xs[12]? := ixAt_nat xs 12
theorem ixl13 {α : Type} (xs : List α) : ixAt xs 13 = xs[13]? := ixAt_nat xs 13
theorem ixl14 {α : Type} (xs : List α) : ixAt xs 14 = xs[14]? := ixAt_nat xs 14
theorem ixl15 {α : Type} (xs : List α) : ixAt xs 15 = xs[15]? := ixAt_nat xs 15
theorem ixl16 {α : Type} (xs : List α) : ixAt xs 16 = xs[16]? := ixAt_nat xs 16
theorem ixl17 {α : Type} (xs : List α) : ixAt xs 17 = xs[17]? := ixAt_nat xs 17
theorem ixl18 {α : Type} (xs : List α) : ixAt xs 18 = xs[18]? := ixAt_nat xs 18
theorem ixl19 {α : Type} (xs : List α) : ixAt xs 19 = xs[19]? := ixAt_nat xs 19
theorem ixl20 {α : Type} (xs : List α) : ixAt xs 20 = xs[20]? := ixAt_nat xs 20
theorem ixl21 {α : Type} (xs : List α) : ixAt xs 21 = xs[21]? := ixAt_nat xs 21
theorem ixl22 {α : Type} (xs : List α) : ixAt xs 22 = xs[22]? := ixAt_nat xs 22
theorem ixl23 {α : Type} (xs : List α) : ixAt xs 23 = xs[23]? := ixAt_nat xs 23
theorem ixl24 {α : Type} (xs : List α) : ixAt xs 24 = xs[24]? := ixAt_nat xs 24
theorem ixl25 {α : Type} (xs : List α) : ixAt xs 25 = xs[25]? := ixAt_nat xs 25
theorem ixl26 {α : Type} (xs : List α) : ixAt xs 26 = xs[26]? := ixAt_nat xs 26
theorem ixl27 {α : Type} (xs : List α) : ixAt xs 27 = xs[27]? := ixAt_nat xs 27
theorem ixl28 {α : Type} (xs : List α) : ixAt xs 28 = xs[28]? := ixAt_nat xs 28
theorem ixl29 {α : Type} (xs : List α) : ixAt xs 29 = xs[29]? := ixAt_nat xs 29
theorem ixl30 {α : Type} (xs : List α) : ixAt xs 30 = xs[30]? := ixAt_nat xs 30
theorem ixl31 {α : Type} (xs : List α) : ixAt xs 31 = xs[31]? := ixAt_nat xs 31
theorem ixl32 {α : Type} (xs : List α) : ixAt xs 32 = xs[32]? := ixAt_nat xs 32
theorem ixl33 {α : Type} (xs : List α) : ixAt xs 33 = xs[33]? := ixAt_nat xs 33
theorem ixl34 {α : Type} (xs : List α) : ixAt xs 34 = xs[34]? := ixAt_nat xs 34
theorem ixl35 {α : Type} (xs : List α) : ixAt xs 35 = xs[35]? := ixAt_nat xs 35
theorem ixl36 {α : Type} (xs : List α) : ixAt xs 36 = xs[36]? := ixAt_nat xs 36
theorem ixl37 {α : Type} (xs : List α) : ixAt xs 37 = xs[37]? := ixAt_nat xs 37
theorem ixl38 {α : Type} (xs : List α) : ixAt xs 38 = xs[38]? := ixAt_nat xs 38
theorem ixl39 {α : Type} (xs : List α) : ixAt xs 39 = xs[39]? := ixAt_nat xs 39
theorem ixl40 {α : Type} (xs : List α) : ixAt xs 40 = xs[40]? := ixAt_nat xs 40
theorem tk_map {α β : Type} (f : α → β) (xs : List α) (n : Nat) : (xs.map f).take n = (xs.take n).map f := by rw [List.map_take]
theorem dr_map {α β : Type} (f : α → β) (xs : List α) (n : Nat) : (xs.map f).drop n = (xs.drop n).map f := by rw [List.map_drop]
def kset4 := And.intro @tk_map <| And.intro @dr_map <| And.intro (And.intro (And.intro (And.intro (And.intro (@ixl0) (@ixl1)) (And.intro (@ixl2) (And.intro (@ixl3) (@ixl4)))) (And.intro (And.intro (@ixl5) (@ixl6)) (And.intro (@ixl7) (And.intro (@ixl8) (@ixl9))))) (And.intro (And.intro (And.intro (@ixl10) (@ixl11)) (And.intro (@ixl12) (And.intro (@ixl13) (@ixl14)))) (And.intro (And.intro (@ixl15) (@ixl16)) (And.intro (@ixl17) (And.intro (@ixl18) (@ixl19)))))) (And.intro (And.intro (And.intro (And.intro (@ixl20) (@ixl21)) (And.intro (@ixl22) (And.intro (@ixl23) (@ixl24)))) (And.intro (And.intro (@ixl25) (@ixl26)) (And.intro (@ixl27) (And.intro (@ixl28) (@ixl29))))) (And.intro (And.intro (And.intro (@ixl30) (@ixl31)) (And.intro (@ixl32) (And.intro (@ixl33) (@ixl34)))) (And.intro (And.intro (@ixl35) (And.intro (@ixl36) (@ixl37))) (And.intro (@ixl38) (And.intro (@ixl39) (@ixl40))))))
def kset3 := And.intro kset4 <| And.intro @nab1 (And.intro @nab2 (And.intro @nab3 (And.intro @nab4 (And.intro @nab5 (And.intro @nab6 (And.intro @dEq_blK (And.intro @allStr_map (And.intro @strsL_map (And.intro @dIn_tupS (And.intro @dIn_lstS (And.intro @dNotIn_tupS (And.intro @dNotIn_lstS @dNe_blK))))))))))))
def kset2 := And.intro kset3 (And.intro @oJoin_signs (And.intro @cut_loN (And.intro @cut_hiN (And.intro @cut_lohiN (And.intro @dIx_strZ (And.intro @dIx_strA (And.intro @qLc_k (And.intro @lcK_s (And.intro @seqK_no (And.intro @endK_no (And.intro @rF_no (And.intro @rX_no (And.intro @turnK_no (And.intro @appK_mlK (And.intro @rangeD_map (And.intro @cut_lo (And.intro @cut_hi (And.intro @cut_lohi (And.intro @cut_none (And.intro @cut_map (And.intro @def_int (And.intro @def_nat (And.intro @def_list (And.intro @dEq_lstK (And.intro @dNe_lstK (And.intro @dEq_tupK (And.intro @dNe_tupK (And.intro @dEq_mlK (And.intro @dNe_mlK @dEq_lmK)))))))))))))))))))))))))))))
def plset := And.intro @pl_non (And.intro @pl_int (And.intro @pl_str (And.intro @pl_tup (And.intro @pl_lst (And.intro @plL_nil (And.intro @plL_cons (And.intro @pl_tup @pl_lst)))))))
end Fw
/-! # what the top has left: as the kit's hook, and the interpreter's own statics -/
namespace Fw
open PySem PySem.Spec PyProof.Rows L2
def asY (g : Addr → Option Obj) (n : Nat) : List Addr := He.asD g n ++ [cStatics]
abbrev AlY : Type := He.AlD × Bool
def obsY (n : Nat) (fa : List He.Fa) (fn : List He.DefD) (ex : PySem.W.Frag → Bool) (g : Addr → Option Obj) : AlY := (He.obsD fa fn (He.frT g (asY g n)), ex (He.frT g (asY g n)))
structure SaysY (fa : List He.Fa) (fn : List He.DefD) (ex : PySem.W.Frag → Bool) (K : PySem.W.Frag) : Prop where
  d : He.SaysD fa fn K
  more : ex K = true
def hookY (n : Nat) (fa : List He.Fa) (fn : List He.DefD) (ex : PySem.W.Frag → Bool) : PySem.W.Hook where
  α := AlY
  obs := fun s => obsY n fa fn ex s.heap.get?
  val := fun _ => (He.valD fn, true)
  says := fun _ h => ∃ K : PySem.W.Frag, K.In h ∧ SaysY fa fn ex K
  of := fun _ _ e => ⟨_, He.frT_in, ⟨congrArg (fun z : AlY => z.1) e, congrArg (fun z : AlY => z.2) e⟩⟩
  keeps := fun _ _ _ ⟨K, hK, c⟩ k => ⟨K, PySem.W.Frag.In.keeps hK k, c⟩
theorem obsY_eq {n : Nat} {fa : List He.Fa} {fn : List He.DefD} {ex : PySem.W.Frag → Bool} {g : Addr → Option Obj} {s : Shared} (h : ∀ a, g a = s.heap.get? a) : obsY n fa fn ex g = (hookY n fa fn ex).obs s := by
  have e : g = s.heap.get? := funext h
  rw [e] <;> rfl
end Fw
/-! # defs and methods that only look, and hand back a new instance -/
namespace Fw
open PySem PySem.Spec PyProof.Rows L2
open Evl (Ex)
mutual
/-- new places and data, shared instances below n -/
def noO (n : Nat) : D → Bool
  | .non => true
  | .bl _ => true
  | .int _ => true
  | .str _ => true
  | .tup ds => noLL ds
  | .ref k => decide (k < n)
  | .ml ds => noOL n ds
  | .obj _ _ ds => noOL n ds
  | _ => false
def noOL (n : Nat) : List D → Bool
  | [] => true
  | d :: ds => noO n d && noOL n ds
end
mutual
theorem noL_data : ∀ d : D, noL d = true → data d = true
  | .non, _ => rfl
  | .bl _, _ => rfl
  | .int _, _ => rfl
  | .str _, _ => rfl
  | .tup ds, h => noLL_data ds h
  | .lst _, h => by cases h
  | .ml _, h => by cases h
  | .obj _ _ _, h => by cases h
  | .fo _ _ _, h => by cases h
  | .ref _, h => by cases h
  | .un, h => by cases h
theorem noLL_data : ∀ ds : List D, noLL ds = true → dataL ds = true
  | [], _ => rfl
  | d :: ds, h => by
    obtain ⟨a, b⟩ := Bool.and_eq_true_iff.mp (show (noL d && noLL ds) = true from h)
    show (data d && dataL ds) = true
    rw [noL_data d a, noLL_data ds b]
    rfl
end
section
variable {K : PySem.W.Frag} {W : Wd}
mutual
theorem R_noO {W' : Wd} {n : Nat} (hH : W'.H = W.H) (hm : ∀ (k : Nat) (a : Addr), k < n → W.m[k]? = some a → W'.m[k]? = some a) : ∀ (d : D) {v : V} {F : List Addr}, noO n d = true → R K W d v F → R K W' d v F
  | .non, _, _, _, h => h
  | .bl _, _, _, _, h => h
  | .int _, _, _, _, h => h
  | .str _, _, _, _, h => h
  | .tup ds, _, _, q, h => by
    have e := R_data (.tup ds) (noLL_data ds q) h
    have := R_noL hH (.tup ds) q h
    rw [e]
    exact this
  | .ref k, _, _, q, h => by
    obtain ⟨a, h1, h2, h3⟩ := h
    exact ⟨a, h1, hm k a (of_decide_eq_true q) h2, h3⟩
  | .ml ds, _, _, q, h => by
    obtain ⟨a, vs, F', h1, h2, h3, h4⟩ := h
    exact ⟨a, vs, F', h1, by rw [hH]; exact h2, RL_noO hH hm ds q h3, h4⟩
  | .obj c ns ds, _, _, q, h => by
    obtain ⟨a, dx, vs, F', h1, h2, h3, h4, h5⟩ := h
    exact ⟨a, dx, vs, F', h1, by rw [hH]; exact h2, h3, RL_noO hH hm ds q h4, h5⟩
  | .lst _, _, _, q, _ => by cases q
  | .fo _ _ _, _, _, q, _ => by cases q
  | .un, _, _, q, _ => by cases q
theorem RL_noO {W' : Wd} {n : Nat} (hH : W'.H = W.H) (hm : ∀ (k : Nat) (a : Addr), k < n → W.m[k]? = some a → W'.m[k]? = some a) : ∀ (ds : List D) {vs : List V} {F : List Addr}, noOL n ds = true → RL K W ds vs F → RL K W' ds vs F
  | [], _, _, _, h => h
  | d :: ds, _, _, q, h => by
    obtain ⟨v, vs', F1, F2, h1, h2, h3, h4⟩ := h
    obtain ⟨qa, qb⟩ := Bool.and_eq_true_iff.mp (show (noO n d && noOL n ds) = true from q)
    exact ⟨v, vs', F1, F2, h1, R_noO hH hm d qa h2, RL_noO hH hm ds qb h3, h4⟩
end
end
/-- into a def that only looks, and back with what is new -/
theorem own_back {K : PySem.W.Frag} {n : Nat} {run : RF} {W : Wd} {σ : L2.St} {ρ μ ds : List D} {F : List Addr} {vs : List V} {d : D} {Q : VK} {E : XK} (S : Sta K W σ ρ μ F) (r : RL K W.all ds vs []) (hn : ds.length = n) (hr : run ds (fzL μ) = some d) (hd : noO μ.length d = true)
    (q : ∀ v W' G, Ext W W' → R K W' d v G → G.Nodup → (∀ a ∈ G, Own W' a ∧ W.H a = none) → Q v W'.H) : spF K n run vs W.H Q E := by
  obtain ⟨F1, F2, _, h2, _⟩ := S.ex
  refine ⟨W.all, ds, fzL μ, d, rfl, Wd.all_ok, r, RL_fz S.ok μ h2, hn, hr, fun v W2 G rv ok2 nd own mv => ?_⟩
  have new : ∀ a ∈ G, W.H a = none := fun a ha => (mv.own a ha).elim (fun z => nomatch z) id
  have keep : ∀ a o, W.H a = some o → W2.H a = some o := fun a o e => mv.keep a o e (fun z => nomatch z)
  have hx : Ext W ⟨W2.H, W.Fr, W.m⟩ := ⟨keep, fun _ h => h, fun _ h => .inl h, rfl, fun a h => by
    intro z
    cases e : W.H a with
    | none => exact S.ok a h e
    | some o =>
      have := keep a o e
      rw [show W2.H a = none from z] at this
      cases this⟩
  refine q v ⟨W2.H, W.Fr, W.m⟩ G hx (R_noO (W := W2) (W' := ⟨W2.H, W.Fr, W.m⟩) rfl (fun k a hk e => ?_) d hd rv) nd fun a ha => ⟨⟨fun z => S.ok a z (new a ha), (own a ha).2⟩, new a ha⟩
  obtain ⟨l, hl⟩ := mv.m
  have hl2 : W2.m = W.m ++ l := hl
  have len : W.m.length = μ.length := by
    have := RL_len h2
    rwa [List.length_map] at this
  rw [hl2, List.getElem?_append_left (by omega)] at e
  exact e
section
variable {X : Cx} {Wx : WX} {e o : Expr} {es : List Expr} {p apos pos : Pos} {kq : FA} {x m : Str} {k n : Nat} {dd : List D} {run : RF} {f : FQ}
def qRunG (n : Nat) (dd : List D) (run : RF) (k : FA) : FQ := fun ρ μ => (k ρ μ).bind fun as => if (fzL as ++ dd).length = n then (run (fzL as ++ dd) (fzL μ)).bind fun d => if noO μ.length d = true then some d else none else none
def xRunG (n : Nat) (dd : List D) (run : RF) (k : FA) : FX := fun ρ μ => (qRunG n dd run k ρ μ).map fun d => .ok d ρ μ
theorem fresh_nd {K : PySem.W.Frag} {W W' : Wd} {σ : L2.St} {ρ μ : List D} {F G : List Addr} (S : Sta K W σ ρ μ F) (nd : G.Nodup) (h : ∀ a ∈ G, Own W' a ∧ W.H a = none) : (G ++ F).Nodup := by
  rw [List.nodup_append]
  refine ⟨nd, S.nd, fun a ha b hb e => ?_⟩
  subst e
  obtain ⟨_, w⟩ := S.own a hb
  have z := (h a ha).2
  rcases w with ⟨xs, w⟩ | ⟨C, dx, fs, w⟩ <;> rw [z] at w <;> cases w
theorem Ext.mvG {W W' : Wd} {F G : List Addr} (x : Ext W W') (h : ∀ a ∈ G, W.H a = none) : Mv W W' F (G ++ F) :=
  ⟨fun a o e _ => x.ex a o e, x.fr, fun a z => (x.nf a z).elim .inl fun z => .inr (.inl z), fun a ha => (List.mem_append.mp ha).elim (fun z => .inr (h a z)) .inl, ⟨[], by rw [x.m, List.append_nil]⟩⟩
theorem callG_run {t : TA} {dvs : List V} (hdd : ∀ W : Wd, RL X.K W dd dvs [])
    (k1 : ∀ (σ : L2.St) (W : Wd) (ρ μ : List D) (F : List Addr), Sta X.K W σ ρ μ F → ∀ ds, kq ρ μ = some ds → ∀ Q : List V → Hp → Prop, (∀ vs W' G, Ext W W' → RL X.K W' ds vs G → Q vs W'.H) → t σ W.H Q)
    {σ : L2.St} {W : Wd} {ρ μ : List D} {F : List Addr} (S : Sta X.K W σ ρ μ F) {d : D} (hd : qRunG n dd run kq ρ μ = some d) {Q : VK} {E : XK} (q : ∀ v W' G, Ext W W' → R X.K W' d v G → G.Nodup → (∀ a ∈ G, Own W' a ∧ W.H a = none) → Q v W'.H) :
    t σ W.H fun vs H1 => spF X.K n run (vs ++ dvs) H1 Q E := by
  obtain ⟨as, e1, hd⟩ := bind_some hd
  by_cases hl : (fzL as ++ dd).length = n
  case neg => rw [if_neg hl] at hd; cases hd
  rw [if_pos hl] at hd
  obtain ⟨d', e2, hd⟩ := bind_some hd
  by_cases hz : noO μ.length d' = true
  case neg => rw [if_neg hz] at hd; cases hd
  rw [if_pos hz] at hd
  cases hd
  refine k1 σ W ρ μ F S as e1 _ fun vs W1 G1 x1 r1 => ?_
  exact own_back (S.ext x1) (RL_app (RL_fz x1.ok as r1) (hdd _)) hl e2 hz fun v W2 G2 x2 r2 nd nw => q v W2 G2 (x1.trans x2) r2 nd fun a ha => ⟨(nw a ha).1, Evl.fresh_back x1.ex (nw a ha).2⟩
theorem pq_callG (O : OkF X.prog X.w X.K X.mg X.base x k n dd run) (hr : Room k X.A) (ha : PAQ X (e :: es) kq) (hg : Gl X x := by rfl) (hdb : (x == ("__debug__" : Str)) = false := by decide)
    (he : starEach (e :: es) X.env = (false, eval e X.env) :: starEach es X.env := by rfl) (hpl : (backTo pos (starEach es X.env)).any (·.1) = false := by rfl) : PQ X (.Call (.Name x p) (e :: es) [] pos) (qRunG n dd run kq) := by
  obtain ⟨f, fd, ps, dvs, us, hF, hb, hv, hdd, hm, hk⟩ := O
  obtain ⟨t, pt, k1⟩ := ha
  refine ⟨_, pe_call hF hr hg hm hk hb hv passL pt hdb he hpl, fun σ W ρ μ F S d hd Q q => ?_⟩
  exact callG_run hdd k1 S hd fun v W' G x r _ _ => q v W' G x r
theorem px_callG (O : OkF X.prog X.w X.K X.mg X.base x k n dd run) (hr : Room k X.A) (ha : PAQ X (e :: es) kq) (hg : Gl X x := by rfl) (hdb : (x == ("__debug__" : Str)) = false := by decide)
    (he : starEach (e :: es) X.env = (false, eval e X.env) :: starEach es X.env := by rfl) (hpl : (backTo pos (starEach es X.env)).any (·.1) = false := by rfl) : PX X Wx (.Call (.Name x p) (e :: es) [] pos) (xRunG n dd run kq) := by
  obtain ⟨f, fd, ps, dvs, us, hF, hb, hv, hdd, hm, hk⟩ := O
  obtain ⟨t, pt, k1⟩ := ha
  refine ⟨_, pe_call hF hr hg hm hk hb hv passL pt hdb he hpl, fun σ W ρ μ F S o ho Q hQ => ?_⟩
  obtain ⟨d, hd, rfl⟩ := map_some ho
  exact callG_run hdd k1 S hd fun v W' G x r nd nw => hQ v W' G F r (S.ext x) (fresh_nd S nd nw) (fun a ha => (nw a ha).1) (x.mvG fun a ha => (nw a ha).2)
/-! ### methods -/
def qMethG (m : Str) (n : Nat) (dd : List D) (runs : MTF) (f : FQ) (k : FA) : FQ := fun ρ μ => (f ρ μ).bind fun t => (clsOf μ t).bind fun z => if fidx m z.2 = none then (runs z.1).bind fun run => (k ρ μ).bind fun as => if (fz t :: (fzL as ++ dd)).length = n then (run (fz t :: (fzL as ++ dd)) (fzL μ)).bind fun d => if noO μ.length d = true then some d else none else none else none
def xMethG (m : Str) (n : Nat) (dd : List D) (runs : MTF) (f : FQ) (k : FA) : FX := fun ρ μ => (qMethG m n dd runs f k ρ μ).map fun d => .ok d ρ μ
theorem methG_run {te : TE} {t : TA} {runs : MTF} (OM : OkMTF X m k n dd runs) (h0 : ∀ (σ : L2.St) (W : Wd) (ρ μ : List D) (F : List Addr), Sta X.K W σ ρ μ F → ∀ d, f ρ μ = some d → ∀ Q : VK, (∀ v W' G, Ext W W' → R X.K W' d v G → Q v W'.H) → te σ W.H Q)
    (k1 : ∀ (σ : L2.St) (W : Wd) (ρ μ : List D) (F : List Addr), Sta X.K W σ ρ μ F → ∀ ds, kq ρ μ = some ds → ∀ Q : List V → Hp → Prop, (∀ vs W' G, Ext W W' → RL X.K W' ds vs G → Q vs W'.H) → t σ W.H Q)
    {σ : L2.St} {W : Wd} {ρ μ : List D} {F : List Addr} (S : Sta X.K W σ ρ μ F) {d : D} (hd : qMethG m n dd runs f kq ρ μ = some d) {Q : VK} (q : ∀ v W' G, Ext W W' → R X.K W' d v G → G.Nodup → (∀ a ∈ G, Own W' a ∧ W.H a = none) → Q v W'.H) : tMX X (fun _ _ _ _ => False) m k te t σ W.H Q := by
  obtain ⟨t0, e0, hd⟩ := bind_some hd
  obtain ⟨z, e1, hd⟩ := bind_some hd
  by_cases hf : fidx m z.2 = none
  case neg => rw [if_neg hf] at hd; cases hd
  rw [if_pos hf] at hd
  obtain ⟨run, e2, hd⟩ := bind_some hd
  obtain ⟨as, e3, hd⟩ := bind_some hd
  by_cases hl : (fz t0 :: (fzL as ++ dd)).length = n
  case neg => rw [if_neg hl] at hd; cases hd
  rw [if_pos hl] at hd
  obtain ⟨d', e4, hd⟩ := bind_some hd
  by_cases hz : noO μ.length d' = true
  case neg => rw [if_neg hz] at hd; cases hd
  rw [if_pos hz] at hd
  cases hd
  obtain ⟨g, fd, ps, dvs, us, hF, hb, hv, hdd, hc, hm⟩ := OM z.1 run e2
  refine h0 σ W ρ μ F S t0 e0 _ fun v W1 G1 x1 r1 => ?_
  have S1 := S.ext x1
  have hv2 : ∃ a dx vs, v = .ref a ∧ W1.H a = some (.ins (He.ga X.K z.1) dx (z.2.zip vs)) := by
    cases t0 with
    | ref j =>
      obtain ⟨t2, e5, e6⟩ := bind_some (show (μ[j]?).bind clsO = some z from e1)
      obtain ⟨a, rfl, h3, _⟩ := r1
      obtain ⟨F1, F2, _, h4, _⟩ := S1.ex
      obtain ⟨a', G', h5, h6, _⟩ := RL_map_get h4 e5
      rw [h3] at h5
      cases h5
      exact R_cls h6 e6
    | _ => exact R_cls r1 e1
  obtain ⟨a, dx, vs0, rfl, hH⟩ := hv2
  refine ⟨a, _, dx, _, g, fd, ps, _, dvs, us, rfl, hH, hc, hm, fidx_none hf, hF, hb, hv, ?_⟩
  refine k1 σ W1 ρ μ F S1 as e3 _ fun vs W2 G2 x2 r2 => ?_
  exact own_back (ds := fz t0 :: (fzL as ++ dd)) (vs := .ref a :: (vs ++ dvs)) (S1.ext x2) ⟨.ref a, vs ++ dvs, [], [], rfl, R_fz x2.ok t0 (R_ext x2 t0 r1), RL_app (RL_fz x2.ok as r2) (hdd _), rfl⟩ hl e4 hz fun v W3 G3 x3 r3 nd nw => q v W3 G3 ((x1.trans x2).trans x3) r3 nd fun a ha => ⟨(nw a ha).1, Evl.fresh_back (x1.trans x2).ex (nw a ha).2⟩
section
variable {pl : Sem Bool} {runs : MTF}
theorem pq_methG (OM : OkMTF X m k n dd runs) (hp : PQ X o f) (hr : Room k X.A) (ha : PAQ X (e :: es) kq)
    (hst : starEach (e :: es) X.env = (false, eval e X.env) :: starEach es X.env := by rfl) (hpl : (backTo pos (starEach es X.env)).any (·.1) = false := by rfl)
    (ht : eval (.Call (.Attribute o m apos) (e :: es) [] pos) X.env = (do
      let ov ← eval o X.env
      standAt apos.atName
      let (f, first) ← holding [ov] (getMethod ov m pl)
      callWith pos f first (backTo pos (starEach (e :: es) X.env)) (backToKw pos (keywordEach [] X.env))) := by rfl) :
    PQ X (.Call (.Attribute o m apos) (e :: es) [] pos) (qMethG m n dd runs f kq) := by
  obtain ⟨t, pt, k1⟩ := ha
  obtain ⟨te, pe, k0⟩ := hp
  exact ⟨_, pe_mx pe hr takes0 pt hst hpl ht, fun σ W ρ μ F S d hd Q q => methG_run OM k0 k1 S hd fun v W' G x r _ _ => q v W' G x r⟩
theorem pq_methG0 (OM : OkMTF X m k n dd runs) (hp : PQ X o f) (hr : Room k X.A)
    (ht : eval (.Call (.Attribute o m apos) [] [] pos) X.env = (do
      let ov ← eval o X.env
      standAt apos.atName
      let (f, first) ← holding [ov] (getMethod ov m pl)
      callWith pos f first (backTo pos (starEach [] X.env)) (backToKw pos (keywordEach [] X.env))) := by rfl) :
    PQ X (.Call (.Attribute o m apos) [] [] pos) (qMethG m n dd runs f aNil) := by
  obtain ⟨te, pe, k0⟩ := hp
  refine ⟨_, pe_mx0 pe hr takes0 ht, fun σ W ρ μ F S d hd Q q => methG_run (kq := aNil) (t := tNil) OM k0 (fun σ W ρ μ F S ds hd Q q => ?_) S hd fun v W' G x r _ _ => q v W' G x r⟩
  cases hd
  exact q [] W [] (Ext.refl S.ok) ⟨rfl, rfl⟩
theorem px_methG (OM : OkMTF X m k n dd runs) (hp : PQ X o f) (hr : Room k X.A) (ha : PAQ X (e :: es) kq)
    (hst : starEach (e :: es) X.env = (false, eval e X.env) :: starEach es X.env := by rfl) (hpl : (backTo pos (starEach es X.env)).any (·.1) = false := by rfl)
    (ht : eval (.Call (.Attribute o m apos) (e :: es) [] pos) X.env = (do
      let ov ← eval o X.env
      standAt apos.atName
      let (f, first) ← holding [ov] (getMethod ov m pl)
      callWith pos f first (backTo pos (starEach (e :: es) X.env)) (backToKw pos (keywordEach [] X.env))) := by rfl) :
    PX X Wx (.Call (.Attribute o m apos) (e :: es) [] pos) (xMethG m n dd runs f kq) := by
  obtain ⟨t, pt, k1⟩ := ha
  obtain ⟨te, pe, k0⟩ := hp
  refine ⟨_, pe_mx pe hr takes0 pt hst hpl ht, fun σ W ρ μ F S o ho Q hQ => ?_⟩
  obtain ⟨d, hd, rfl⟩ := map_some ho
  exact methG_run OM k0 k1 S hd fun v W' G x r nd nw => hQ v W' G F r (S.ext x) (fresh_nd S nd nw) (fun a ha => (nw a ha).1) (x.mvG fun a ha => (nw a ha).2)
theorem px_methG0 (OM : OkMTF X m k n dd runs) (hp : PQ X o f) (hr : Room k X.A)
    (ht : eval (.Call (.Attribute o m apos) [] [] pos) X.env = (do
      let ov ← eval o X.env
      standAt apos.atName
      let (f, first) ← holding [ov] (getMethod ov m pl)
      callWith pos f first (backTo pos (starEach [] X.env)) (backToKw pos (keywordEach [] X.env))) := by rfl) :
    PX X Wx (.Call (.Attribute o m apos) [] [] pos) (xMethG m n dd runs f aNil) := by
  obtain ⟨te, pe, k0⟩ := hp
  refine ⟨_, pe_mx0 pe hr takes0 ht, fun σ W ρ μ F S o ho Q hQ => ?_⟩
  obtain ⟨d, hd, rfl⟩ := map_some ho
  refine methG_run (kq := aNil) (t := tNil) OM k0 (fun σ W ρ μ F S ds hd Q q => ?_) S hd fun v W' G x r nd nw => hQ v W' G F r (S.ext x) (fresh_nd S nd nw) (fun a ha => (nw a ha).1) (x.mvG fun a ha => (nw a ha).2)
  cases hd
  exact q [] W [] (Ext.refl S.ok) ⟨rfl, rfl⟩
end
end
/-! ### reckoning -/
def noK (n : Nat) (o : Option D) : Option D := o.bind fun d => if noO n d = true then some d else none
theorem qRunG_k (n : Nat) (dd : List D) (run : RF) (k : FA) (x0 : D) (ρ μ : List D) : qRunG n dd run k (x0 :: ρ) μ = (k (x0 :: ρ) μ).bind fun as => if (fzL as ++ dd).length = n then noK μ.length (run (fzL as ++ dd) (fzL μ)) else none := rfl
theorem xRunG_k (n : Nat) (dd : List D) (run : RF) (k : FA) (x0 : D) (ρ μ : List D) : xRunG n dd run k (x0 :: ρ) μ = (qRunG n dd run k (x0 :: ρ) μ).map fun d => .ok d (x0 :: ρ) μ := rfl
theorem qMethG_k (m : Str) (n : Nat) (dd : List D) (runs : MTF) (f : FQ) (k : FA) (x0 : D) (ρ μ : List D) : qMethG m n dd runs f k (x0 :: ρ) μ = (f (x0 :: ρ) μ).bind fun t => (clsOf μ t).bind fun z => if fidx m z.2 = none then (runs z.1).bind fun run => (k (x0 :: ρ) μ).bind fun as => if (fz t :: (fzL as ++ dd)).length = n then noK μ.length (run (fz t :: (fzL as ++ dd)) (fzL μ)) else none else none := rfl
theorem xMethG_k (m : Str) (n : Nat) (dd : List D) (runs : MTF) (f : FQ) (k : FA) (x0 : D) (ρ μ : List D) : xMethG m n dd runs f k (x0 :: ρ) μ = (qMethG m n dd runs f k (x0 :: ρ) μ).map fun d => .ok d (x0 :: ρ) μ := rfl
theorem noK_s (n : Nat) (d : D) : noK n (some d) = if noO n d = true then some d else none := rfl
theorem noK_ite {c : Prop} [Decidable c] (n : Nat) (a b : Option D) : noK n (if c then a else b) = if c then noK n a else noK n b := by split <;> rfl
theorem noO_non (n : Nat) : noO n .non = true := rfl
theorem noO_bl (n : Nat) (b : Bool) : noO n (.bl b) = true := rfl
theorem noO_int (n : Nat) (b : Int) : noO n (.int b) = true := rfl
theorem noO_str (n : Nat) (b : List Nat) : noO n (.str b) = true := rfl
theorem noO_tup (n : Nat) (ds : List D) : noO n (.tup ds) = noLL ds := rfl
theorem noO_ref (n k : Nat) : noO n (.ref k) = decide (k < n) := rfl
theorem noO_ml (n : Nat) (ds : List D) : noO n (.ml ds) = noOL n ds := rfl
theorem noO_obj (n : Nat) (c : Str) (ns : List Str) (ds : List D) : noO n (.obj c ns ds) = noOL n ds := rfl
theorem noOL_nil (n : Nat) : noOL n [] = true := rfl
theorem noOL_cons (n : Nat) (d : D) (ds : List D) : noOL n (d :: ds) = (noO n d && noOL n ds) := rfl
theorem noLL_strs : ∀ es : List (List Nat), noLL (es.map D.str) = true
  | [] => rfl
  | _ :: es => noLL_strs es
theorem noLL_ints : ∀ es : List Int, noLL (es.map D.int) = true
  | [] => rfl
  | _ :: es => noLL_ints es
def kset5 := And.intro @qRunG_k <| And.intro @xRunG_k <| And.intro @qMethG_k <| And.intro @xMethG_k <| And.intro @noK_s <| And.intro @noK_ite <| And.intro @noO_non <| And.intro @noO_bl <| And.intro @noO_int <| And.intro @noO_str <| And.intro @noO_tup <| And.intro @noO_ref <| And.intro @noO_ml <| And.intro @noO_obj <| And.intro @noOL_nil <| And.intro @noOL_cons <| And.intro @noLL_strs @noLL_ints
end Fw
/-! # more methods of texts -/
namespace Fw
open PySem PySem.Spec PyProof.Rows L2
open Evl (Ex)
/-! ### strip -/
def stripL (s t : List Nat) : List Nat := ((s.dropWhile t.contains).reverse.dropWhile t.contains).reverse
theorem drop_tw {α : Type} (p : α → Bool) : ∀ l : List α, l.drop (l.takeWhile p).length = l.dropWhile p
  | [] => rfl
  | a :: l => by
    rw [List.takeWhile_cons, List.dropWhile_cons]
    split
    · rw [List.length_cons, List.drop_succ_cons, drop_tw p l]
    · rfl
theorem tw_le {α : Type} (p : α → Bool) (l : List α) : (l.takeWhile p).length ≤ l.length := by
  have := congrArg List.length (List.takeWhile_append_dropWhile (p := p) (l := l))
  rw [List.length_append] at this
  omega
theorem arr_contains (t : List Nat) (c : Nat) : (tr t).cps.contains c = t.contains c := by
  show t.toArray.contains c = _
  simp
theorem tl_strip (s t : List Nat) : TL.tl (Txt.stripChars (tr s) (tr t)) = stripL s t := by
  have e : (tr t).cps.contains = t.contains := funext (arr_contains t)
  show TL.tl (Txt.stripBy (tr t).cps.contains true true (tr s)) = _
  rw [e, stripBy_eq, TL.tl_strSub]
  have h1 : stripLo t.contains true (tr s) = (s.takeWhile t.contains).length := rfl
  have h2 : stripHi t.contains true (tr s) (stripLo t.contains true (tr s)) = s.length - ((s.drop (s.takeWhile t.contains).length).reverse.takeWhile t.contains).length := by
    show (tr s).length - _ = _
    rw [tr_length]
    rfl
  rw [h2, h1]
  show (s.drop (s.takeWhile t.contains).length).take _ = _
  rw [drop_tw]
  unfold stripL
  have h3 : (s.dropWhile t.contains).length = s.length - (s.takeWhile t.contains).length := by
    rw [← drop_tw, List.length_drop]
  have h4 := tw_le t.contains (s.dropWhile t.contains).reverse
  rw [List.length_reverse] at h4
  have h5 := drop_tw t.contains (s.dropWhile t.contains).reverse
  rw [← h5, List.drop_reverse, List.reverse_reverse, h3]
  congr 1
  omega
def oStrip : List Nat → List D → Option D
  | s, [.str t] => if s.length ≤ LIM then some (.str (stripL s t)) else none
  | _, _ => none
theorem str_of_tl {y : Str} {l : List Nat} (h : TL.tl y = l) : y = tr l := TL.ext_tl (by rw [h])
theorem mtd_strip {X : Cx} : MtD X "str.strip" oStrip := by
  refine ⟨_, mt_stripChars, fun W s ds vs G ok rl d hd Q q => ?_⟩
  match ds, hd with
  | [.str t], hd =>
    obtain ⟨v, rfl, r1⟩ := RL_one rl
    obtain ⟨rfl, _⟩ := r1
    have hd2 : (if s.length ≤ LIM then some (D.str (stripL s t)) else none) = some d := hd
    by_cases hl : s.length ≤ LIM
    case neg => rw [if_neg hl] at hd2; cases hd2
    rw [if_pos hl] at hd2
    cases hd2
    exact ⟨tr s, tr t, rfl, rfl, by rw [tr_length]; exact lim_ok hl, q _ W [] (Ext.refl ok) ⟨congrArg V.str (str_of_tl (tl_strip s t)), rfl⟩⟩
/-! ### partition -/
def parL (s t : List Nat) : List Nat × List Nat × List Nat := match TL.par t [] s with
  | some (a, b) => (a, t, b)
  | none => (s, [], [])
def oPart : List Nat → List D → Option D
  | s, [.str t] => if t ≠ [] ∧ s.length ≤ LIM then some (.tup [.str (parL s t).1, .str (parL s t).2.1, .str (parL s t).2.2]) else none
  | _, _ => none
theorem part_tr {s t : List Nat} (h : t ≠ []) : Txt.partition (tr s) (tr t) = (tr (parL s t).1, tr (parL s t).2.1, tr (parL s t).2.2) := by
  rw [TL.partition_par (tr s) (tr t) h]
  unfold parL
  show (match TL.par t [] s with | some (a, b) => _ | none => _) = _
  cases TL.par t [] s with
  | none => rfl
  | some z => rfl
theorem mtd_partition {X : Cx} : MtD X "str.partition" oPart := by
  refine ⟨_, mt_partition, fun W s ds vs G ok rl d hd Q q => ?_⟩
  match ds, hd with
  | [.str t], hd =>
    obtain ⟨v, rfl, r1⟩ := RL_one rl
    obtain ⟨rfl, _⟩ := r1
    have hd2 : (if t ≠ [] ∧ s.length ≤ LIM then some (D.tup [.str (parL s t).1, .str (parL s t).2.1, .str (parL s t).2.2]) else none) = some d := hd
    by_cases hl : t ≠ [] ∧ s.length ≤ LIM
    case neg => rw [if_neg hl] at hd2; cases hd2
    rw [if_pos hl] at hd2
    cases hd2
    refine ⟨tr s, tr t, rfl, rfl, ?_, by rw [tr_length]; exact lim_ok hl.2, fun p hp => ?_⟩
    · rw [tr_length]
      cases t with
      | nil => exact absurd rfl hl.1
      | cons c t => rfl
    · rw [part_tr hl.1]
      refine q _ (W.put p _) [] (Ext.put ok hp) (R_newT (F := []) ok hp ?_)
      exact ⟨_, _, [], [], rfl, ⟨rfl, rfl⟩, ⟨_, _, [], [], rfl, ⟨rfl, rfl⟩, ⟨_, _, [], [], rfl, ⟨rfl, rfl⟩, ⟨rfl, rfl⟩, rfl⟩, rfl⟩, rfl⟩
/-! ### split -/
def oSplit : List Nat → List D → Option D
  | s, [.str t] => if (t ≠ [] ∧ t.all (fun c => decide (c < 256)) = true) ∧ s.length + 2 ≤ LIM then some (.lst ((TL.spl t 0 [] s).map D.str)) else none
  | _, _ => none
theorem RL_strs {K : PySem.W.Frag} {W : Wd} : ∀ l : List (List Nat), RL K W (l.map D.str) ((l.map tr).map V.str) []
  | [] => ⟨rfl, rfl⟩
  | s :: l => ⟨_, _, [], [], rfl, ⟨rfl, rfl⟩, RL_strs l, rfl⟩
theorem split_tr {s t : List Nat} (h : t ≠ []) (h2 : t.all (fun c => decide (c < 256)) = true) : Txt.split (tr s) (tr t) = (TL.spl t 0 [] s).map tr := by
  refine TL.map_tl_inj ?_
  rw [TL.split_spl (tr s) (tr t) h]
  · rw [map_tl_tr]
  · have e : Builtin.Str.strKind (tr t) = 1 := by
      unfold Builtin.Str.strKind
      rw [if_pos]
      show t.toArray.all _ = true
      simpa using h2
    rw [e]
    unfold Builtin.Str.strKind
    split
    · decide
    · split <;> decide
theorem mtd_split {X : Cx} : MtD X "str.split" oSplit := by
  refine ⟨_, mt_split, fun W s ds vs G ok rl d hd Q q => ?_⟩
  match ds, hd with
  | [.str t], hd =>
    obtain ⟨v, rfl, r1⟩ := RL_one rl
    obtain ⟨rfl, _⟩ := r1
    have hd2 : (if (t ≠ [] ∧ t.all (fun c => decide (c < 256)) = true) ∧ s.length + 2 ≤ LIM then some (D.lst ((TL.spl t 0 [] s).map D.str)) else none) = some d := hd
    by_cases hl : (t ≠ [] ∧ t.all (fun c => decide (c < 256)) = true) ∧ s.length + 2 ≤ LIM
    case neg => rw [if_neg hl] at hd2; cases hd2
    rw [if_pos hl] at hd2
    cases hd2
    refine ⟨tr s, tr t, rfl, rfl, ?_, by rw [tr_length]; exact lim_ok hl.2, fun p hp => ?_⟩
    · rw [tr_length]
      cases t with
      | nil => exact absurd rfl hl.1.1
      | cons c t => rfl
    · rw [split_tr hl.1.1 hl.1.2]
      exact q _ (W.frz p _) [] (Ext.frz ok hp) (R_newL ok hp (RL_strs _))
/-! ### reckoning -/
theorem oStrip_k {s t : List Nat} (h : s.length ≤ 1000000) : oStrip s [.str t] = some (.str (stripL s t)) := if_pos (lk h)
theorem oPart_k {s : List Nat} {c : Nat} {t : List Nat} (h : s.length ≤ 1000000) : oPart s [.str (c :: t)] = some (.tup [.str (parL s (c :: t)).1, .str (parL s (c :: t)).2.1, .str (parL s (c :: t)).2.2]) := if_pos ⟨List.cons_ne_nil _ _, lk h⟩
theorem oSplit_k {s : List Nat} {c : Nat} (h : s.length ≤ 900000) (hc : c < 256) : oSplit s [.str [c]] = some (.lst ((TL.spl [c] 0 [] s).map D.str)) := by
  have h2 : s.length + 2 ≤ LIM := by show _ ≤ 1000000; omega
  exact if_pos ⟨⟨List.cons_ne_nil _ _, by simp [hc]⟩, h2⟩
theorem boolsD_fun {α : Type} (f : α → Bool) : ∀ l : List α, boolsD (l.map fun x => .bl (f x)) = some (l.map f)
  | [] => rfl
  | a :: l => by
    show (boolsD (l.map fun x => .bl (f x))).map _ = _
    rw [boolsD_fun f l]
    rfl
theorem intsD_fun {α : Type} (f : α → Int) : ∀ l : List α, intsD (l.map fun x => .int (f x)) = some (l.map f)
  | [] => rfl
  | a :: l => by
    show (intsD (l.map fun x => .int (f x))).map _ = _
    rw [intsD_fun f l]
    rfl
theorem dIs_n (d : D) : dIs d .non = some (.bl (isNonD d)) := by cases d <;> rfl
theorem dIsNot_n (d : D) : dIsNot d .non = some (.bl (!isNonD d)) := by cases d <;> rfl
theorem isNonD_non : isNonD .non = true := rfl
theorem isNonD_int (i : Int) : isNonD (.int i) = false := rfl
theorem isNonD_str (i : List Nat) : isNonD (.str i) = false := rfl
theorem isNonD_bl (i : Bool) : isNonD (.bl i) = false := rfl
theorem isNonD_tup (i : List D) : isNonD (.tup i) = false := rfl
theorem isNonD_lst (i : List D) : isNonD (.lst i) = false := rfl
theorem isNonD_ml (i : List D) : isNonD (.ml i) = false := rfl
theorem isNonD_obj (c : Str) (ns : List Str) (i : List D) : isNonD (.obj c ns i) = false := rfl
theorem isNonD_fo (c : Str) (ns : List Str) (i : List D) : isNonD (.fo c ns i) = false := rfl
theorem isNonD_ref (i : Nat) : isNonD (.ref i) = false := rfl
theorem dTuple_lst (ds : List D) : dTuple (.lst ds) = some (.tup ds) := rfl
theorem dTuple_tup (ds : List D) : dTuple (.tup ds) = some (.tup ds) := rfl
theorem dTuple_ml {ds : List D} (h : dataL ds = true) : dTuple (.ml ds) = some (.tup ds) := by
  show (asL (.ml ds)).map D.tup = _
  show (if dataL ds = true then some ds else none).map D.tup = _
  rw [if_pos h]
  rfl
theorem eqT_tup {a b : List D} : eqT (.tup a) (.tup b) = eqT (.lst a) (.lst b) := by
  rw [Bool.eq_iff_iff, eqT_iff, eqT_iff, D.tup.injEq, D.lst.injEq]
theorem eqT_nil : eqT (.lst []) (.lst []) = true := eqT_self _
theorem eqT_nc (d : D) (ds : List D) : eqT (.lst []) (.lst (d :: ds)) = false := eqT_neg fun h => nomatch D.lst.inj h
theorem eqT_cn (d : D) (ds : List D) : eqT (.lst (d :: ds)) (.lst []) = false := eqT_neg fun h => nomatch D.lst.inj h
def kset8 := And.intro @eqT_tup <| And.intro @eqT_nil <| And.intro @eqT_nc @eqT_cn
def apK (i : Nat) (q : List Str) (ρ μ : List D) (r : D) (t o : Option D) : Option SO := t.bind fun t => match t with
  | .ml ds => o.bind fun d => if data d = true ∧ ds.length ≤ LIM then (pput q r (.ml (ds ++ [d]))).map fun r' => .nx (ρ.set i r') μ else none
  | _ => none
theorem fAppF_k (ok : OkT) (i : Nat) (q : List Str) (f : FQ) (x0 : D) (ρ μ : List D) : fAppF ok i q f (x0 :: ρ) μ = ((x0 :: ρ)[i]?).bind fun r => apK i q (x0 :: ρ) μ r (pget ok q r) (f (x0 :: ρ) μ) := rfl
theorem apK_ml {i : Nat} {q : List Str} {ρ μ : List D} {r d : D} {ds : List D} (h : ds.length ≤ 1000000) : apK i q ρ μ r (some (.ml ds)) (some d) = if data d = true then (pput q r (.ml (ds ++ [d]))).map fun r' => .nx (ρ.set i r') μ else none := by
  show (if data d = true ∧ ds.length ≤ LIM then _ else none) = _
  by_cases z : data d = true
  · rw [if_pos ⟨z, lk h⟩, if_pos z]
  · rw [if_neg fun w => z w.1, if_neg z]
def kset9 := And.intro @fAppF_k @apK_ml
def kset7 := And.intro kset9 <| And.intro kset8 <| And.intro @dTuple_lst <| And.intro @dTuple_tup <| And.intro @dTuple_ml <| And.intro @dIs_n <| And.intro @dIsNot_n <| And.intro @isNonD_non <| And.intro @isNonD_int <| And.intro @isNonD_str <| And.intro @isNonD_bl <| And.intro @isNonD_tup <| And.intro @isNonD_lst <| And.intro @isNonD_ml <| And.intro @isNonD_obj <| And.intro @isNonD_fo @isNonD_ref
def kset6 := And.intro kset7 <| And.intro @boolsD_fun <| And.intro @intsD_fun <| And.intro @oStrip_k <| And.intro @oPart_k @oSplit_k
end Fw
/-! # int of a text or of a truth -/
namespace Fw
open PySem PySem.Spec PyProof.Rows L2
open Evl (Ex)
section
variable {X : Cx}
theorem call_int_bl : CallR X (.type "int") (fun xs H Q => ∃ b, xs = [.bl b] ∧ Q (.int (if b = true then 1 else 0)) H) := by
  intro pins s σ H xs us Q I rs h
  obtain ⟨b, rfl, h⟩ := h
  cases rs with
  | cons r1 rs =>
    cases rs
    cases r1
    exact PySem.call_int_bool ⟨.int _, H, I.tok _, ⟨_, rfl⟩, h⟩
def oInt : D → Option D
  | .str s => if s.length ≤ 640 then (PySem.intText? (tr s)).map D.int else none
  | .bl b => some (.int (if b = true then 1 else 0))
  | _ => none
theorem cd_int : CallD X (.type "int") (o1 oInt) := by
  refine ⟨_, CallR.or call_int_str call_int_bl, fun W ds vs G ok r d hd Q q => ?_⟩
  match ds, hd with
  | [x], hd =>
    obtain ⟨v, rfl, r1⟩ := RL_one r
    cases x with
    | str s =>
      have hd2 : (if s.length ≤ 640 then (PySem.intText? (tr s)).map D.int else none) = some d := hd
      by_cases hl : s.length ≤ 640
      · rw [if_pos hl] at hd2
        obtain ⟨n, e, rfl⟩ := map_some hd2
        obtain ⟨rfl, _⟩ := r1
        exact .inl ⟨tr s, n, rfl, e, by rw [tr_length]; exact hl, q _ W [] (Ext.refl ok) ⟨rfl, rfl⟩⟩
      · rw [if_neg hl] at hd2
        cases hd2
    | bl b =>
      cases hd
      obtain ⟨rfl, _⟩ := r1
      exact .inr ⟨b, rfl, q _ W [] (Ext.refl ok) ⟨rfl, rfl⟩⟩
    | _ => cases hd
  | [], hd => cases hd
  | _ :: _ :: _, hd => cases hd
end
theorem oInt_bl (b : Bool) : oInt (.bl b) = some (.int (if b = true then 1 else 0)) := rfl
theorem oInt_num {n : Nat} (h : n < 10 ^ 10) : oInt (.str (TL.numL n)) = some (.int (n : Int)) := by
  have e : tr (TL.numL n) = Str.ofString (toString ((n : Nat) : Int)) := by
    exact (str_of_tl (TL.tl_num n)).symm
  have h1 := PySem.W.KIN.num_reads (n := (n : Int)) (by omega) (by omega)
  have h2 := TL.numL_len (k := 10) (by decide) h
  show (if (TL.numL n).length ≤ 640 then (PySem.intText? (tr (TL.numL n))).map D.int else none) = _
  rw [if_pos (by omega), e, h1]
  rfl
def kset10 := @oInt_bl
end Fw
namespace G
open PySem PySem.Spec PyProof.Rows L2 Fw
def top (i : Nat) : Stmt := PySem.Challenge.pw_framepost_k32_what_may_come_in_rows.main.body.getD i (.Pass ⟨0, 0, 0, 0⟩)
def mstm (s : Stmt) (j : Nat) : Stmt := match s with
  | .ClassDef _ _ _ body _ _ _ _ _ _ _ => body.getD j (.Pass ⟨0, 0, 0, 0⟩)
  | s => s
theorem lit0 : ofS "" = [] := by decide +kernel
theorem lit1 : ofS "\n" = [10] := by decide +kernel
theorem lit2 : ofS " " = [32] := by decide +kernel
theorem lit3 : ofS "0" = [48] := by decide +kernel
theorem lit4 : ofS "0123456789" = [48, 49, 50, 51, 52, 53, 54, 55, 56, 57] := by decide +kernel
theorem lit5 : ofS "0123456789abcdef" = [48, 49, 50, 51, 52, 53, 54, 55, 56, 57, 97, 98, 99, 100, 101, 102] := by decide +kernel
theorem lit6 : ofS "12345678" = [49, 50, 51, 52, 53, 54, 55, 56] := by decide +kernel
theorem lit7 : ofS "4" = [52] := by decide +kernel
theorem lit8 : ofS ":" = [58] := by decide +kernel
theorem lit9 : ofS ": " = [58, 32] := by decide +kernel
theorem lit10 : ofS ";" = [59] := by decide +kernel
theorem lit11 : ofS ";\n" = [59, 10] := by decide +kernel
theorem lit12 : ofS "; " = [59, 32] := by decide +kernel
theorem lit13 : ofS "A" = [65] := by decide +kernel
theorem lit14 : ofS "a" = [97] := by decide +kernel
theorem lit15 : ofS "abcdefgh" = [97, 98, 99, 100, 101, 102, 103, 104] := by decide +kernel
theorem lit16 : ofS "b" = [98] := by decide +kernel
theorem lit17 : ofS "b  c" = [98, 32, 32, 99] := by decide +kernel
theorem lit18 : ofS "l" = [108] := by decide +kernel
theorem lit19 : ofS "lengt" = [108, 101, 110, 103, 116] := by decide +kernel
theorem lit20 : ofS "length" = [108, 101, 110, 103, 116, 104] := by decide +kernel
theorem lit21 : ofS "length: 0" = [108, 101, 110, 103, 116, 104, 58, 32, 48] := by decide +kernel
theorem lit22 : ofS "length: 12" = [108, 101, 110, 103, 116, 104, 58, 32, 49, 50] := by decide +kernel
theorem lit23 : ofS "length: 13" = [108, 101, 110, 103, 116, 104, 58, 32, 49, 51] := by decide +kernel
theorem lit24 : ofS "length: 400" = [108, 101, 110, 103, 116, 104, 58, 32, 52, 48, 48] := by decide +kernel
theorem lit25 : ofS "p" = [112] := by decide +kernel
theorem lit26 : ofS "parts" = [112, 97, 114, 116, 115] := by decide +kernel
theorem lit27 : ofS "parts: yes" = [112, 97, 114, 116, 115, 58, 32, 121, 101, 115] := by decide +kernel
theorem lit28 : ofS "partsa" = [112, 97, 114, 116, 115, 97] := by decide +kernel
theorem lit29 : ofS "pieces" = [112, 105, 101, 99, 101, 115] := by decide +kernel
theorem lit30 : ofS "pieces: yes" = [112, 105, 101, 99, 101, 115, 58, 32, 121, 101, 115] := by decide +kernel
theorem lit31 : ofS "r" = [114] := by decide +kernel
theorem lit32 : ofS "rest" = [114, 101, 115, 116] := by decide +kernel
theorem lit33 : ofS "rest: yes" = [114, 101, 115, 116, 58, 32, 121, 101, 115] := by decide +kernel
theorem lit34 : ofS "rests" = [114, 101, 115, 116, 115] := by decide +kernel
theorem lit35 : ofS "t" = [116] := by decide +kernel
theorem lit36 : ofS "to" = [116, 111] := by decide +kernel
theorem lit37 : ofS "two w" = [116, 119, 111, 32, 119] := by decide +kernel
theorem lit38 : ofS "v" = [118] := by decide +kernel
theorem lit39 : ofS "x x" = [120, 32, 120] := by decide +kernel
theorem lit40 : ofS "y" = [121] := by decide +kernel
theorem lit41 : ofS "yes" = [121, 101, 115] := by decide +kernel
theorem lit42 : ofS "z" = [122] := by decide +kernel
theorem lit43 : ofS "~" = [126] := by decide +kernel
def g_END_NAMES : D := .tup [.str (ofS "length"), .str (ofS "pieces"), .str (ofS "parts"), .str (ofS "rest")]
theorem gv_END_NAMES : g_END_NAMES = .tup [.str (ofS "length"), .str (ofS "pieces"), .str (ofS "parts"), .str (ofS "rest")] := rfl
def g_FIGURES : D := .str (ofS "0123456789abcdef")
theorem gv_FIGURES : g_FIGURES = .str (ofS "0123456789abcdef") := rfl
def g_ROW_END : D := .str (ofS ";\n")
theorem gv_ROW_END : g_ROW_END = .str (ofS ";\n") := rfl
def okL : List (Str × Str) := [("Exact", "many"), ("Exact", "text"), ("RowEnd", "many"), ("RowEnd", "text"), ("Number", "base"), ("Number", "figures"), ("Number", "most"), ("Number", "number"), ("Name", "ends"), ("Name", "most"), ("Name", "room"), ("Name", "text"), ("Value", "most"), ("Value", "text"), ("FieldRow", "book"), ("FieldRow", "ends"), ("FieldRow", "filled"), ("FieldRow", "gap"), ("FieldRow", "label"), ("FieldRow", "tail"), ("Fields", "book"), ("Fields", "closing"), ("Fields", "ends"), ("Fields", "kept"), ("Fields", "ready"), ("Fields", "room"), ("Fields", "row")]
def okF : OkT := okT okL
theorem okf_Exact_many : okF "Exact" "many" = true := by decide +kernel
theorem okf_Exact_text : okF "Exact" "text" = true := by decide +kernel
theorem okf_RowEnd_many : okF "RowEnd" "many" = true := by decide +kernel
theorem okf_RowEnd_text : okF "RowEnd" "text" = true := by decide +kernel
theorem okf_Number_base : okF "Number" "base" = true := by decide +kernel
theorem okf_Number_figures : okF "Number" "figures" = true := by decide +kernel
theorem okf_Number_most : okF "Number" "most" = true := by decide +kernel
theorem okf_Number_number : okF "Number" "number" = true := by decide +kernel
theorem okf_Name_ends : okF "Name" "ends" = true := by decide +kernel
theorem okf_Name_most : okF "Name" "most" = true := by decide +kernel
theorem okf_Name_room : okF "Name" "room" = true := by decide +kernel
theorem okf_Name_text : okF "Name" "text" = true := by decide +kernel
theorem okf_Value_most : okF "Value" "most" = true := by decide +kernel
theorem okf_Value_text : okF "Value" "text" = true := by decide +kernel
theorem okf_FieldRow_book : okF "FieldRow" "book" = true := by decide +kernel
theorem okf_FieldRow_ends : okF "FieldRow" "ends" = true := by decide +kernel
theorem okf_FieldRow_filled : okF "FieldRow" "filled" = true := by decide +kernel
theorem okf_FieldRow_gap : okF "FieldRow" "gap" = true := by decide +kernel
theorem okf_FieldRow_label : okF "FieldRow" "label" = true := by decide +kernel
theorem okf_FieldRow_tail : okF "FieldRow" "tail" = true := by decide +kernel
theorem okf_Fields_book : okF "Fields" "book" = true := by decide +kernel
theorem okf_Fields_closing : okF "Fields" "closing" = true := by decide +kernel
theorem okf_Fields_ends : okF "Fields" "ends" = true := by decide +kernel
theorem okf_Fields_kept : okF "Fields" "kept" = true := by decide +kernel
theorem okf_Fields_ready : okF "Fields" "ready" = true := by decide +kernel
theorem okf_Fields_room : okF "Fields" "room" = true := by decide +kernel
theorem okf_Fields_row : okF "Fields" "row" = true := by decide +kernel
def sh_Exact : List Str := ["text", "many"]
theorem ix_Exact_awaited : fidx "awaited" sh_Exact = none := by decide +kernel
theorem ix_Exact_fed : fidx "fed" sh_Exact = none := by decide +kernel
theorem ix_Exact_good : fidx "good" sh_Exact = none := by decide +kernel
theorem ix_Exact_many : fidx "many" sh_Exact = some 1 := by decide +kernel
theorem ix_Exact_text : fidx "text" sh_Exact = some 0 := by decide +kernel
theorem ix_Exact_told : fidx "told" sh_Exact = none := by decide +kernel
theorem ln_Exact : sh_Exact.length = 2 := rfl
theorem put_Exact_0 (d : D) : putD "text" d "Exact" [] [] = .obj "Exact" ["text"] [d] := by rfl
theorem put_Exact_1 (d : D) (a0 : D) : putD "many" d "Exact" ["text"] [a0] = .obj "Exact" sh_Exact [a0, d] := by rfl
theorem set_Exact_text (d : D) (ds : List D) : putD "text" d "Exact" sh_Exact ds = .obj "Exact" sh_Exact (ds.set 0 d) := by rfl
theorem set_Exact_many (d : D) (ds : List D) : putD "many" d "Exact" sh_Exact ds = .obj "Exact" sh_Exact (ds.set 1 d) := by rfl
def sh_RowEnd : List Str := ["text", "many"]
theorem ix_RowEnd_awaited : fidx "awaited" sh_RowEnd = none := by decide +kernel
theorem ix_RowEnd_fed : fidx "fed" sh_RowEnd = none := by decide +kernel
theorem ix_RowEnd_good : fidx "good" sh_RowEnd = none := by decide +kernel
theorem ix_RowEnd_many : fidx "many" sh_RowEnd = some 1 := by decide +kernel
theorem ix_RowEnd_text : fidx "text" sh_RowEnd = some 0 := by decide +kernel
theorem ln_RowEnd : sh_RowEnd.length = 2 := rfl
theorem put_RowEnd_0 (d : D) : putD "text" d "RowEnd" [] [] = .obj "RowEnd" ["text"] [d] := by rfl
theorem put_RowEnd_1 (d : D) (a0 : D) : putD "many" d "RowEnd" ["text"] [a0] = .obj "RowEnd" sh_RowEnd [a0, d] := by rfl
theorem set_RowEnd_text (d : D) (ds : List D) : putD "text" d "RowEnd" sh_RowEnd ds = .obj "RowEnd" sh_RowEnd (ds.set 0 d) := by rfl
theorem set_RowEnd_many (d : D) (ds : List D) : putD "many" d "RowEnd" sh_RowEnd ds = .obj "RowEnd" sh_RowEnd (ds.set 1 d) := by rfl
def sh_Number : List Str := ["base", "most", "figures", "number"]
theorem ix_Number_awaited : fidx "awaited" sh_Number = none := by decide +kernel
theorem ix_Number_base : fidx "base" sh_Number = some 0 := by decide +kernel
theorem ix_Number_fed : fidx "fed" sh_Number = none := by decide +kernel
theorem ix_Number_figures : fidx "figures" sh_Number = some 2 := by decide +kernel
theorem ix_Number_good : fidx "good" sh_Number = none := by decide +kernel
theorem ix_Number_most : fidx "most" sh_Number = some 1 := by decide +kernel
theorem ix_Number_number : fidx "number" sh_Number = some 3 := by decide +kernel
theorem ix_Number_told : fidx "told" sh_Number = none := by decide +kernel
theorem ln_Number : sh_Number.length = 4 := rfl
theorem put_Number_0 (d : D) : putD "base" d "Number" [] [] = .obj "Number" ["base"] [d] := by rfl
theorem put_Number_1 (d : D) (a0 : D) : putD "most" d "Number" ["base"] [a0] = .obj "Number" ["base", "most"] [a0, d] := by rfl
theorem put_Number_2 (d : D) (a0 a1 : D) : putD "figures" d "Number" ["base", "most"] [a0, a1] = .obj "Number" ["base", "most", "figures"] [a0, a1, d] := by rfl
theorem put_Number_3 (d : D) (a0 a1 a2 : D) : putD "number" d "Number" ["base", "most", "figures"] [a0, a1, a2] = .obj "Number" sh_Number [a0, a1, a2, d] := by rfl
theorem set_Number_base (d : D) (ds : List D) : putD "base" d "Number" sh_Number ds = .obj "Number" sh_Number (ds.set 0 d) := by rfl
theorem set_Number_most (d : D) (ds : List D) : putD "most" d "Number" sh_Number ds = .obj "Number" sh_Number (ds.set 1 d) := by rfl
theorem set_Number_figures (d : D) (ds : List D) : putD "figures" d "Number" sh_Number ds = .obj "Number" sh_Number (ds.set 2 d) := by rfl
theorem set_Number_number (d : D) (ds : List D) : putD "number" d "Number" sh_Number ds = .obj "Number" sh_Number (ds.set 3 d) := by rfl
def sh_Name : List Str := ["most", "room", "ends", "text"]
theorem ix_Name_awaited : fidx "awaited" sh_Name = none := by decide +kernel
theorem ix_Name_ends : fidx "ends" sh_Name = some 2 := by decide +kernel
theorem ix_Name_fed : fidx "fed" sh_Name = none := by decide +kernel
theorem ix_Name_good : fidx "good" sh_Name = none := by decide +kernel
theorem ix_Name_is_good : fidx "is_good" sh_Name = none := by decide +kernel
theorem ix_Name_is_hopeful : fidx "is_hopeful" sh_Name = none := by decide +kernel
theorem ix_Name_most : fidx "most" sh_Name = some 0 := by decide +kernel
theorem ix_Name_room : fidx "room" sh_Name = some 1 := by decide +kernel
theorem ix_Name_text : fidx "text" sh_Name = some 3 := by decide +kernel
theorem ix_Name_told : fidx "told" sh_Name = none := by decide +kernel
theorem ln_Name : sh_Name.length = 4 := rfl
theorem put_Name_0 (d : D) : putD "most" d "Name" [] [] = .obj "Name" ["most"] [d] := by rfl
theorem put_Name_1 (d : D) (a0 : D) : putD "room" d "Name" ["most"] [a0] = .obj "Name" ["most", "room"] [a0, d] := by rfl
theorem put_Name_2 (d : D) (a0 a1 : D) : putD "ends" d "Name" ["most", "room"] [a0, a1] = .obj "Name" ["most", "room", "ends"] [a0, a1, d] := by rfl
theorem put_Name_3 (d : D) (a0 a1 a2 : D) : putD "text" d "Name" ["most", "room", "ends"] [a0, a1, a2] = .obj "Name" sh_Name [a0, a1, a2, d] := by rfl
theorem set_Name_most (d : D) (ds : List D) : putD "most" d "Name" sh_Name ds = .obj "Name" sh_Name (ds.set 0 d) := by rfl
theorem set_Name_room (d : D) (ds : List D) : putD "room" d "Name" sh_Name ds = .obj "Name" sh_Name (ds.set 1 d) := by rfl
theorem set_Name_ends (d : D) (ds : List D) : putD "ends" d "Name" sh_Name ds = .obj "Name" sh_Name (ds.set 2 d) := by rfl
theorem set_Name_text (d : D) (ds : List D) : putD "text" d "Name" sh_Name ds = .obj "Name" sh_Name (ds.set 3 d) := by rfl
def sh_Value : List Str := ["most", "text"]
theorem ix_Value_awaited : fidx "awaited" sh_Value = none := by decide +kernel
theorem ix_Value_fed : fidx "fed" sh_Value = none := by decide +kernel
theorem ix_Value_good : fidx "good" sh_Value = none := by decide +kernel
theorem ix_Value_most : fidx "most" sh_Value = some 0 := by decide +kernel
theorem ix_Value_text : fidx "text" sh_Value = some 1 := by decide +kernel
theorem ix_Value_told : fidx "told" sh_Value = none := by decide +kernel
theorem ln_Value : sh_Value.length = 2 := rfl
theorem put_Value_0 (d : D) : putD "most" d "Value" [] [] = .obj "Value" ["most"] [d] := by rfl
theorem put_Value_1 (d : D) (a0 : D) : putD "text" d "Value" ["most"] [a0] = .obj "Value" sh_Value [a0, d] := by rfl
theorem set_Value_most (d : D) (ds : List D) : putD "most" d "Value" sh_Value ds = .obj "Value" sh_Value (ds.set 0 d) := by rfl
theorem set_Value_text (d : D) (ds : List D) : putD "text" d "Value" sh_Value ds = .obj "Value" sh_Value (ds.set 1 d) := by rfl
def sh_FieldRow : List Str := ["book", "ends", "label", "gap", "filled", "tail"]
theorem ix_FieldRow_awaited : fidx "awaited" sh_FieldRow = none := by decide +kernel
theorem ix_FieldRow_book : fidx "book" sh_FieldRow = some 0 := by decide +kernel
theorem ix_FieldRow_ends : fidx "ends" sh_FieldRow = some 1 := by decide +kernel
theorem ix_FieldRow_fed : fidx "fed" sh_FieldRow = none := by decide +kernel
theorem ix_FieldRow_filled : fidx "filled" sh_FieldRow = some 4 := by decide +kernel
theorem ix_FieldRow_gap : fidx "gap" sh_FieldRow = some 3 := by decide +kernel
theorem ix_FieldRow_is_end : fidx "is_end" sh_FieldRow = none := by decide +kernel
theorem ix_FieldRow_label : fidx "label" sh_FieldRow = some 2 := by decide +kernel
theorem ix_FieldRow_number_begun : fidx "number_begun" sh_FieldRow = none := by decide +kernel
theorem ix_FieldRow_tail : fidx "tail" sh_FieldRow = some 5 := by decide +kernel
theorem ix_FieldRow_told : fidx "told" sh_FieldRow = none := by decide +kernel
theorem ix_FieldRow_value_for : fidx "value_for" sh_FieldRow = none := by decide +kernel
theorem ix_FieldRow_whole : fidx "whole" sh_FieldRow = none := by decide +kernel
theorem ln_FieldRow : sh_FieldRow.length = 6 := rfl
theorem put_FieldRow_0 (d : D) : putD "book" d "FieldRow" [] [] = .obj "FieldRow" ["book"] [d] := by rfl
theorem put_FieldRow_1 (d : D) (a0 : D) : putD "ends" d "FieldRow" ["book"] [a0] = .obj "FieldRow" ["book", "ends"] [a0, d] := by rfl
theorem put_FieldRow_2 (d : D) (a0 a1 : D) : putD "label" d "FieldRow" ["book", "ends"] [a0, a1] = .obj "FieldRow" ["book", "ends", "label"] [a0, a1, d] := by rfl
theorem put_FieldRow_3 (d : D) (a0 a1 a2 : D) : putD "gap" d "FieldRow" ["book", "ends", "label"] [a0, a1, a2] = .obj "FieldRow" ["book", "ends", "label", "gap"] [a0, a1, a2, d] := by rfl
theorem put_FieldRow_4 (d : D) (a0 a1 a2 a3 : D) : putD "filled" d "FieldRow" ["book", "ends", "label", "gap"] [a0, a1, a2, a3] = .obj "FieldRow" ["book", "ends", "label", "gap", "filled"] [a0, a1, a2, a3, d] := by rfl
theorem put_FieldRow_5 (d : D) (a0 a1 a2 a3 a4 : D) : putD "tail" d "FieldRow" ["book", "ends", "label", "gap", "filled"] [a0, a1, a2, a3, a4] = .obj "FieldRow" sh_FieldRow [a0, a1, a2, a3, a4, d] := by rfl
theorem set_FieldRow_book (d : D) (ds : List D) : putD "book" d "FieldRow" sh_FieldRow ds = .obj "FieldRow" sh_FieldRow (ds.set 0 d) := by rfl
theorem set_FieldRow_ends (d : D) (ds : List D) : putD "ends" d "FieldRow" sh_FieldRow ds = .obj "FieldRow" sh_FieldRow (ds.set 1 d) := by rfl
theorem set_FieldRow_label (d : D) (ds : List D) : putD "label" d "FieldRow" sh_FieldRow ds = .obj "FieldRow" sh_FieldRow (ds.set 2 d) := by rfl
theorem set_FieldRow_gap (d : D) (ds : List D) : putD "gap" d "FieldRow" sh_FieldRow ds = .obj "FieldRow" sh_FieldRow (ds.set 3 d) := by rfl
theorem set_FieldRow_filled (d : D) (ds : List D) : putD "filled" d "FieldRow" sh_FieldRow ds = .obj "FieldRow" sh_FieldRow (ds.set 4 d) := by rfl
theorem set_FieldRow_tail (d : D) (ds : List D) : putD "tail" d "FieldRow" sh_FieldRow ds = .obj "FieldRow" sh_FieldRow (ds.set 5 d) := by rfl
def sh_Fields : List Str := ["book", "room", "ends", "kept", "closing", "ready", "row"]
theorem ix_Fields_awaited : fidx "awaited" sh_Fields = none := by decide +kernel
theorem ix_Fields_book : fidx "book" sh_Fields = some 0 := by decide +kernel
theorem ix_Fields_closing : fidx "closing" sh_Fields = some 4 := by decide +kernel
theorem ix_Fields_ends : fidx "ends" sh_Fields = some 2 := by decide +kernel
theorem ix_Fields_fed : fidx "fed" sh_Fields = none := by decide +kernel
theorem ix_Fields_kept : fidx "kept" sh_Fields = some 3 := by decide +kernel
theorem ix_Fields_next_row : fidx "next_row" sh_Fields = none := by decide +kernel
theorem ix_Fields_ready : fidx "ready" sh_Fields = some 5 := by decide +kernel
theorem ix_Fields_room : fidx "room" sh_Fields = some 1 := by decide +kernel
theorem ix_Fields_room_left : fidx "room_left" sh_Fields = none := by decide +kernel
theorem ix_Fields_row : fidx "row" sh_Fields = some 6 := by decide +kernel
theorem ix_Fields_told : fidx "told" sh_Fields = none := by decide +kernel
theorem ix_Fields_told_end : fidx "told_end" sh_Fields = none := by decide +kernel
theorem ix_Fields_whole : fidx "whole" sh_Fields = none := by decide +kernel
theorem ln_Fields : sh_Fields.length = 7 := rfl
theorem put_Fields_0 (d : D) : putD "book" d "Fields" [] [] = .obj "Fields" ["book"] [d] := by rfl
theorem put_Fields_1 (d : D) (a0 : D) : putD "room" d "Fields" ["book"] [a0] = .obj "Fields" ["book", "room"] [a0, d] := by rfl
theorem put_Fields_2 (d : D) (a0 a1 : D) : putD "ends" d "Fields" ["book", "room"] [a0, a1] = .obj "Fields" ["book", "room", "ends"] [a0, a1, d] := by rfl
theorem put_Fields_3 (d : D) (a0 a1 a2 : D) : putD "kept" d "Fields" ["book", "room", "ends"] [a0, a1, a2] = .obj "Fields" ["book", "room", "ends", "kept"] [a0, a1, a2, d] := by rfl
theorem put_Fields_4 (d : D) (a0 a1 a2 a3 : D) : putD "closing" d "Fields" ["book", "room", "ends", "kept"] [a0, a1, a2, a3] = .obj "Fields" ["book", "room", "ends", "kept", "closing"] [a0, a1, a2, a3, d] := by rfl
theorem put_Fields_5 (d : D) (a0 a1 a2 a3 a4 : D) : putD "ready" d "Fields" ["book", "room", "ends", "kept", "closing"] [a0, a1, a2, a3, a4] = .obj "Fields" ["book", "room", "ends", "kept", "closing", "ready"] [a0, a1, a2, a3, a4, d] := by rfl
theorem put_Fields_6 (d : D) (a0 a1 a2 a3 a4 a5 : D) : putD "row" d "Fields" ["book", "room", "ends", "kept", "closing", "ready"] [a0, a1, a2, a3, a4, a5] = .obj "Fields" sh_Fields [a0, a1, a2, a3, a4, a5, d] := by rfl
theorem set_Fields_book (d : D) (ds : List D) : putD "book" d "Fields" sh_Fields ds = .obj "Fields" sh_Fields (ds.set 0 d) := by rfl
theorem set_Fields_room (d : D) (ds : List D) : putD "room" d "Fields" sh_Fields ds = .obj "Fields" sh_Fields (ds.set 1 d) := by rfl
theorem set_Fields_ends (d : D) (ds : List D) : putD "ends" d "Fields" sh_Fields ds = .obj "Fields" sh_Fields (ds.set 2 d) := by rfl
theorem set_Fields_kept (d : D) (ds : List D) : putD "kept" d "Fields" sh_Fields ds = .obj "Fields" sh_Fields (ds.set 3 d) := by rfl
theorem set_Fields_closing (d : D) (ds : List D) : putD "closing" d "Fields" sh_Fields ds = .obj "Fields" sh_Fields (ds.set 4 d) := by rfl
theorem set_Fields_ready (d : D) (ds : List D) : putD "ready" d "Fields" sh_Fields ds = .obj "Fields" sh_Fields (ds.set 5 d) := by rfl
theorem set_Fields_row (d : D) (ds : List D) : putD "row" d "Fields" sh_Fields ds = .obj "Fields" sh_Fields (ds.set 6 d) := by rfl
abbrev s__law_cell_at : Stmt := top 17
abbrev s__law_stream : Stmt := top 18
abbrev s__law_plan : Stmt := top 30
abbrev s_Name___init__ : Stmt := mstm (top 11) 0
abbrev s_Exact___init__ : Stmt := mstm (top 8) 0
abbrev s_RowEnd___init__ : Stmt := mstm (top 9) 0
abbrev s_FieldRow___init__ : Stmt := mstm (top 14) 0
abbrev s_Fields___init__ : Stmt := mstm (top 15) 0
abbrev s__law_sign : Stmt := top 29
abbrev s_Fields_whole : Stmt := mstm (top 15) 3
abbrev s_Fields_told : Stmt := mstm (top 15) 5
abbrev s_Fields_told_end : Stmt := mstm (top 15) 6
abbrev s_Fields_room_left : Stmt := mstm (top 15) 8
abbrev s_Name_is_good : Stmt := mstm (top 11) 1
abbrev s_Name_good : Stmt := mstm (top 11) 4
abbrev s_Name_awaited : Stmt := mstm (top 11) 5
abbrev s_Exact_awaited : Stmt := mstm (top 8) 3
abbrev s_Name_told : Stmt := mstm (top 11) 6
abbrev s_Number_awaited : Stmt := mstm (top 10) 3
abbrev s_Value_good : Stmt := mstm (top 12) 2
abbrev s_Value_awaited : Stmt := mstm (top 12) 3
abbrev s_FieldRow_is_end : Stmt := mstm (top 14) 1
abbrev s_Value___init__ : Stmt := mstm (top 12) 0
abbrev s_Number___init__ : Stmt := mstm (top 10) 0
abbrev s_FieldRow_value_for : Stmt := mstm (top 14) 2
abbrev s_FieldRow_awaited : Stmt := mstm (top 14) 7
abbrev s_Fields_awaited : Stmt := mstm (top 15) 4
abbrev s__law_told : Stmt := top 27
abbrev s_Exact_good : Stmt := mstm (top 8) 2
abbrev s_FieldRow_whole : Stmt := mstm (top 14) 6
abbrev s_Exact_told : Stmt := mstm (top 8) 4
abbrev s_Number_told : Stmt := mstm (top 10) 4
abbrev s_Value_told : Stmt := mstm (top 12) 4
abbrev s_FieldRow_told : Stmt := mstm (top 14) 8
abbrev s_FieldRow_number_begun : Stmt := mstm (top 14) 5
abbrev s_Fields_next_row : Stmt := mstm (top 15) 2
abbrev s_is_small : Stmt := top 5
abbrev s_Name_is_hopeful : Stmt := mstm (top 11) 2
abbrev s_Name_fed : Stmt := mstm (top 11) 3
abbrev s_Exact_fed : Stmt := mstm (top 8) 1
abbrev s_Number_fed : Stmt := mstm (top 10) 1
abbrev s_is_plain : Stmt := top 6
abbrev s_Value_fed : Stmt := mstm (top 12) 1
abbrev s_Number_good : Stmt := mstm (top 10) 2
abbrev s_FieldRow_fed : Stmt := mstm (top 14) 3
abbrev s_Fields_fed : Stmt := mstm (top 15) 1
abbrev s__law_figures : Stmt := top 21
abbrev s__law_open_value : Stmt := top 22
abbrev s__law_good_name : Stmt := top 19
abbrev s__law_open_name : Stmt := top 20
abbrev s__law_open_row : Stmt := top 24
abbrev s__law_good_value : Stmt := top 23
abbrev s__law_whole_row : Stmt := top 25
abbrev s__law_hopeful : Stmt := top 26
abbrev s__law_finished : Stmt := top 28
abbrev s_law : Stmt := top 31
abbrev D__law_cell_at : He.DefD := ⟨("_law_cell_at", none), "_law_cell_at", "_law_cell_at", defArgs s__law_cell_at, defBody s__law_cell_at, defScope s__law_cell_at, [], []⟩
abbrev D__law_stream : He.DefD := ⟨("_law_stream", none), "_law_stream", "_law_stream", defArgs s__law_stream, defBody s__law_stream, defScope s__law_stream, [], []⟩
abbrev D__law_plan : He.DefD := ⟨("_law_plan", none), "_law_plan", "_law_plan", defArgs s__law_plan, defBody s__law_plan, defScope s__law_plan, [], []⟩
abbrev D__law_sign : He.DefD := ⟨("_law_sign", none), "_law_sign", "_law_sign", defArgs s__law_sign, defBody s__law_sign, defScope s__law_sign, [], []⟩
abbrev D__law_told : He.DefD := ⟨("_law_told", none), "_law_told", "_law_told", defArgs s__law_told, defBody s__law_told, defScope s__law_told, [], []⟩
abbrev D_is_small : He.DefD := ⟨("is_small", none), "is_small", "is_small", defArgs s_is_small, defBody s_is_small, defScope s_is_small, [], []⟩
abbrev D_is_plain : He.DefD := ⟨("is_plain", none), "is_plain", "is_plain", defArgs s_is_plain, defBody s_is_plain, defScope s_is_plain, [], []⟩
abbrev D__law_figures : He.DefD := ⟨("_law_figures", none), "_law_figures", "_law_figures", defArgs s__law_figures, defBody s__law_figures, defScope s__law_figures, [], []⟩
abbrev D__law_open_value : He.DefD := ⟨("_law_open_value", none), "_law_open_value", "_law_open_value", defArgs s__law_open_value, defBody s__law_open_value, defScope s__law_open_value, [], []⟩
abbrev D__law_good_name : He.DefD := ⟨("_law_good_name", none), "_law_good_name", "_law_good_name", defArgs s__law_good_name, defBody s__law_good_name, defScope s__law_good_name, [], []⟩
abbrev D__law_open_name : He.DefD := ⟨("_law_open_name", none), "_law_open_name", "_law_open_name", defArgs s__law_open_name, defBody s__law_open_name, defScope s__law_open_name, [], []⟩
abbrev D__law_open_row : He.DefD := ⟨("_law_open_row", none), "_law_open_row", "_law_open_row", defArgs s__law_open_row, defBody s__law_open_row, defScope s__law_open_row, [], []⟩
abbrev D__law_good_value : He.DefD := ⟨("_law_good_value", none), "_law_good_value", "_law_good_value", defArgs s__law_good_value, defBody s__law_good_value, defScope s__law_good_value, [], []⟩
abbrev D__law_whole_row : He.DefD := ⟨("_law_whole_row", none), "_law_whole_row", "_law_whole_row", defArgs s__law_whole_row, defBody s__law_whole_row, defScope s__law_whole_row, [], []⟩
abbrev D__law_hopeful : He.DefD := ⟨("_law_hopeful", none), "_law_hopeful", "_law_hopeful", defArgs s__law_hopeful, defBody s__law_hopeful, defScope s__law_hopeful, [], []⟩
abbrev D__law_finished : He.DefD := ⟨("_law_finished", none), "_law_finished", "_law_finished", defArgs s__law_finished, defBody s__law_finished, defScope s__law_finished, [], []⟩
abbrev D_law : He.DefD := ⟨("law", none), "law", "law", defArgs s_law, defBody s_law, defScope s_law, [], []⟩
abbrev DM_Name_is_good : He.DefD := ⟨("Name", some "is_good"), "is_good", "Name.is_good", defArgs s_Name_is_good, defBody s_Name_is_good, defScope s_Name_is_good, [], []⟩
abbrev DM_Name_good : He.DefD := ⟨("Name", some "good"), "good", "Name.good", defArgs s_Name_good, defBody s_Name_good, defScope s_Name_good, [], []⟩
abbrev DM_Value_good : He.DefD := ⟨("Value", some "good"), "good", "Value.good", defArgs s_Value_good, defBody s_Value_good, defScope s_Value_good, [], []⟩
abbrev DM_Name_told : He.DefD := ⟨("Name", some "told"), "told", "Name.told", defArgs s_Name_told, defBody s_Name_told, defScope s_Name_told, [], []⟩
abbrev DM_FieldRow_is_end : He.DefD := ⟨("FieldRow", some "is_end"), "is_end", "FieldRow.is_end", defArgs s_FieldRow_is_end, defBody s_FieldRow_is_end, defScope s_FieldRow_is_end, [], []⟩
abbrev DM_RowEnd_awaited : He.DefD := ⟨("RowEnd", some "awaited"), "awaited", "Exact.awaited", defArgs s_Exact_awaited, defBody s_Exact_awaited, defScope s_Exact_awaited, [], []⟩
abbrev DM_Exact_awaited : He.DefD := ⟨("Exact", some "awaited"), "awaited", "Exact.awaited", defArgs s_Exact_awaited, defBody s_Exact_awaited, defScope s_Exact_awaited, [], []⟩
abbrev DM_Number_awaited : He.DefD := ⟨("Number", some "awaited"), "awaited", "Number.awaited", defArgs s_Number_awaited, defBody s_Number_awaited, defScope s_Number_awaited, [], []⟩
abbrev DM_Value_awaited : He.DefD := ⟨("Value", some "awaited"), "awaited", "Value.awaited", defArgs s_Value_awaited, defBody s_Value_awaited, defScope s_Value_awaited, [], []⟩
abbrev DM_Name_awaited : He.DefD := ⟨("Name", some "awaited"), "awaited", "Name.awaited", defArgs s_Name_awaited, defBody s_Name_awaited, defScope s_Name_awaited, [], []⟩
abbrev DM_FieldRow_value_for : He.DefD := ⟨("FieldRow", some "value_for"), "value_for", "FieldRow.value_for", defArgs s_FieldRow_value_for, defBody s_FieldRow_value_for, defScope s_FieldRow_value_for, [], []⟩
abbrev DM_FieldRow_awaited : He.DefD := ⟨("FieldRow", some "awaited"), "awaited", "FieldRow.awaited", defArgs s_FieldRow_awaited, defBody s_FieldRow_awaited, defScope s_FieldRow_awaited, [], []⟩
abbrev DM_Fields_awaited : He.DefD := ⟨("Fields", some "awaited"), "awaited", "Fields.awaited", defArgs s_Fields_awaited, defBody s_Fields_awaited, defScope s_Fields_awaited, [], []⟩
abbrev DM_Fields_room_left : He.DefD := ⟨("Fields", some "room_left"), "room_left", "Fields.room_left", defArgs s_Fields_room_left, defBody s_Fields_room_left, defScope s_Fields_room_left, [], []⟩
abbrev DM_Fields_told_end : He.DefD := ⟨("Fields", some "told_end"), "told_end", "Fields.told_end", defArgs s_Fields_told_end, defBody s_Fields_told_end, defScope s_Fields_told_end, [], []⟩
abbrev DM_Fields_told : He.DefD := ⟨("Fields", some "told"), "told", "Fields.told", defArgs s_Fields_told, defBody s_Fields_told, defScope s_Fields_told, [], []⟩
abbrev DM_Fields_whole : He.DefD := ⟨("Fields", some "whole"), "whole", "Fields.whole", defArgs s_Fields_whole, defBody s_Fields_whole, defScope s_Fields_whole, [], []⟩
abbrev DM_RowEnd_good : He.DefD := ⟨("RowEnd", some "good"), "good", "Exact.good", defArgs s_Exact_good, defBody s_Exact_good, defScope s_Exact_good, [], []⟩
abbrev DM_Exact_told : He.DefD := ⟨("Exact", some "told"), "told", "Exact.told", defArgs s_Exact_told, defBody s_Exact_told, defScope s_Exact_told, [], []⟩
abbrev DM_Number_told : He.DefD := ⟨("Number", some "told"), "told", "Number.told", defArgs s_Number_told, defBody s_Number_told, defScope s_Number_told, [], []⟩
abbrev DM_Value_told : He.DefD := ⟨("Value", some "told"), "told", "Value.told", defArgs s_Value_told, defBody s_Value_told, defScope s_Value_told, [], []⟩
abbrev DM_FieldRow_told : He.DefD := ⟨("FieldRow", some "told"), "told", "FieldRow.told", defArgs s_FieldRow_told, defBody s_FieldRow_told, defScope s_FieldRow_told, [], []⟩
abbrev DM_FieldRow_number_begun : He.DefD := ⟨("FieldRow", some "number_begun"), "number_begun", "FieldRow.number_begun", defArgs s_FieldRow_number_begun, defBody s_FieldRow_number_begun, defScope s_FieldRow_number_begun, [], []⟩
abbrev DM_Name_is_hopeful : He.DefD := ⟨("Name", some "is_hopeful"), "is_hopeful", "Name.is_hopeful", defArgs s_Name_is_hopeful, defBody s_Name_is_hopeful, defScope s_Name_is_hopeful, [], []⟩
abbrev DM_RowEnd_fed : He.DefD := ⟨("RowEnd", some "fed"), "fed", "Exact.fed", defArgs s_Exact_fed, defBody s_Exact_fed, defScope s_Exact_fed, [], []⟩
abbrev DM_Exact_good : He.DefD := ⟨("Exact", some "good"), "good", "Exact.good", defArgs s_Exact_good, defBody s_Exact_good, defScope s_Exact_good, [], []⟩
abbrev DM_Number_good : He.DefD := ⟨("Number", some "good"), "good", "Number.good", defArgs s_Number_good, defBody s_Number_good, defScope s_Number_good, [], []⟩
abbrev DM_Exact_fed : He.DefD := ⟨("Exact", some "fed"), "fed", "Exact.fed", defArgs s_Exact_fed, defBody s_Exact_fed, defScope s_Exact_fed, [], []⟩
abbrev DM_Number_fed : He.DefD := ⟨("Number", some "fed"), "fed", "Number.fed", defArgs s_Number_fed, defBody s_Number_fed, defScope s_Number_fed, [], []⟩
abbrev DM_Value_fed : He.DefD := ⟨("Value", some "fed"), "fed", "Value.fed", defArgs s_Value_fed, defBody s_Value_fed, defScope s_Value_fed, [], []⟩
abbrev DM_Name_fed : He.DefD := ⟨("Name", some "fed"), "fed", "Name.fed", defArgs s_Name_fed, defBody s_Name_fed, defScope s_Name_fed, [], []⟩
abbrev DM_FieldRow_fed : He.DefD := ⟨("FieldRow", some "fed"), "fed", "FieldRow.fed", defArgs s_FieldRow_fed, defBody s_FieldRow_fed, defScope s_FieldRow_fed, [], []⟩
abbrev DM_FieldRow_whole : He.DefD := ⟨("FieldRow", some "whole"), "whole", "FieldRow.whole", defArgs s_FieldRow_whole, defBody s_FieldRow_whole, defScope s_FieldRow_whole, [], []⟩
abbrev DM_Fields_next_row : He.DefD := ⟨("Fields", some "next_row"), "next_row", "Fields.next_row", defArgs s_Fields_next_row, defBody s_Fields_next_row, defScope s_Fields_next_row, [], []⟩
abbrev DM_Fields_fed : He.DefD := ⟨("Fields", some "fed"), "fed", "Fields.fed", defArgs s_Fields_fed, defBody s_Fields_fed, defScope s_Fields_fed, [], []⟩
abbrev DM_Exact___init__ : He.DefD := ⟨("Exact", some "__init__"), "__init__", "Exact.__init__", defArgs s_Exact___init__, defBody s_Exact___init__, defScope s_Exact___init__, [], []⟩
abbrev DM_FieldRow___init__ : He.DefD := ⟨("FieldRow", some "__init__"), "__init__", "FieldRow.__init__", defArgs s_FieldRow___init__, defBody s_FieldRow___init__, defScope s_FieldRow___init__, [], []⟩
abbrev DM_Fields___init__ : He.DefD := ⟨("Fields", some "__init__"), "__init__", "Fields.__init__", defArgs s_Fields___init__, defBody s_Fields___init__, defScope s_Fields___init__, [], []⟩
abbrev DM_Name___init__ : He.DefD := ⟨("Name", some "__init__"), "__init__", "Name.__init__", defArgs s_Name___init__, defBody s_Name___init__, defScope s_Name___init__, [], []⟩
abbrev DM_Number___init__ : He.DefD := ⟨("Number", some "__init__"), "__init__", "Number.__init__", defArgs s_Number___init__, defBody s_Number___init__, defScope s_Number___init__, [], []⟩
abbrev DM_RowEnd___init__ : He.DefD := ⟨("RowEnd", some "__init__"), "__init__", "RowEnd.__init__", defArgs s_RowEnd___init__, defBody s_RowEnd___init__, defScope s_RowEnd___init__, [], []⟩
abbrev DM_Value___init__ : He.DefD := ⟨("Value", some "__init__"), "__init__", "Value.__init__", defArgs s_Value___init__, defBody s_Value___init__, defScope s_Value___init__, [], []⟩
def f__law_cell_at : FS :=
  fSeq (fIf (qB (q2 dLt (qVar 1) (qCall (o1 dLen) (aCons (qVar 0) (aNil))))) (fRet (q2 dIx (qVar 0) (qVar 1))) (fNext))
    (fRet (qC (.int 0)))
def r__law_cell_at : List D → Option D := runQ 2 2 (f__law_cell_at)
def lb1__law_stream : FS :=
  fWp [4] (fSeq (fSet 3 (q2 dMod (q2 dMul (q2 dAdd (q2 dAdd (qVar 3) (q2 dMul (qC (.int 7919)) (qVar 4))) (qC (.int 1))) (q2 dAdd (q2 dFdiv (qVar 3) (qC (.int 1009))) (qC (.int 69621)))) (qC (.int 2147483647))))
    (fApp 2 (qVar 3)))
def f__law_stream : FS :=
  fSeq (fSetN 2 (aData (aNil)))
    (fSeq (fSet 3 (q2 dMod (q2 dMul (q2 dAdd (qVar 0) (qC (.int 1))) (qC (.int 48271))) (qC (.int 2147483647))))
    (fSeq (fFor (aR1 (qVar 1)) (tgN 4) (lb1__law_stream))
    (fFz 2 (fRet (qVar 2)))))
def r__law_stream : List D → Option D := runQ 5 2 (f__law_stream)
def f__law_plan : FS :=
  fSeq (fSet 1 (qRun 2 [] r__law_stream (aCons (qVar 0) (aCons (qC (.int 5)) (aNil)))))
    (fSeq (fSet 2 (qN (aData (aCons (qC (.str (ofS "a"))) (aCons (qC (.str (ofS "lengt"))) (aCons (qC (.str (ofS "abcdefgh"))) (aCons (qC (.str (ofS "partsa"))) (aCons (qC (.str (ofS "to"))) (aCons (qC (.str (ofS "rests"))) (aNil))))))))))
    (fSeq (fSet 3 (q2 dAdd (q2 dAdd (q2 dAdd (q2 dIx (qVar 2) (q2 dMod (q2 dIx (qVar 1) (qC (.int 0))) (qC (.int 6)))) (qC (.str (ofS ": ")))) (q2 dIx (qN (aData (aCons (qC (.str (ofS "v"))) (aCons (qC (.str (ofS "two w"))) (aCons (qC (.str (ofS "x x"))) (aCons (qC (.str (ofS "12345678"))) (aNil))))))) (q2 dMod (q2 dIx (qVar 1) (qC (.int 1))) (qC (.int 4))))) (qC (.str (ofS ";\n")))))
    (fSeq (fIf (qB (q2 dEq (q2 dMod (q2 dIx (qVar 1) (qC (.int 2))) (qC (.int 3))) (qC (.int 0)))) (fSet 3 (q2 dAdd (q2 dAdd (q2 dAdd (q2 dAdd (qVar 3) (q2 dIx (qVar 2) (q2 dMod (q2 dFdiv (q2 dIx (qVar 1) (qC (.int 2))) (qC (.int 3))) (qC (.int 6))))) (qC (.str (ofS ": ")))) (qC (.str (ofS "b  c")))) (qC (.str (ofS ";\n"))))) (fNext))
    (fSeq (fIf (qB (q2 dEq (q2 dMod (q2 dIx (qVar 1) (qC (.int 2))) (qC (.int 3))) (qC (.int 1)))) (fSet 3 (qC (.str (ofS "")))) (fNext))
    (fSeq (fSet 4 (qN (aData (aCons (qC (.str (ofS "length: 0"))) (aCons (qC (.str (ofS "pieces: yes"))) (aCons (qC (.str (ofS "parts: yes"))) (aCons (qC (.str (ofS "rest: yes"))) (aCons (qC (.str (ofS "length: 12"))) (aCons (qC (.str (ofS "length: 400"))) (aCons (qC (.str (ofS "length: 13"))) (aNil)))))))))))
    (fRet (q2 dAdd (q2 dAdd (q2 dAdd (qVar 3) (q2 dIx (qVar 4) (q2 dMod (q2 dIx (qVar 1) (qC (.int 3))) (qC (.int 7))))) (qC (.str (ofS ";\n")))) (qC (.str (ofS ";\n"))))))))))
def r__law_plan : List D → Option D := runQ 5 1 (f__law_plan)
def f_Name___init__ : FS :=
  fSeq (fFldX okF 0 [] "most" (xQ (qVar 1)))
    (fSeq (fFldX okF 0 [] "room" (xQ (qVar 2)))
    (fSeq (fFldX okF 0 [] "ends" (xQ (qVar 3)))
    (fFldX okF 0 [] "text" (xQ (qC (.str (ofS "")))))))
def r_Name___init__ : RX := runX 4 [true, false, false, false] (f_Name___init__)
def f_Exact___init__ : FS :=
  fSeq (fFldX okF 0 [] "text" (xQ (qVar 1)))
    (fFldX okF 0 [] "many" (xQ (qC (.int 0))))
def r_Exact___init__ : RX := runX 2 [true, false] (f_Exact___init__)
def f_RowEnd___init__ : FS :=
  fExX (xRun 2 [] r_Exact___init__ (xaSlot 0 (xaCons (xQ (qC g_ROW_END)) (xaNil))))
def r_RowEnd___init__ : RX := runX 1 [true] (f_RowEnd___init__)
def f_FieldRow___init__ : FS :=
  fSeq (fFldX okF 0 [] "book" (xQ (qVar 1)))
    (fSeq (fFldX okF 0 [] "ends" (xQ (qVar 3)))
    (fSeq (fFldX okF 0 [] "label" (xMake "Name" 4 [] r_Name___init__ (xaCons (xQ (q2 dIx (qVar 1) (qC (.int 1)))) (xaCons (xQ (qVar 2)) (xaCons (xQ (qVar 3)) (xaNil))))))
    (fSeq (fFldX okF 0 [] "gap" (xMake "Exact" 2 [] r_Exact___init__ (xaCons (xQ (qC (.str (ofS ": ")))) (xaNil))))
    (fSeq (fFldX okF 0 [] "filled" (xQ (qC .non)))
    (fFldX okF 0 [] "tail" (xMake "RowEnd" 1 [] r_RowEnd___init__ (xaNil)))))))
def r_FieldRow___init__ : RX := runX 4 [true, false, false, false] (f_FieldRow___init__)
def f_Fields___init__ : FS :=
  fSeq (fFldX okF 0 [] "book" (xQ (qVar 1)))
    (fSeq (fFldX okF 0 [] "room" (xQ (qVar 2)))
    (fSeq (fFldX okF 0 [] "ends" (xQ (qVar 3)))
    (fSeq (fFldX okF 0 [] "kept" (xN (aData (aNil))))
    (fSeq (fFldX okF 0 [] "closing" (xQ (qC .non)))
    (fSeq (fFldX okF 0 [] "ready" (xQ (qC (.bl false))))
    (fFldX okF 0 [] "row" (xMake "FieldRow" 4 [] r_FieldRow___init__ (xaCons (xQ (qVar 1)) (xaCons (xQ (qVar 2)) (xaCons (xQ (qVar 3)) (xaNil)))))))))))
def r_Fields___init__ : RX := runX 4 [true, false, false, false] (f_Fields___init__)
def lb1__law_sign : FS :=
  fWp [3] (fIf (qB (q2 dEq (qVar 1) (qSl (qVar 2) oNone (oSome (qVar 3))))) (fRet (q2 dIx (qVar 2) (qVar 3))) (fNext))
def f__law_sign : FS :=
  fSeq (fIf (qB (q2 dEq (q2 dMod (q2 dIx (qVar 0) (qC (.int 0))) (qC (.int 4))) (qC (.int 0)))) (fRet (q2 dIx (qN (aData (aCons (qC (.str (ofS ";"))) (aCons (qC (.str (ofS "\n"))) (aCons (qC (.str (ofS ":"))) (aCons (qC (.str (ofS " "))) (aCons (qC (.str (ofS "a"))) (aCons (qC (.str (ofS "l"))) (aCons (qC (.str (ofS "r"))) (aCons (qC (.str (ofS "p"))) (aCons (qC (.str (ofS "0"))) (aCons (qC (.str (ofS "4"))) (aCons (qC (.str (ofS "y"))) (aCons (qC (.str (ofS "A"))) (aCons (qC (.str (ofS "z"))) (aCons (qC (.str (ofS "t"))) (aNil))))))))))))))))) (q2 dMod (q2 dIx (qVar 0) (qC (.int 1))) (qC (.int 14))))) (fNext))
    (fSeq (fFor (aR1 (qCall (o1 dLen) (aCons (qVar 2) (aNil)))) (tgN 3) (lb1__law_sign))
    (fRet (q2 dIx (q2 dIx (qN (aData (aCons (qC (.str (ofS "a"))) (aCons (qC (.str (ofS ";"))) (aCons (qC (.str (ofS "\n"))) (aCons (qC (.str (ofS ": "))) (aCons (qC (.str (ofS "b"))) (aCons (qC (.str (ofS "; "))) (aNil))))))))) (q2 dMod (q2 dIx (qVar 0) (qC (.int 1))) (qC (.int 6)))) (qC (.int 0)))))
def r__law_sign : List D → Option D := runQ 4 3 (f__law_sign)
def f_Fields_whole : FS :=
  fRet (qFld okF "ready" (qVar 0))
def r_Fields_whole : RF := runF 1 (f_Fields_whole)
def mt_whole_Fields : MTF := tbl [("Fields", r_Fields_whole)]
theorem mt_whole_Fields_Fields : mt_whole_Fields "Fields" = some r_Fields_whole := by rfl
def f_Fields_told : FS :=
  fRet (qCall (o1 dTuple) (aCons (qFld okF "kept" (qVar 0)) (aNil)))
def r_Fields_told : RF := runF 1 (f_Fields_told)
def mt_told_Fields : MTF := tbl [("Fields", r_Fields_told)]
theorem mt_told_Fields_Fields : mt_told_Fields "Fields" = some r_Fields_told := by rfl
def f_Fields_told_end : FS :=
  fRet (qFld okF "closing" (qVar 0))
def r_Fields_told_end : RF := runF 1 (f_Fields_told_end)
def mt_told_end_Fields : MTF := tbl [("Fields", r_Fields_told_end)]
theorem mt_told_end_Fields_Fields : mt_told_end_Fields "Fields" = some r_Fields_told_end := by rfl
def f_Fields_room_left : FS :=
  fRet (qFld okF "room" (qVar 0))
def r_Fields_room_left : RF := runF 1 (f_Fields_room_left)
def mt_room_left_Fields : MTF := tbl [("Fields", r_Fields_room_left)]
theorem mt_room_left_Fields_Fields : mt_room_left_Fields "Fields" = some r_Fields_room_left := by rfl
def f_Name_is_good : FS :=
  fSeq (fIf (qB (q2 dIn (qVar 1) (qFld okF "ends" (qVar 0)))) (fRet (qC (.bl true))) (fNext))
    (fRet (qAnd (q2 dGt (qFld okF "room" (qVar 0)) (qC (.int 0))) (qAnd (q3 dLt dLe (qC (.int 0)) (qCall (o1 dLen) (aCons (qVar 1) (aNil))) (qFld okF "most" (qVar 0))) (q2 dNotIn (qVar 1) (qC g_END_NAMES)))))
def r_Name_is_good : RF := runF 2 (f_Name_is_good)
def mt_is_good_Name : MTF := tbl [("Name", r_Name_is_good)]
theorem mt_is_good_Name_Name : mt_is_good_Name "Name" = some r_Name_is_good := by rfl
def f_Name_good : FS :=
  fRet (qMethF "is_good" 2 [] mt_is_good_Name (qVar 0) (aCons (qFld okF "text" (qVar 0)) (aNil)))
def r_Name_good : RF := runF 1 (f_Name_good)
def mt_good_Name : MTF := tbl [("Name", r_Name_good)]
theorem mt_good_Name_Name : mt_good_Name "Name" = some r_Name_good := by rfl
def lb1_Name_awaited : FS :=
  fWp [1] (fIf (qB (qM1 (oStr fun s t => .bl (Txt.startswith (tr s) (tr t))) (qVar 1) (qFld okF "text" (qVar 0)))) (fRet (qSl (qVar 1) (oSome (qCall (o1 dLen) (aCons (qFld okF "text" (qVar 0)) (aNil)))) oNone)) (fNext))
def f_Name_awaited : FS :=
  fSeq (fIf (qB (qMethF "good" 1 [] mt_good_Name (qVar 0) (aNil))) (fRet (qC (.str (ofS "")))) (fNext))
    (fSeq (fIf (bAnd (qB (q2 dGt (qFld okF "room" (qVar 0)) (qC (.int 0)))) (qB (q2 dLt (qCall (o1 dLen) (aCons (qFld okF "text" (qVar 0)) (aNil))) (qFld okF "most" (qVar 0))))) (fRet (qC (.str (ofS "a")))) (fNext))
    (fSeq (fFor (aF (qFld okF "ends" (qVar 0))) (tgN 1) (lb1_Name_awaited))
    (fRet (qC (.str (ofS ""))))))
def r_Name_awaited : RF := runF 2 (f_Name_awaited)
def mt_awaited_Name : MTF := tbl [("Name", r_Name_awaited)]
theorem mt_awaited_Name_Name : mt_awaited_Name "Name" = some r_Name_awaited := by rfl
def f_Exact_awaited : FS :=
  fRet (qSl (qFld okF "text" (qVar 0)) (oSome (qFld okF "many" (qVar 0))) oNone)
def r_Exact_awaited : RF := runF 1 (f_Exact_awaited)
def mt_awaited_RowEnd : MTF := tbl [("RowEnd", r_Exact_awaited)]
theorem mt_awaited_RowEnd_RowEnd : mt_awaited_RowEnd "RowEnd" = some r_Exact_awaited := by rfl
def f_Name_told : FS :=
  fRet (qFld okF "text" (qVar 0))
def r_Name_told : RF := runF 1 (f_Name_told)
def mt_told_Name : MTF := tbl [("Name", r_Name_told)]
theorem mt_told_Name_Name : mt_told_Name "Name" = some r_Name_told := by rfl
def f_Number_awaited : FS :=
  fSeq (fIf (qB (q2 dEq (qFld okF "figures" (qVar 0)) (qC (.str (ofS ""))))) (fRet (qC (.str (ofS "0")))) (fNext))
    (fRet (qC (.str (ofS ""))))
def r_Number_awaited : RF := runF 1 (f_Number_awaited)
def f_Value_good : FS :=
  fRet (qAnd (q2 dNe (qFld okF "text" (qVar 0)) (qC (.str (ofS "")))) (q2 dNe (q2 dIx (qFld okF "text" (qVar 0)) (q1 dNeg (qC (.int 1)))) (qC (.str (ofS " ")))))
def r_Value_good : RF := runF 1 (f_Value_good)
def mt_good_Value : MTF := tbl [("Value", r_Value_good)]
theorem mt_good_Value_Value : mt_good_Value "Value" = some r_Value_good := by rfl
def f_Value_awaited : FS :=
  fSeq (fIf (qB (qMethF "good" 1 [] mt_good_Value (qVar 0) (aNil))) (fRet (qC (.str (ofS "")))) (fNext))
    (fRet (qC (.str (ofS "a"))))
def r_Value_awaited : RF := runF 1 (f_Value_awaited)
def mt_awaited_Exact_Number_Value : MTF := tbl [("Exact", r_Exact_awaited), ("Number", r_Number_awaited), ("Value", r_Value_awaited)]
theorem mt_awaited_Exact_Number_Value_Exact : mt_awaited_Exact_Number_Value "Exact" = some r_Exact_awaited := by rfl
theorem mt_awaited_Exact_Number_Value_Number : mt_awaited_Exact_Number_Value "Number" = some r_Number_awaited := by rfl
theorem mt_awaited_Exact_Number_Value_Value : mt_awaited_Exact_Number_Value "Value" = some r_Value_awaited := by rfl
def f_FieldRow_is_end : FS :=
  fRet (q2 dIn (qMethF "told" 1 [] mt_told_Name (qFld okF "label" (qVar 0)) (aNil)) (qFld okF "ends" (qVar 0)))
def r_FieldRow_is_end : RF := runF 1 (f_FieldRow_is_end)
def mt_is_end_FieldRow : MTF := tbl [("FieldRow", r_FieldRow_is_end)]
theorem mt_is_end_FieldRow_FieldRow : mt_is_end_FieldRow "FieldRow" = some r_FieldRow_is_end := by rfl
def f_Value___init__ : FS :=
  fSeq (fFldX okF 0 [] "most" (xQ (qVar 1)))
    (fFldX okF 0 [] "text" (xQ (qC (.str (ofS "")))))
def r_Value___init__ : RX := runX 2 [true, false] (f_Value___init__)
def f_Number___init__ : FS :=
  fSeq (fFldX okF 0 [] "base" (xQ (qVar 1)))
    (fSeq (fFldX okF 0 [] "most" (xQ (qVar 2)))
    (fSeq (fFldX okF 0 [] "figures" (xQ (qC (.str (ofS "")))))
    (fFldX okF 0 [] "number" (xQ (qC (.int 0))))))
def r_Number___init__ : RX := runX 3 [true, false, false] (f_Number___init__)
def f_FieldRow_value_for : FS :=
  fSeq (fIf (bNot (qB (qMethF "is_end" 1 [] mt_is_end_FieldRow (qVar 0) (aNil)))) (fRetX (xMake "Value" 2 [] r_Value___init__ (xaCons (xQ (q2 dIx (qFld okF "book" (qVar 0)) (qC (.int 2)))) (xaNil)))) (fNext))
    (fSeq (fIf (qB (q2 dEq (qMethF "told" 1 [] mt_told_Name (qFld okF "label" (qVar 0)) (aNil)) (qC (.str (ofS "length"))))) (fRetX (xMake "Number" 3 [] r_Number___init__ (xaCons (xQ (qC (.int 10))) (xaCons (xQ (q2 dIx (qFld okF "book" (qVar 0)) (qC (.int 4)))) (xaNil))))) (fNext))
    (fRetX (xMake "Exact" 2 [] r_Exact___init__ (xaCons (xQ (qC (.str (ofS "yes")))) (xaNil)))))
def r_FieldRow_value_for : RF := runF 1 (f_FieldRow_value_for)
def mt_value_for_FieldRow : MTF := tbl [("FieldRow", r_FieldRow_value_for)]
theorem mt_value_for_FieldRow_FieldRow : mt_value_for_FieldRow "FieldRow" = some r_FieldRow_value_for := by rfl
def f_FieldRow_awaited : FS :=
  fSeq (fIf (qB (q2 dGt (qFld okF "many" (qFld okF "tail" (qVar 0))) (qC (.int 0)))) (fRet (qMethF "awaited" 1 [] mt_awaited_RowEnd (qFld okF "tail" (qVar 0)) (aNil))) (fNext))
    (fSeq (fIf (qB (q2 dIsNot (qFld okF "filled" (qVar 0)) (qC .non))) (fRet (q2 dAdd (qMethF "awaited" 1 [] mt_awaited_Exact_Number_Value (qFld okF "filled" (qVar 0)) (aNil)) (qMethF "awaited" 1 [] mt_awaited_RowEnd (qFld okF "tail" (qVar 0)) (aNil)))) (fNext))
    (fSeq (fIf (qB (q2 dEq (qMethF "told" 1 [] mt_told_Name (qFld okF "label" (qVar 0)) (aNil)) (qC (.str (ofS ""))))) (fRet (qMethF "awaited" 1 [] mt_awaited_RowEnd (qFld okF "tail" (qVar 0)) (aNil))) (fNext))
    (fSeq (fSet 1 (qMethF "awaited" 1 [] mt_awaited_Name (qFld okF "label" (qVar 0)) (aNil)))
    (fSeq (fIf (qB (q2 dGt (qFld okF "many" (qFld okF "gap" (qVar 0))) (qC (.int 0)))) (fRet (q2 dAdd (q2 dAdd (qC (.str (ofS " "))) (qMethF "awaited" 1 [] mt_awaited_Exact_Number_Value (qMethG "value_for" 1 [] mt_value_for_FieldRow (qVar 0) (aNil)) (aNil))) (qMethF "awaited" 1 [] mt_awaited_RowEnd (qFld okF "tail" (qVar 0)) (aNil)))) (fNext))
    (fSeq (fSetX 2 (xMake "FieldRow" 4 [] r_FieldRow___init__ (xaCons (xQ (qFld okF "book" (qVar 0))) (xaCons (xQ (qC (.int 1))) (xaCons (xQ (qFld okF "ends" (qVar 0))) (xaNil))))))
    (fSeq (fFldX okF 2 ["label"] "text" (xQ (q2 dAdd (qMethF "told" 1 [] mt_told_Name (qFld okF "label" (qVar 0)) (aNil)) (qVar 1))))
    (fRet (q2 dAdd (q2 dAdd (q2 dAdd (qVar 1) (qC (.str (ofS ": ")))) (qMethF "awaited" 1 [] mt_awaited_Exact_Number_Value (qMethG "value_for" 1 [] mt_value_for_FieldRow (qVar 2) (aNil)) (aNil))) (qMethF "awaited" 1 [] mt_awaited_RowEnd (qFld okF "tail" (qVar 0)) (aNil))))))))))
def r_FieldRow_awaited : RF := runF 3 (f_FieldRow_awaited)
def mt_awaited_FieldRow : MTF := tbl [("FieldRow", r_FieldRow_awaited)]
theorem mt_awaited_FieldRow_FieldRow : mt_awaited_FieldRow "FieldRow" = some r_FieldRow_awaited := by rfl
def f_Fields_awaited : FS :=
  fSeq (fIf (qB (qFld okF "ready" (qVar 0))) (fRet (qC (.str (ofS "")))) (fNext))
    (fSeq (fSet 1 (qMethF "awaited" 1 [] mt_awaited_FieldRow (qFld okF "row" (qVar 0)) (aNil)))
    (fSeq (fIf (qB (q2 dEq (qMethF "told" 1 [] mt_told_Name (qFld okF "label" (qFld okF "row" (qVar 0))) (aNil)) (qC (.str (ofS ""))))) (fRet (qVar 1)) (fNext))
    (fRet (q2 dAdd (qVar 1) (qC (.str (ofS ";\n")))))))
def r_Fields_awaited : RF := runF 2 (f_Fields_awaited)
def mt_awaited_Fields : MTF := tbl [("Fields", r_Fields_awaited)]
theorem mt_awaited_Fields_Fields : mt_awaited_Fields "Fields" = some r_Fields_awaited := by rfl
def f__law_told : FS :=
  fRet (qTup (aCons (qMethF "whole" 1 [] mt_whole_Fields (qVar 0) (aNil)) (aCons (qMethF "told" 1 [] mt_told_Fields (qVar 0) (aNil)) (aCons (qMethF "told_end" 1 [] mt_told_end_Fields (qVar 0) (aNil)) (aCons (qMethF "room_left" 1 [] mt_room_left_Fields (qVar 0) (aNil)) (aCons (qMethF "awaited" 1 [] mt_awaited_Fields (qVar 0) (aNil)) (aNil)))))))
def r__law_told : RF := runF 1 (f__law_told)
def f_Exact_good : FS :=
  fRet (q2 dEq (qFld okF "many" (qVar 0)) (qCall (o1 dLen) (aCons (qFld okF "text" (qVar 0)) (aNil))))
def r_Exact_good : RF := runF 1 (f_Exact_good)
def mt_good_RowEnd : MTF := tbl [("RowEnd", r_Exact_good)]
theorem mt_good_RowEnd_RowEnd : mt_good_RowEnd "RowEnd" = some r_Exact_good := by rfl
def f_FieldRow_whole : FS :=
  fRet (qMethF "good" 1 [] mt_good_RowEnd (qFld okF "tail" (qVar 0)) (aNil))
def r_FieldRow_whole : RF := runF 1 (f_FieldRow_whole)
def mt_whole_FieldRow : MTF := tbl [("FieldRow", r_FieldRow_whole)]
theorem mt_whole_FieldRow_FieldRow : mt_whole_FieldRow "FieldRow" = some r_FieldRow_whole := by rfl
def f_Exact_told : FS :=
  fRet (qFld okF "text" (qVar 0))
def r_Exact_told : RF := runF 1 (f_Exact_told)
def f_Number_told : FS :=
  fRet (qFld okF "number" (qVar 0))
def r_Number_told : RF := runF 1 (f_Number_told)
def f_Value_told : FS :=
  fRet (qFld okF "text" (qVar 0))
def r_Value_told : RF := runF 1 (f_Value_told)
def mt_told_Exact_Number_Value : MTF := tbl [("Exact", r_Exact_told), ("Number", r_Number_told), ("Value", r_Value_told)]
theorem mt_told_Exact_Number_Value_Exact : mt_told_Exact_Number_Value "Exact" = some r_Exact_told := by rfl
theorem mt_told_Exact_Number_Value_Number : mt_told_Exact_Number_Value "Number" = some r_Number_told := by rfl
theorem mt_told_Exact_Number_Value_Value : mt_told_Exact_Number_Value "Value" = some r_Value_told := by rfl
def f_FieldRow_told : FS :=
  fSeq (fIf (qB (q2 dIs (qFld okF "filled" (qVar 0)) (qC .non))) (fRet (qTup (aNil))) (fNext))
    (fRet (qTup (aCons (qMethF "told" 1 [] mt_told_Name (qFld okF "label" (qVar 0)) (aNil)) (aCons (qMethF "told" 1 [] mt_told_Exact_Number_Value (qFld okF "filled" (qVar 0)) (aNil)) (aNil)))))
def r_FieldRow_told : RF := runF 1 (f_FieldRow_told)
def mt_told_FieldRow : MTF := tbl [("FieldRow", r_FieldRow_told)]
theorem mt_told_FieldRow_FieldRow : mt_told_FieldRow "FieldRow" = some r_FieldRow_told := by rfl
def f_FieldRow_number_begun : FS :=
  fSeq (fIf (bOr (qB (q2 dIs (qFld okF "filled" (qVar 0)) (qC .non))) (bOr (qB (q2 dNe (qMethF "told" 1 [] mt_told_Name (qFld okF "label" (qVar 0)) (aNil)) (qC (.str (ofS "length"))))) (bNot (qB (qMethF "is_end" 1 [] mt_is_end_FieldRow (qVar 0) (aNil)))))) (fRet (qC (.int 0))) (fNext))
    (fRet (qMethF "told" 1 [] mt_told_Exact_Number_Value (qFld okF "filled" (qVar 0)) (aNil)))
def r_FieldRow_number_begun : RF := runF 1 (f_FieldRow_number_begun)
def mt_number_begun_FieldRow : MTF := tbl [("FieldRow", r_FieldRow_number_begun)]
theorem mt_number_begun_FieldRow_FieldRow : mt_number_begun_FieldRow "FieldRow" = some r_FieldRow_number_begun := by rfl
def f_Fields_next_row : FS :=
  fSeq (fSet 1 (qMethF "told" 1 [] mt_told_FieldRow (qFld okF "row" (qVar 0)) (aNil)))
    (fSeq (fIf (qB (q2 dEq (qVar 1) (qTup (aNil)))) (fSeq (fFldX okF 0 [] "ready" (xQ (qC (.bl true))))
    (fRetN)) (fNext))
    (fSeq (fIf (qB (qMethF "is_end" 1 [] mt_is_end_FieldRow (qFld okF "row" (qVar 0)) (aNil))) (fSeq (fFldX okF 0 [] "closing" (xQ (qTup (aCons (q2 dIx (qVar 1) (qC (.int 0))) (aCons (qMethF "number_begun" 1 [] mt_number_begun_FieldRow (qFld okF "row" (qVar 0)) (aNil)) (aNil))))))
    (fSeq (fFldX okF 0 [] "row" (xMake "FieldRow" 4 [] r_FieldRow___init__ (xaCons (xQ (qFld okF "book" (qVar 0))) (xaCons (xQ (qC (.int 0))) (xaCons (xQ (qTup (aNil))) (xaNil))))))
    (fRetN))) (fNext))
    (fSeq (fAppF okF 0 ["kept"] (qVar 1))
    (fSeq (fFldAug okF 0 [] "room" iSub (qC (.int 1)))
    (fFldX okF 0 [] "row" (xMake "FieldRow" 4 [] r_FieldRow___init__ (xaCons (xQ (qFld okF "book" (qVar 0))) (xaCons (xQ (qFld okF "room" (qVar 0))) (xaCons (xQ (qFld okF "ends" (qVar 0))) (xaNil))))))))))
def r_Fields_next_row : RX := runX 2 [true] (f_Fields_next_row)
def mt_next_row_Fields : MT := tbl [("Fields", r_Fields_next_row)]
theorem mt_next_row_Fields_Fields : mt_next_row_Fields "Fields" = some r_Fields_next_row := by rfl
def f_is_small : FS :=
  fRet (qAnd (q2 dEq (qCall (o1 dLen) (aCons (qVar 0) (aNil))) (qC (.int 1))) (q3 dLe dLe (qC (.str (ofS "a"))) (qVar 0) (qC (.str (ofS "z")))))
def r_is_small : List D → Option D := runQ 1 1 (f_is_small)
def ce1_Name_is_hopeful : FQ :=
  qM1 (oStr fun s t => .bl (Txt.startswith (tr s) (tr t))) (qVar 2) (qVar 1)
def f_Name_is_hopeful : FS :=
  fSeq (fIf (bOr (qB (qMethF "is_good" 2 [] mt_is_good_Name (qVar 0) (aCons (qVar 1) (aNil)))) (qB (qCall (o1 fun x => (asL x).bind fun ds => (boolsD ds).map fun bs => .bl (bs.any id)) (aCons (qN (qLc (aQ (qFld okF "ends" (qVar 0))) (tgN 2) [2] (bYes) (ce1_Name_is_hopeful))) (aNil))))) (fRet (qC (.bl true))) (fNext))
    (fRet (qAnd (q2 dGt (qFld okF "room" (qVar 0)) (qC (.int 0))) (q2 dLt (qCall (o1 dLen) (aCons (qVar 1) (aNil))) (qFld okF "most" (qVar 0)))))
def r_Name_is_hopeful : RF := runF 3 (f_Name_is_hopeful)
def mt_is_hopeful_Name : MTF := tbl [("Name", r_Name_is_hopeful)]
theorem mt_is_hopeful_Name_Name : mt_is_hopeful_Name "Name" = some r_Name_is_hopeful := by rfl
def f_Name_fed : FS :=
  fSeq (fIf (bOr (bNot (qB (qRun 1 [] r_is_small (aCons (qVar 1) (aNil))))) (bNot (qB (qMethF "is_hopeful" 2 [] mt_is_hopeful_Name (qVar 0) (aCons (q2 dAdd (qFld okF "text" (qVar 0)) (qVar 1)) (aNil)))))) (fRet (qC (.bl false))) (fNext))
    (fSeq (fFldX okF 0 [] "text" (xQ (q2 dAdd (qFld okF "text" (qVar 0)) (qVar 1))))
    (fRet (qC (.bl true))))
def r_Name_fed : RX := runX 2 [true, false] (f_Name_fed)
def mt_fed_Name : MT := tbl [("Name", r_Name_fed)]
theorem mt_fed_Name_Name : mt_fed_Name "Name" = some r_Name_fed := by rfl
def f_Exact_fed : FS :=
  fSeq (fIf (bAnd (qB (q2 dLt (qFld okF "many" (qVar 0)) (qCall (o1 dLen) (aCons (qFld okF "text" (qVar 0)) (aNil))))) (qB (q2 dEq (qVar 1) (q2 dIx (qFld okF "text" (qVar 0)) (qFld okF "many" (qVar 0)))))) (fSeq (fFldAug okF 0 [] "many" iAdd (qC (.int 1)))
    (fRet (qC (.bl true)))) (fNext))
    (fRet (qC (.bl false)))
def r_Exact_fed : RX := runX 2 [true, false] (f_Exact_fed)
def mt_fed_RowEnd : MT := tbl [("RowEnd", r_Exact_fed)]
theorem mt_fed_RowEnd_RowEnd : mt_fed_RowEnd "RowEnd" = some r_Exact_fed := by rfl
def mt_fed_Exact : MT := tbl [("Exact", r_Exact_fed)]
theorem mt_fed_Exact_Exact : mt_fed_Exact "Exact" = some r_Exact_fed := by rfl
def f_Number_fed : FS :=
  fSeq (fIf (bOr (qB (q2 dNe (qCall (o1 dLen) (aCons (qVar 1) (aNil))) (qC (.int 1)))) (bOr (qB (q2 dNotIn (qVar 1) (qSl (qC g_FIGURES) oNone (oSome (qFld okF "base" (qVar 0)))))) (qB (q2 dEq (qFld okF "figures" (qVar 0)) (qC (.str (ofS "0"))))))) (fRet (qC (.bl false))) (fNext))
    (fSeq (fSet 2 (q2 dAdd (q2 dMul (qFld okF "number" (qVar 0)) (qFld okF "base" (qVar 0))) (qM1 oIndex (qC g_FIGURES) (qVar 1))))
    (fSeq (fIf (qB (q2 dGt (qVar 2) (qFld okF "most" (qVar 0)))) (fRet (qC (.bl false))) (fNext))
    (fSeq (fFldX okF 0 [] "figures" (xQ (q2 dAdd (qFld okF "figures" (qVar 0)) (qVar 1))))
    (fSeq (fFldX okF 0 [] "number" (xQ (qVar 2)))
    (fRet (qC (.bl true)))))))
def r_Number_fed : RX := runX 3 [true, false] (f_Number_fed)
def f_is_plain : FS :=
  fRet (qOr (q2 dEq (qVar 0) (qC (.str (ofS "\n")))) (qAnd (q2 dEq (qCall (o1 dLen) (aCons (qVar 0) (aNil))) (qC (.int 1))) (q3 dLe dLe (qC (.str (ofS " "))) (qVar 0) (qC (.str (ofS "~"))))))
def r_is_plain : List D → Option D := runQ 1 1 (f_is_plain)
def f_Value_fed : FS :=
  fSeq (fIf (bOr (bNot (qB (qRun 1 [] r_is_plain (aCons (qVar 1) (aNil))))) (bOr (qB (q2 dEq (qVar 1) (qC (.str (ofS "\n"))))) (bOr (qB (q2 dEq (qVar 1) (qC (.str (ofS ";"))))) (qB (q2 dEq (qCall (o1 dLen) (aCons (qFld okF "text" (qVar 0)) (aNil))) (qFld okF "most" (qVar 0))))))) (fRet (qC (.bl false))) (fNext))
    (fSeq (fIf (bAnd (qB (q2 dEq (qVar 1) (qC (.str (ofS " "))))) (bOr (qB (q2 dEq (qFld okF "text" (qVar 0)) (qC (.str (ofS ""))))) (qB (q2 dEq (q2 dAdd (qCall (o1 dLen) (aCons (qFld okF "text" (qVar 0)) (aNil))) (qC (.int 1))) (qFld okF "most" (qVar 0)))))) (fRet (qC (.bl false))) (fNext))
    (fSeq (fFldX okF 0 [] "text" (xQ (q2 dAdd (qFld okF "text" (qVar 0)) (qVar 1))))
    (fRet (qC (.bl true)))))
def r_Value_fed : RX := runX 2 [true, false] (f_Value_fed)
def mt_fed_Exact_Number_Value : MT := tbl [("Exact", r_Exact_fed), ("Number", r_Number_fed), ("Value", r_Value_fed)]
theorem mt_fed_Exact_Number_Value_Exact : mt_fed_Exact_Number_Value "Exact" = some r_Exact_fed := by rfl
theorem mt_fed_Exact_Number_Value_Number : mt_fed_Exact_Number_Value "Number" = some r_Number_fed := by rfl
theorem mt_fed_Exact_Number_Value_Value : mt_fed_Exact_Number_Value "Value" = some r_Value_fed := by rfl
def f_Number_good : FS :=
  fRet (q2 dNe (qFld okF "figures" (qVar 0)) (qC (.str (ofS ""))))
def r_Number_good : RF := runF 1 (f_Number_good)
def mt_good_Exact_Number_Value : MTF := tbl [("Exact", r_Exact_good), ("Number", r_Number_good), ("Value", r_Value_good)]
theorem mt_good_Exact_Number_Value_Exact : mt_good_Exact_Number_Value "Exact" = some r_Exact_good := by rfl
theorem mt_good_Exact_Number_Value_Number : mt_good_Exact_Number_Value "Number" = some r_Number_good := by rfl
theorem mt_good_Exact_Number_Value_Value : mt_good_Exact_Number_Value "Value" = some r_Value_good := by rfl
def f_FieldRow_fed : FS :=
  fSeq (fIf (qB (q2 dGt (qFld okF "many" (qFld okF "tail" (qVar 0))) (qC (.int 0)))) (fRetX (xMethQ okF 0 ["tail"] "fed" 2 [] mt_fed_RowEnd (aCons (qVar 1) (aNil)))) (fNext))
    (fSeq (fIf (qB (q2 dIsNot (qFld okF "filled" (qVar 0)) (qC .non))) (fSeq (fIf (bAnd (qB (qMethF "good" 1 [] mt_good_Exact_Number_Value (qFld okF "filled" (qVar 0)) (aNil))) (qB (q2 dEq (qVar 1) (qC (.str (ofS ";")))))) (fRetX (xMethQ okF 0 ["tail"] "fed" 2 [] mt_fed_RowEnd (aCons (qVar 1) (aNil)))) (fNext))
    (fRetX (xMethQ okF 0 ["filled"] "fed" 2 [] mt_fed_Exact_Number_Value (aCons (qVar 1) (aNil))))) (fNext))
    (fSeq (fIf (qB (q2 dGt (qFld okF "many" (qFld okF "gap" (qVar 0))) (qC (.int 0)))) (fSeq (fIfX (xNot (xMethQ okF 0 ["gap"] "fed" 2 [] mt_fed_Exact (aCons (qVar 1) (aNil)))) (fRet (qC (.bl false))) (fNext))
    (fSeq (fFldX okF 0 [] "filled" (xMethG "value_for" 1 [] mt_value_for_FieldRow (qVar 0) (aNil)))
    (fRet (qC (.bl true))))) (fNext))
    (fSeq (fIf (bAnd (qB (q2 dEq (qVar 1) (qC (.str (ofS ";"))))) (qB (q2 dEq (qMethF "told" 1 [] mt_told_Name (qFld okF "label" (qVar 0)) (aNil)) (qC (.str (ofS "")))))) (fRetX (xMethQ okF 0 ["tail"] "fed" 2 [] mt_fed_RowEnd (aCons (qVar 1) (aNil)))) (fNext))
    (fSeq (fIf (bAnd (qB (q2 dEq (qVar 1) (qC (.str (ofS ":"))))) (qB (qMethF "good" 1 [] mt_good_Name (qFld okF "label" (qVar 0)) (aNil)))) (fRetX (xMethQ okF 0 ["gap"] "fed" 2 [] mt_fed_Exact (aCons (qVar 1) (aNil)))) (fNext))
    (fRetX (xMethQ okF 0 ["label"] "fed" 2 [] mt_fed_Name (aCons (qVar 1) (aNil))))))))
def r_FieldRow_fed : RX := runX 2 [true, false] (f_FieldRow_fed)
def mt_fed_FieldRow : MT := tbl [("FieldRow", r_FieldRow_fed)]
theorem mt_fed_FieldRow_FieldRow : mt_fed_FieldRow "FieldRow" = some r_FieldRow_fed := by rfl
def f_Fields_fed : FS :=
  fSeq (fIfX (xOr (xPB (qB (qFld okF "ready" (qVar 0)))) (xNot (xMethQ okF 0 ["row"] "fed" 2 [] mt_fed_FieldRow (aCons (qVar 1) (aNil))))) (fRet (qC (.bl false))) (fNext))
    (fSeq (fIf (qB (qMethF "whole" 1 [] mt_whole_FieldRow (qFld okF "row" (qVar 0)) (aNil))) (fExX (xMethS 0 "next_row" 1 [] mt_next_row_Fields (xaNil))) (fNext))
    (fRet (qC (.bl true))))
def r_Fields_fed : RX := runX 2 [true, false] (f_Fields_fed)
def mt_fed_Fields : MT := tbl [("Fields", r_Fields_fed)]
theorem mt_fed_Fields_Fields : mt_fed_Fields "Fields" = some r_Fields_fed := by rfl
def ct1__law_figures : FB :=
  qB (q2 dNotIn (qVar 2) (qC (.str (ofS "0123456789"))))
def f__law_figures : FS :=
  fSeq (fIf (bOr (qB (q2 dNe (qN (qLc (aQ (qVar 0)) (tgN 2) [2] (ct1__law_figures) (qVar 2))) (qN (aData (aNil))))) (qB (q2 dGt (qCall (o1 dLen) (aCons (qVar 0) (aNil))) (qC (.int 9))))) (fRet (qC (.bl false))) (fNext))
    (fSeq (fIf (bAnd (qB (q2 dGt (qCall (o1 dLen) (aCons (qVar 0) (aNil))) (qC (.int 1)))) (qB (q2 dEq (q2 dIx (qVar 0) (qC (.int 0))) (qC (.str (ofS "0")))))) (fRet (qC (.bl false))) (fNext))
    (fRet (qOr (q2 dEq (qVar 0) (qC (.str (ofS "")))) (q2 dLe (qCall (o1 oInt) (aCons (qVar 0) (aNil))) (qVar 1)))))
def r__law_figures : List D → Option D := runQ 3 2 (f__law_figures)
def f__law_open_value : FS :=
  fSeq (fIf (bAnd (qB (q2 dIn (qVar 0) (qVar 3))) (qB (q2 dEq (qVar 0) (qC (.str (ofS "length")))))) (fRet (qRun 2 [] r__law_figures (aCons (qVar 1) (aCons (q2 dIx (qVar 2) (qC (.int 4))) (aNil))))) (fNext))
    (fSeq (fIf (qB (q2 dIn (qVar 0) (qVar 3))) (fRet (q2 dEq (qSl (qC (.str (ofS "yes"))) oNone (oSome (qCall (o1 dLen) (aCons (qVar 1) (aNil))))) (qVar 1))) (fNext))
    (fSeq (fIf (bOr (qB (q2 dGt (qCall (o1 dLen) (aCons (qVar 1) (aNil))) (q2 dIx (qVar 2) (qC (.int 2))))) (bOr (qB (q2 dEq (qSl (qVar 1) oNone (oSome (qC (.int 1)))) (qC (.str (ofS " "))))) (bOr (qB (q2 dIn (qC (.str (ofS "\n"))) (qVar 1))) (qB (q2 dIn (qC (.str (ofS ";"))) (qVar 1)))))) (fRet (qC (.bl false))) (fNext))
    (fRet (qOr (q2 dNe (qSl (qVar 1) (oSome (q1 dNeg (qC (.int 1)))) oNone) (qC (.str (ofS " ")))) (q2 dLt (qCall (o1 dLen) (aCons (qVar 1) (aNil))) (q2 dIx (qVar 2) (qC (.int 2))))))))
def r__law_open_value : List D → Option D := runQ 4 4 (f__law_open_value)
def ct1__law_good_name : FB :=
  bNot (qB (q3 dLe dLe (qC (.str (ofS "a"))) (qVar 4) (qC (.str (ofS "z")))))
def f__law_good_name : FS :=
  fSeq (fIf (qB (q2 dIn (qVar 0) (qVar 3))) (fRet (qC (.bl true))) (fNext))
    (fSeq (fIf (bOr (qB (q2 dEq (qVar 2) (qC (.int 0)))) (bOr (bNot (qB (q3 dLt dLe (qC (.int 0)) (qCall (o1 dLen) (aCons (qVar 0) (aNil))) (q2 dIx (qVar 1) (qC (.int 1)))))) (qB (q2 dIn (qVar 0) (qN (aData (aCons (qC (.str (ofS "length"))) (aCons (qC (.str (ofS "pieces"))) (aCons (qC (.str (ofS "parts"))) (aCons (qC (.str (ofS "rest"))) (aNil))))))))))) (fRet (qC (.bl false))) (fNext))
    (fRet (q2 dEq (qN (qLc (aQ (qVar 0)) (tgN 4) [4] (ct1__law_good_name) (qVar 4))) (qN (aData (aNil))))))
def r__law_good_name : List D → Option D := runQ 5 4 (f__law_good_name)
def ct1__law_open_name : FB :=
  qB (q2 dEq (qSl (qVar 4) oNone (oSome (qCall (o1 dLen) (aCons (qVar 0) (aNil))))) (qVar 0))
def ct2__law_open_name : FB :=
  bNot (qB (q3 dLe dLe (qC (.str (ofS "a"))) (qVar 5) (qC (.str (ofS "z")))))
def f__law_open_name : FS :=
  fSeq (fIf (qB (q2 dNe (qN (qLc (aQ (qVar 3)) (tgN 4) [4] (ct1__law_open_name) (qVar 4))) (qN (aData (aNil))))) (fRet (qC (.bl true))) (fNext))
    (fSeq (fIf (qB (qRun 4 [] r__law_good_name (aCons (qVar 0) (aCons (qVar 1) (aCons (qVar 2) (aCons (qVar 3) (aNil))))))) (fRet (qC (.bl true))) (fNext))
    (fRet (qAnd (q2 dGt (qVar 2) (qC (.int 0))) (qAnd (q2 dLt (qCall (o1 dLen) (aCons (qVar 0) (aNil))) (q2 dIx (qVar 1) (qC (.int 1)))) (q2 dEq (qN (qLc (aQ (qVar 0)) (tgN 5) [5] (ct2__law_open_name) (qVar 5))) (qN (aData (aNil))))))))
def r__law_open_name : List D → Option D := runQ 6 4 (f__law_open_name)
def f__law_open_row : FS :=
  fSeq (fSetT (tgT [4, 5, 6]) (qM1 oPart (qVar 0) (qC (.str (ofS ":")))))
    (fSeq (fIf (qB (q2 dEq (qVar 5) (qC (.str (ofS ""))))) (fRet (qOr (q2 dEq (qVar 0) (qC (.str (ofS "")))) (qRun 4 [] r__law_open_name (aCons (qVar 4) (aCons (qVar 1) (aCons (qVar 2) (aCons (qVar 3) (aNil)))))))) (fNext))
    (fSeq (fIf (bOr (bNot (qB (qRun 4 [] r__law_good_name (aCons (qVar 4) (aCons (qVar 1) (aCons (qVar 2) (aCons (qVar 3) (aNil)))))))) (qB (q2 dNe (qSl (qVar 6) oNone (oSome (qC (.int 1)))) (qSl (qC (.str (ofS " "))) oNone (oSome (qCall (o1 dLen) (aCons (qVar 6) (aNil)))))))) (fRet (qC (.bl false))) (fNext))
    (fRet (qRun 4 [] r__law_open_value (aCons (qVar 4) (aCons (qSl (qVar 6) (oSome (qC (.int 1))) oNone) (aCons (qVar 1) (aCons (qVar 3) (aNil)))))))))
def r__law_open_row : List D → Option D := runQ 7 4 (f__law_open_row)
def f__law_good_value : FS :=
  fSeq (fIf (bOr (qB (q2 dEq (qVar 1) (qC (.str (ofS ""))))) (bNot (qB (qRun 4 [] r__law_open_value (aCons (qVar 0) (aCons (qVar 1) (aCons (qVar 2) (aCons (qVar 3) (aNil))))))))) (fRet (qC (.bl false))) (fNext))
    (fSeq (fIf (bAnd (qB (q2 dIn (qVar 0) (qVar 3))) (qB (q2 dNe (qVar 0) (qC (.str (ofS "length")))))) (fRet (q2 dEq (qVar 1) (qC (.str (ofS "yes"))))) (fNext))
    (fRet (q2 dNe (q2 dIx (qVar 1) (q1 dNeg (qC (.int 1)))) (qC (.str (ofS " "))))))
def r__law_good_value : List D → Option D := runQ 4 4 (f__law_good_value)
def f__law_whole_row : FS :=
  fSeq (fSetT (tgT [4, 5, 6]) (qM1 oPart (qVar 0) (qC (.str (ofS ": ")))))
    (fSeq (fIf (bOr (qB (q2 dEq (qVar 5) (qC (.str (ofS ""))))) (bNot (qB (qRun 4 [] r__law_good_name (aCons (qVar 4) (aCons (qVar 1) (aCons (qVar 2) (aCons (qVar 3) (aNil))))))))) (fRet (qC (.bl false))) (fNext))
    (fRet (qRun 4 [] r__law_good_value (aCons (qVar 4) (aCons (qVar 6) (aCons (qVar 1) (aCons (qVar 3) (aNil))))))))
def r__law_whole_row : List D → Option D := runQ 7 4 (f__law_whole_row)
def lb1__law_hopeful : FS :=
  fWp [5, 6] (fSeq (fSet 6 (q2 dIx (qVar 4) (qVar 5)))
    (fSeq (fIf (qB (q2 dGt (qVar 5) (qC (.int 0)))) (fSeq (fIf (qB (q2 dNe (qSl (qVar 6) oNone (oSome (qC (.int 1)))) (qC (.str (ofS "\n"))))) (fRet (qC (.bl false))) (fNext))
    (fSet 6 (qSl (qVar 6) (oSome (qC (.int 1))) oNone))) (fNext))
    (fSeq (fIf (qB (q2 dEq (qVar 6) (qC (.str (ofS ""))))) (fRet (qAnd (q2 dEq (qVar 5) (q2 dSub (qCall (o1 dLen) (aCons (qVar 4) (aNil))) (qC (.int 2)))) (qOr (q2 dEq (q2 dIx (qVar 4) (q1 dNeg (qC (.int 1)))) (qC (.str (ofS "")))) (q2 dEq (q2 dIx (qVar 4) (q1 dNeg (qC (.int 1)))) (qC (.str (ofS "\n"))))))) (fNext))
    (fSeq (fIf (bNot (qB (qRun 4 [] r__law_whole_row (aCons (qVar 6) (aCons (qVar 1) (aCons (qVar 2) (aCons (qVar 3) (aNil)))))))) (fRet (qC (.bl false))) (fNext))
    (fIf (qB (q2 dIn (q2 dIx (qM1 oPart (qVar 6) (qC (.str (ofS ":")))) (qC (.int 0))) (qVar 3))) (fSeq (fSet 2 (qC (.int 0)))
    (fSet 3 (qTup (aNil)))) (fSet 2 (q2 dSub (qVar 2) (qC (.int 1)))))))))
def f__law_hopeful : FS :=
  fSeq (fSet 4 (qM1 oSplit (qVar 0) (qC (.str (ofS ";")))))
    (fSeq (fFor (aR1 (q2 dSub (qCall (o1 dLen) (aCons (qVar 4) (aNil))) (qC (.int 1)))) (tgN 5) (lb1__law_hopeful))
    (fSeq (fIf (qB (q2 dEq (qCall (o1 dLen) (aCons (qVar 4) (aNil))) (qC (.int 1)))) (fRet (qRun 4 [] r__law_open_row (aCons (qVar 0) (aCons (qVar 1) (aCons (qVar 2) (aCons (qVar 3) (aNil))))))) (fNext))
    (fRet (qOr (q2 dEq (q2 dIx (qVar 4) (q1 dNeg (qC (.int 1)))) (qC (.str (ofS "")))) (qAnd (q2 dEq (q2 dIx (q2 dIx (qVar 4) (q1 dNeg (qC (.int 1)))) (qC (.int 0))) (qC (.str (ofS "\n")))) (qRun 4 [] r__law_open_row (aCons (qSl (q2 dIx (qVar 4) (q1 dNeg (qC (.int 1)))) (oSome (qC (.int 1))) oNone) (aCons (qVar 1) (aCons (qVar 2) (aCons (qVar 3) (aNil)))))))))))
def r__law_hopeful : List D → Option D := runQ 7 4 (f__law_hopeful)
def lb1__law_finished : FS :=
  fWp [5] (fIfX (xOp dIsNot (xMethS 4 "fed" 2 [] mt_fed_Fields (xaCons (xQ (qVar 5)) (xaNil))) (xQ (qC (.bl true)))) (fRet (qC (.bl false))) (fNext))
def f__law_finished : FS :=
  fSeq (fSetX 4 (xMake "Fields" 4 [] r_Fields___init__ (xaCons (xQ (qVar 1)) (xaCons (xQ (qVar 2)) (xaCons (xQ (qVar 3)) (xaNil))))))
    (fSeq (fFor (aF (qVar 0)) (tgN 5) (lb1__law_finished))
    (fRet (q2 dIs (qMethF "whole" 1 [] mt_whole_Fields (qVar 4) (aNil)) (qC (.bl true)))))
def r__law_finished : RF := runF 6 (f__law_finished)
def lb1_law : FS :=
  fWp [9, 10, 11, 12, 13] (fSeq (fSet 10 (qRun 3 [] r__law_sign (aCons (qRun 2 [] r__law_stream (aCons (qVar 9) (aCons (qC (.int 2)) (aNil)))) (aCons (qVar 8) (aCons (qVar 6) (aNil))))))
    (fSeq (fSet 11 (qAnd (qNot (qMethF "whole" 1 [] mt_whole_Fields (qVar 7) (aNil))) (qRun 4 [] r__law_hopeful (aCons (q2 dAdd (qVar 8) (qVar 10)) (aCons (qVar 3) (aCons (qVar 4) (aCons (qVar 5) (aNil))))))))
    (fSeq (fSet 12 (qRunF 1 [] r__law_told (aCons (qVar 7) (aNil))))
    (fSeq (fSetX 13 (xMethS 7 "fed" 2 [] mt_fed_Fields (xaCons (xQ (qVar 10)) (xaNil))))
    (fSeq (fIf (bOr (bNot (qB (qIsi "bool" (qVar 13)))) (qB (q2 dNe (qVar 13) (qVar 11)))) (fRet (qC (.bl false))) (fNext))
    (fSeq (fIf (qB (qVar 11)) (fSet 8 (q2 dAdd (qVar 8) (qVar 10))) (fIf (qB (q2 dNe (qRunF 1 [] r__law_told (aCons (qVar 7) (aNil))) (qVar 12))) (fRet (qC (.bl false))) (fNext)))
    (fIf (bNot (qB (qRunF 4 [] r__law_finished (aCons (q2 dAdd (qVar 8) (qMethF "awaited" 1 [] mt_awaited_Fields (qVar 7) (aNil))) (aCons (qVar 3) (aCons (qVar 4) (aCons (qVar 5) (aNil)))))))) (fRet (qC (.bl false))) (fNext))))))))
def f_law : FS :=
  fSeq (fSet 1 (qRun 2 [] r__law_cell_at (aCons (qVar 0) (aCons (qC (.int 0)) (aNil)))))
    (fSeq (fSet 2 (qRun 2 [] r__law_stream (aCons (qRun 2 [] r__law_cell_at (aCons (qVar 0) (aCons (qC (.int 2)) (aNil)))) (aCons (qC (.int 3)) (aNil)))))
    (fSeq (fSet 3 (qTup (aCons (qC (.int 8)) (aCons (q2 dAdd (qC (.int 1)) (q2 dMod (q2 dIx (qVar 2) (qC (.int 0))) (qC (.int 8)))) (aCons (q2 dAdd (qC (.int 1)) (q2 dMod (q2 dIx (qVar 2) (qC (.int 1))) (qC (.int 8)))) (aCons (qC (.int 3)) (aCons (q2 dIx (qN (aData (aCons (q2 dMod (q2 dIx (qVar 2) (qC (.int 2))) (qC (.int 13))) (aCons (qC (.int 400)) (aNil))))) (q2 dMod (qVar 1) (qC (.int 2)))) (aCons (qC (.int 2)) (aCons (qC (.int 2)) (aNil))))))))))
    (fSeq (fSet 4 (q2 dMod (q2 dFdiv (qVar 1) (qC (.int 2))) (qC (.int 4))))
    (fSeq (fSet 5 (q2 dIx (qN (aData (aCons (qTup (aCons (qC (.str (ofS "length"))) (aCons (qC (.str (ofS "pieces"))) (aCons (qC (.str (ofS "parts"))) (aCons (qC (.str (ofS "rest"))) (aNil)))))) (aCons (qTup (aCons (qC (.str (ofS "length"))) (aCons (qC (.str (ofS "pieces"))) (aCons (qC (.str (ofS "parts"))) (aNil))))) (aCons (qTup (aNil)) (aNil)))))) (q2 dMod (q2 dFdiv (qVar 1) (qC (.int 8))) (qC (.int 3)))))
    (fSeq (fSet 6 (qRun 1 [] r__law_plan (aCons (qRun 2 [] r__law_cell_at (aCons (qVar 0) (aCons (qC (.int 1)) (aNil)))) (aNil))))
    (fSeq (fSetX 7 (xMake "Fields" 4 [] r_Fields___init__ (xaCons (xQ (qVar 3)) (xaCons (xQ (qVar 4)) (xaCons (xQ (qVar 5)) (xaNil))))))
    (fSeq (fSet 8 (qC (.str (ofS ""))))
    (fSeq (fFor (aF (qSl (qVar 0) (oSome (qC (.int 3))) (oSome (qC (.int 43))))) (tgN 9) (lb1_law))
    (fRet (qC (.bl true)))))))))))
def r_law : RF := runF 14 (f_law)
def klaw := And.intro (And.intro (And.intro (And.intro (And.intro (And.intro (And.intro (@lit0) (And.intro (@lit1) (@lit2))) (And.intro (And.intro (@lit3) (@lit4)) (And.intro (@lit5) (@lit6)))) (And.intro (And.intro (@lit7) (And.intro (@lit8) (@lit9))) (And.intro (And.intro (@lit10) (@lit11)) (And.intro (@lit12) (@lit13))))) (And.intro (And.intro (And.intro (@lit14) (And.intro (@lit15) (@lit16))) (And.intro (And.intro (@lit17) (@lit18)) (And.intro (@lit19) (@lit20)))) (And.intro (And.intro (And.intro (@lit21) (@lit22)) (And.intro (@lit23) (@lit24))) (And.intro (And.intro (@lit25) (@lit26)) (And.intro (@lit27) (@lit28)))))) (And.intro (And.intro (And.intro (And.intro (@lit29) (And.intro (@lit30) (@lit31))) (And.intro (And.intro (@lit32) (@lit33)) (And.intro (@lit34) (@lit35)))) (And.intro (And.intro (@lit36) (And.intro (@lit37) (@lit38))) (And.intro (And.intro (@lit39) (@lit40)) (And.intro (@lit41) (@lit42))))) (And.intro (And.intro (And.intro (@lit43) (And.intro (@gv_END_NAMES) (@gv_FIGURES))) (And.intro (And.intro (@gv_ROW_END) (@okf_Exact_many)) (And.intro (@okf_Exact_text) (@okf_RowEnd_many)))) (And.intro (And.intro (And.intro (@okf_RowEnd_text) (@okf_Number_base)) (And.intro (@okf_Number_figures) (@okf_Number_most))) (And.intro (And.intro (@okf_Number_number) (@okf_Name_ends)) (And.intro (@okf_Name_most) (@okf_Name_room))))))) (And.intro (And.intro (And.intro (And.intro (And.intro (@okf_Name_text) (And.intro (@okf_Value_most) (@okf_Value_text))) (And.intro (And.intro (@okf_FieldRow_book) (@okf_FieldRow_ends)) (And.intro (@okf_FieldRow_filled) (@okf_FieldRow_gap)))) (And.intro (And.intro (@okf_FieldRow_label) (And.intro (@okf_FieldRow_tail) (@okf_Fields_book))) (And.intro (And.intro (@okf_Fields_closing) (@okf_Fields_ends)) (And.intro (@okf_Fields_kept) (@okf_Fields_ready))))) (And.intro (And.intro (And.intro (@okf_Fields_room) (And.intro (@okf_Fields_row) (@ix_Exact_awaited))) (And.intro (And.intro (@ix_Exact_fed) (@ix_Exact_good)) (And.intro (@ix_Exact_many) (@ix_Exact_text)))) (And.intro (And.intro (And.intro (@ix_Exact_told) (@ln_Exact)) (And.intro (@put_Exact_0) (@put_Exact_1))) (And.intro (And.intro (@set_Exact_text) (@set_Exact_many)) (And.intro (@ix_RowEnd_awaited) (@ix_RowEnd_fed)))))) (And.intro (And.intro (And.intro (And.intro (@ix_RowEnd_good) (And.intro (@ix_RowEnd_many) (@ix_RowEnd_text))) (And.intro (And.intro (@ln_RowEnd) (@put_RowEnd_0)) (And.intro (@put_RowEnd_1) (@set_RowEnd_text)))) (And.intro (And.intro (And.intro (@set_RowEnd_many) (@ix_Number_awaited)) (And.intro (@ix_Number_base) (@ix_Number_fed))) (And.intro (And.intro (@ix_Number_figures) (@ix_Number_good)) (And.intro (@ix_Number_most) (@ix_Number_number))))) (And.intro (And.intro (And.intro (@ix_Number_told) (And.intro (@ln_Number) (@put_Number_0))) (And.intro (And.intro (@put_Number_1) (@put_Number_2)) (And.intro (@put_Number_3) (@set_Number_base)))) (And.intro (And.intro (And.intro (@set_Number_most) (@set_Number_figures)) (And.intro (@set_Number_number) (@ix_Name_awaited))) (And.intro (And.intro (@ix_Name_ends) (@ix_Name_fed)) (And.intro (@ix_Name_good) (@ix_Name_is_good)))))))) (And.intro (And.intro (And.intro (And.intro (And.intro (And.intro (@ix_Name_is_hopeful) (And.intro (@ix_Name_most) (@ix_Name_room))) (And.intro (And.intro (@ix_Name_text) (@ix_Name_told)) (And.intro (@ln_Name) (@put_Name_0)))) (And.intro (And.intro (@put_Name_1) (And.intro (@put_Name_2) (@put_Name_3))) (And.intro (And.intro (@set_Name_most) (@set_Name_room)) (And.intro (@set_Name_ends) (@set_Name_text))))) (And.intro (And.intro (And.intro (@ix_Value_awaited) (And.intro (@ix_Value_fed) (@ix_Value_good))) (And.intro (And.intro (@ix_Value_most) (@ix_Value_text)) (And.intro (@ix_Value_told) (@ln_Value)))) (And.intro (And.intro (And.intro (@put_Value_0) (@put_Value_1)) (And.intro (@set_Value_most) (@set_Value_text))) (And.intro (And.intro (@ix_FieldRow_awaited) (@ix_FieldRow_book)) (And.intro (@ix_FieldRow_ends) (@ix_FieldRow_fed)))))) (And.intro (And.intro (And.intro (And.intro (@ix_FieldRow_filled) (And.intro (@ix_FieldRow_gap) (@ix_FieldRow_is_end))) (And.intro (And.intro (@ix_FieldRow_label) (@ix_FieldRow_number_begun)) (And.intro (@ix_FieldRow_tail) (@ix_FieldRow_told)))) (And.intro (And.intro (@ix_FieldRow_value_for) (And.intro (@ix_FieldRow_whole) (@ln_FieldRow))) (And.intro (And.intro (@put_FieldRow_0) (@put_FieldRow_1)) (And.intro (@put_FieldRow_2) (@put_FieldRow_3))))) (And.intro (And.intro (And.intro (@put_FieldRow_4) (And.intro (@put_FieldRow_5) (@set_FieldRow_book))) (And.intro (And.intro (@set_FieldRow_ends) (@set_FieldRow_label)) (And.intro (@set_FieldRow_gap) (@set_FieldRow_filled)))) (And.intro (And.intro (And.intro (@set_FieldRow_tail) (@ix_Fields_awaited)) (And.intro (@ix_Fields_book) (@ix_Fields_closing))) (And.intro (And.intro (@ix_Fields_ends) (@ix_Fields_fed)) (And.intro (@ix_Fields_kept) (@ix_Fields_next_row))))))) (And.intro (And.intro (And.intro (And.intro (And.intro (@ix_Fields_ready) (And.intro (@ix_Fields_room) (@ix_Fields_room_left))) (And.intro (And.intro (@ix_Fields_row) (@ix_Fields_told)) (And.intro (@ix_Fields_told_end) (@ix_Fields_whole)))) (And.intro (And.intro (@ln_Fields) (And.intro (@put_Fields_0) (@put_Fields_1))) (And.intro (And.intro (@put_Fields_2) (@put_Fields_3)) (And.intro (@put_Fields_4) (@put_Fields_5))))) (And.intro (And.intro (And.intro (@put_Fields_6) (And.intro (@set_Fields_book) (@set_Fields_room))) (And.intro (And.intro (@set_Fields_ends) (@set_Fields_kept)) (And.intro (@set_Fields_closing) (@set_Fields_ready)))) (And.intro (And.intro (And.intro (@set_Fields_row) (@mt_whole_Fields_Fields)) (And.intro (@mt_told_Fields_Fields) (@mt_told_end_Fields_Fields))) (And.intro (And.intro (@mt_room_left_Fields_Fields) (@mt_is_good_Name_Name)) (And.intro (@mt_good_Name_Name) (@mt_awaited_Name_Name)))))) (And.intro (And.intro (And.intro (And.intro (@mt_awaited_RowEnd_RowEnd) (And.intro (@mt_told_Name_Name) (@mt_good_Value_Value))) (And.intro (And.intro (@mt_awaited_Exact_Number_Value_Exact) (@mt_awaited_Exact_Number_Value_Number)) (And.intro (@mt_awaited_Exact_Number_Value_Value) (@mt_is_end_FieldRow_FieldRow)))) (And.intro (And.intro (And.intro (@mt_value_for_FieldRow_FieldRow) (@mt_awaited_FieldRow_FieldRow)) (And.intro (@mt_awaited_Fields_Fields) (@mt_good_RowEnd_RowEnd))) (And.intro (And.intro (@mt_whole_FieldRow_FieldRow) (@mt_told_Exact_Number_Value_Exact)) (And.intro (@mt_told_Exact_Number_Value_Number) (@mt_told_Exact_Number_Value_Value))))) (And.intro (And.intro (And.intro (@mt_told_FieldRow_FieldRow) (And.intro (@mt_number_begun_FieldRow_FieldRow) (@mt_next_row_Fields_Fields))) (And.intro (And.intro (@mt_is_hopeful_Name_Name) (@mt_fed_Name_Name)) (And.intro (@mt_fed_RowEnd_RowEnd) (@mt_fed_Exact_Exact)))) (And.intro (And.intro (And.intro (@mt_fed_Exact_Number_Value_Exact) (@mt_fed_Exact_Number_Value_Number)) (And.intro (@mt_fed_Exact_Number_Value_Value) (@mt_good_Exact_Number_Value_Exact))) (And.intro (And.intro (@mt_good_Exact_Number_Value_Number) (@mt_good_Exact_Number_Value_Value)) (And.intro (@mt_fed_FieldRow_FieldRow) (@mt_fed_Fields_Fields))))))))
/-- what the top has left -/
structure Tx (P : Program) (w : World) (K : PySem.W.Frag) (mg : Str → Option Value) (base : Heap) : Prop where
  b_any : mg "any" = none
  b_bool : mg "bool" = none
  b_int : mg "int" = none
  b_isinstance : mg "isinstance" = none
  b_len : mg "len" = none
  b_range : mg "range" = none
  b_tuple : mg "tuple" = none
  g_END_NAMES : GlD K mg "END_NAMES" g_END_NAMES
  g_FIGURES : GlD K mg "FIGURES" g_FIGURES
  g_ROW_END : GlD K mg "ROW_END" g_ROW_END
  m__law_cell_at : mg "_law_cell_at" = some (.ref (He.ga K "_law_cell_at"))
  m__law_stream : mg "_law_stream" = some (.ref (He.ga K "_law_stream"))
  m__law_plan : mg "_law_plan" = some (.ref (He.ga K "_law_plan"))
  m__law_sign : mg "_law_sign" = some (.ref (He.ga K "_law_sign"))
  m__law_told : mg "_law_told" = some (.ref (He.ga K "_law_told"))
  m_is_small : mg "is_small" = some (.ref (He.ga K "is_small"))
  m_is_plain : mg "is_plain" = some (.ref (He.ga K "is_plain"))
  m__law_figures : mg "_law_figures" = some (.ref (He.ga K "_law_figures"))
  m__law_open_value : mg "_law_open_value" = some (.ref (He.ga K "_law_open_value"))
  m__law_good_name : mg "_law_good_name" = some (.ref (He.ga K "_law_good_name"))
  m__law_open_name : mg "_law_open_name" = some (.ref (He.ga K "_law_open_name"))
  m__law_open_row : mg "_law_open_row" = some (.ref (He.ga K "_law_open_row"))
  m__law_good_value : mg "_law_good_value" = some (.ref (He.ga K "_law_good_value"))
  m__law_whole_row : mg "_law_whole_row" = some (.ref (He.ga K "_law_whole_row"))
  m__law_hopeful : mg "_law_hopeful" = some (.ref (He.ga K "_law_hopeful"))
  m__law_finished : mg "_law_finished" = some (.ref (He.ga K "_law_finished"))
  m_law : mg "law" = some (.ref (He.ga K "law"))
  c_Exact : Cls K (He.ga K "Exact")
  c_RowEnd : Cls K (He.ga K "RowEnd")
  c_Number : Cls K (He.ga K "Number")
  c_Name : Cls K (He.ga K "Name")
  c_Value : Cls K (He.ga K "Value")
  c_FieldRow : Cls K (He.ga K "FieldRow")
  c_Fields : Cls K (He.ga K "Fields")
  n_Exact_many : NoAttr K (He.ga K "Exact") "many"
  n_Exact_text : NoAttr K (He.ga K "Exact") "text"
  n_RowEnd_many : NoAttr K (He.ga K "RowEnd") "many"
  n_RowEnd_text : NoAttr K (He.ga K "RowEnd") "text"
  n_Number_base : NoAttr K (He.ga K "Number") "base"
  n_Number_figures : NoAttr K (He.ga K "Number") "figures"
  n_Number_most : NoAttr K (He.ga K "Number") "most"
  n_Number_number : NoAttr K (He.ga K "Number") "number"
  n_Name_ends : NoAttr K (He.ga K "Name") "ends"
  n_Name_most : NoAttr K (He.ga K "Name") "most"
  n_Name_room : NoAttr K (He.ga K "Name") "room"
  n_Name_text : NoAttr K (He.ga K "Name") "text"
  n_Value_most : NoAttr K (He.ga K "Value") "most"
  n_Value_text : NoAttr K (He.ga K "Value") "text"
  n_FieldRow_book : NoAttr K (He.ga K "FieldRow") "book"
  n_FieldRow_ends : NoAttr K (He.ga K "FieldRow") "ends"
  n_FieldRow_filled : NoAttr K (He.ga K "FieldRow") "filled"
  n_FieldRow_gap : NoAttr K (He.ga K "FieldRow") "gap"
  n_FieldRow_label : NoAttr K (He.ga K "FieldRow") "label"
  n_FieldRow_tail : NoAttr K (He.ga K "FieldRow") "tail"
  n_Fields_book : NoAttr K (He.ga K "Fields") "book"
  n_Fields_closing : NoAttr K (He.ga K "Fields") "closing"
  n_Fields_ends : NoAttr K (He.ga K "Fields") "ends"
  n_Fields_kept : NoAttr K (He.ga K "Fields") "kept"
  n_Fields_ready : NoAttr K (He.ga K "Fields") "ready"
  n_Fields_room : NoAttr K (He.ga K "Fields") "room"
  n_Fields_row : NoAttr K (He.ga K "Fields") "row"
  h_Name_is_good : Meth K (He.ga K "Name") "is_good" (He.ma K (He.ga K "Name") "is_good")
  h_Name_good : Meth K (He.ga K "Name") "good" (He.ma K (He.ga K "Name") "good")
  h_Value_good : Meth K (He.ga K "Value") "good" (He.ma K (He.ga K "Value") "good")
  h_Name_told : Meth K (He.ga K "Name") "told" (He.ma K (He.ga K "Name") "told")
  h_FieldRow_is_end : Meth K (He.ga K "FieldRow") "is_end" (He.ma K (He.ga K "FieldRow") "is_end")
  h_RowEnd_awaited : Meth K (He.ga K "RowEnd") "awaited" (He.ma K (He.ga K "RowEnd") "awaited")
  h_Exact_awaited : Meth K (He.ga K "Exact") "awaited" (He.ma K (He.ga K "Exact") "awaited")
  h_Number_awaited : Meth K (He.ga K "Number") "awaited" (He.ma K (He.ga K "Number") "awaited")
  h_Value_awaited : Meth K (He.ga K "Value") "awaited" (He.ma K (He.ga K "Value") "awaited")
  h_Name_awaited : Meth K (He.ga K "Name") "awaited" (He.ma K (He.ga K "Name") "awaited")
  h_FieldRow_value_for : Meth K (He.ga K "FieldRow") "value_for" (He.ma K (He.ga K "FieldRow") "value_for")
  h_FieldRow_awaited : Meth K (He.ga K "FieldRow") "awaited" (He.ma K (He.ga K "FieldRow") "awaited")
  h_Fields_awaited : Meth K (He.ga K "Fields") "awaited" (He.ma K (He.ga K "Fields") "awaited")
  h_Fields_room_left : Meth K (He.ga K "Fields") "room_left" (He.ma K (He.ga K "Fields") "room_left")
  h_Fields_told_end : Meth K (He.ga K "Fields") "told_end" (He.ma K (He.ga K "Fields") "told_end")
  h_Fields_told : Meth K (He.ga K "Fields") "told" (He.ma K (He.ga K "Fields") "told")
  h_Fields_whole : Meth K (He.ga K "Fields") "whole" (He.ma K (He.ga K "Fields") "whole")
  h_RowEnd_good : Meth K (He.ga K "RowEnd") "good" (He.ma K (He.ga K "RowEnd") "good")
  h_Exact_told : Meth K (He.ga K "Exact") "told" (He.ma K (He.ga K "Exact") "told")
  h_Number_told : Meth K (He.ga K "Number") "told" (He.ma K (He.ga K "Number") "told")
  h_Value_told : Meth K (He.ga K "Value") "told" (He.ma K (He.ga K "Value") "told")
  h_FieldRow_told : Meth K (He.ga K "FieldRow") "told" (He.ma K (He.ga K "FieldRow") "told")
  h_FieldRow_number_begun : Meth K (He.ga K "FieldRow") "number_begun" (He.ma K (He.ga K "FieldRow") "number_begun")
  h_Name_is_hopeful : Meth K (He.ga K "Name") "is_hopeful" (He.ma K (He.ga K "Name") "is_hopeful")
  h_RowEnd_fed : Meth K (He.ga K "RowEnd") "fed" (He.ma K (He.ga K "RowEnd") "fed")
  h_Exact_good : Meth K (He.ga K "Exact") "good" (He.ma K (He.ga K "Exact") "good")
  h_Number_good : Meth K (He.ga K "Number") "good" (He.ma K (He.ga K "Number") "good")
  h_Exact_fed : Meth K (He.ga K "Exact") "fed" (He.ma K (He.ga K "Exact") "fed")
  h_Number_fed : Meth K (He.ga K "Number") "fed" (He.ma K (He.ga K "Number") "fed")
  h_Value_fed : Meth K (He.ga K "Value") "fed" (He.ma K (He.ga K "Value") "fed")
  h_Name_fed : Meth K (He.ga K "Name") "fed" (He.ma K (He.ga K "Name") "fed")
  h_FieldRow_fed : Meth K (He.ga K "FieldRow") "fed" (He.ma K (He.ga K "FieldRow") "fed")
  h_FieldRow_whole : Meth K (He.ga K "FieldRow") "whole" (He.ma K (He.ga K "FieldRow") "whole")
  h_Fields_next_row : Meth K (He.ga K "Fields") "next_row" (He.ma K (He.ga K "Fields") "next_row")
  h_Fields_fed : Meth K (He.ga K "Fields") "fed" (He.ma K (He.ga K "Fields") "fed")
  b_Exact___init___base : baseB K "Exact" "__init__" = true
  k_Exact : Mk K (He.ga K "Exact") (He.ma K (He.ga K "Exact") "__init__")
  m_Exact : mg "Exact" = some (.ref (He.ga K "Exact"))
  k_FieldRow : Mk K (He.ga K "FieldRow") (He.ma K (He.ga K "FieldRow") "__init__")
  m_FieldRow : mg "FieldRow" = some (.ref (He.ga K "FieldRow"))
  k_Fields : Mk K (He.ga K "Fields") (He.ma K (He.ga K "Fields") "__init__")
  m_Fields : mg "Fields" = some (.ref (He.ga K "Fields"))
  k_Name : Mk K (He.ga K "Name") (He.ma K (He.ga K "Name") "__init__")
  m_Name : mg "Name" = some (.ref (He.ga K "Name"))
  k_Number : Mk K (He.ga K "Number") (He.ma K (He.ga K "Number") "__init__")
  m_Number : mg "Number" = some (.ref (He.ga K "Number"))
  k_RowEnd : Mk K (He.ga K "RowEnd") (He.ma K (He.ga K "RowEnd") "__init__")
  m_RowEnd : mg "RowEnd" = some (.ref (He.ga K "RowEnd"))
  k_Value : Mk K (He.ga K "Value") (He.ma K (He.ga K "Value") "__init__")
  m_Value : mg "Value" = some (.ref (He.ga K "Value"))
  d__law_cell_at : ∃ fd, FunD K "_law_cell_at" "_law_cell_at" (defArgs s__law_cell_at) (defBody s__law_cell_at) (defScope s__law_cell_at) [] [] (He.ga K "_law_cell_at") fd
  d__law_stream : ∃ fd, FunD K "_law_stream" "_law_stream" (defArgs s__law_stream) (defBody s__law_stream) (defScope s__law_stream) [] [] (He.ga K "_law_stream") fd
  d__law_plan : ∃ fd, FunD K "_law_plan" "_law_plan" (defArgs s__law_plan) (defBody s__law_plan) (defScope s__law_plan) [] [] (He.ga K "_law_plan") fd
  d__law_sign : ∃ fd, FunD K "_law_sign" "_law_sign" (defArgs s__law_sign) (defBody s__law_sign) (defScope s__law_sign) [] [] (He.ga K "_law_sign") fd
  d__law_told : ∃ fd, FunD K "_law_told" "_law_told" (defArgs s__law_told) (defBody s__law_told) (defScope s__law_told) [] [] (He.ga K "_law_told") fd
  d_is_small : ∃ fd, FunD K "is_small" "is_small" (defArgs s_is_small) (defBody s_is_small) (defScope s_is_small) [] [] (He.ga K "is_small") fd
  d_is_plain : ∃ fd, FunD K "is_plain" "is_plain" (defArgs s_is_plain) (defBody s_is_plain) (defScope s_is_plain) [] [] (He.ga K "is_plain") fd
  d__law_figures : ∃ fd, FunD K "_law_figures" "_law_figures" (defArgs s__law_figures) (defBody s__law_figures) (defScope s__law_figures) [] [] (He.ga K "_law_figures") fd
  d__law_open_value : ∃ fd, FunD K "_law_open_value" "_law_open_value" (defArgs s__law_open_value) (defBody s__law_open_value) (defScope s__law_open_value) [] [] (He.ga K "_law_open_value") fd
  d__law_good_name : ∃ fd, FunD K "_law_good_name" "_law_good_name" (defArgs s__law_good_name) (defBody s__law_good_name) (defScope s__law_good_name) [] [] (He.ga K "_law_good_name") fd
  d__law_open_name : ∃ fd, FunD K "_law_open_name" "_law_open_name" (defArgs s__law_open_name) (defBody s__law_open_name) (defScope s__law_open_name) [] [] (He.ga K "_law_open_name") fd
  d__law_open_row : ∃ fd, FunD K "_law_open_row" "_law_open_row" (defArgs s__law_open_row) (defBody s__law_open_row) (defScope s__law_open_row) [] [] (He.ga K "_law_open_row") fd
  d__law_good_value : ∃ fd, FunD K "_law_good_value" "_law_good_value" (defArgs s__law_good_value) (defBody s__law_good_value) (defScope s__law_good_value) [] [] (He.ga K "_law_good_value") fd
  d__law_whole_row : ∃ fd, FunD K "_law_whole_row" "_law_whole_row" (defArgs s__law_whole_row) (defBody s__law_whole_row) (defScope s__law_whole_row) [] [] (He.ga K "_law_whole_row") fd
  d__law_hopeful : ∃ fd, FunD K "_law_hopeful" "_law_hopeful" (defArgs s__law_hopeful) (defBody s__law_hopeful) (defScope s__law_hopeful) [] [] (He.ga K "_law_hopeful") fd
  d__law_finished : ∃ fd, FunD K "_law_finished" "_law_finished" (defArgs s__law_finished) (defBody s__law_finished) (defScope s__law_finished) [] [] (He.ga K "_law_finished") fd
  d_law : ∃ fd, FunD K "law" "law" (defArgs s_law) (defBody s_law) (defScope s_law) [] [] (He.ga K "law") fd
  d_Name_is_good : ∃ fd, FunD K "is_good" "Name.is_good" (defArgs s_Name_is_good) (defBody s_Name_is_good) (defScope s_Name_is_good) [] [] (He.ma K (He.ga K "Name") "is_good") fd
  d_Name_good : ∃ fd, FunD K "good" "Name.good" (defArgs s_Name_good) (defBody s_Name_good) (defScope s_Name_good) [] [] (He.ma K (He.ga K "Name") "good") fd
  d_Value_good : ∃ fd, FunD K "good" "Value.good" (defArgs s_Value_good) (defBody s_Value_good) (defScope s_Value_good) [] [] (He.ma K (He.ga K "Value") "good") fd
  d_Name_told : ∃ fd, FunD K "told" "Name.told" (defArgs s_Name_told) (defBody s_Name_told) (defScope s_Name_told) [] [] (He.ma K (He.ga K "Name") "told") fd
  d_FieldRow_is_end : ∃ fd, FunD K "is_end" "FieldRow.is_end" (defArgs s_FieldRow_is_end) (defBody s_FieldRow_is_end) (defScope s_FieldRow_is_end) [] [] (He.ma K (He.ga K "FieldRow") "is_end") fd
  d_RowEnd_awaited : ∃ fd, FunD K "awaited" "Exact.awaited" (defArgs s_Exact_awaited) (defBody s_Exact_awaited) (defScope s_Exact_awaited) [] [] (He.ma K (He.ga K "RowEnd") "awaited") fd
  d_Exact_awaited : ∃ fd, FunD K "awaited" "Exact.awaited" (defArgs s_Exact_awaited) (defBody s_Exact_awaited) (defScope s_Exact_awaited) [] [] (He.ma K (He.ga K "Exact") "awaited") fd
  d_Number_awaited : ∃ fd, FunD K "awaited" "Number.awaited" (defArgs s_Number_awaited) (defBody s_Number_awaited) (defScope s_Number_awaited) [] [] (He.ma K (He.ga K "Number") "awaited") fd
  d_Value_awaited : ∃ fd, FunD K "awaited" "Value.awaited" (defArgs s_Value_awaited) (defBody s_Value_awaited) (defScope s_Value_awaited) [] [] (He.ma K (He.ga K "Value") "awaited") fd
  d_Name_awaited : ∃ fd, FunD K "awaited" "Name.awaited" (defArgs s_Name_awaited) (defBody s_Name_awaited) (defScope s_Name_awaited) [] [] (He.ma K (He.ga K "Name") "awaited") fd
  d_FieldRow_value_for : ∃ fd, FunD K "value_for" "FieldRow.value_for" (defArgs s_FieldRow_value_for) (defBody s_FieldRow_value_for) (defScope s_FieldRow_value_for) [] [] (He.ma K (He.ga K "FieldRow") "value_for") fd
  d_FieldRow_awaited : ∃ fd, FunD K "awaited" "FieldRow.awaited" (defArgs s_FieldRow_awaited) (defBody s_FieldRow_awaited) (defScope s_FieldRow_awaited) [] [] (He.ma K (He.ga K "FieldRow") "awaited") fd
  d_Fields_awaited : ∃ fd, FunD K "awaited" "Fields.awaited" (defArgs s_Fields_awaited) (defBody s_Fields_awaited) (defScope s_Fields_awaited) [] [] (He.ma K (He.ga K "Fields") "awaited") fd
  d_Fields_room_left : ∃ fd, FunD K "room_left" "Fields.room_left" (defArgs s_Fields_room_left) (defBody s_Fields_room_left) (defScope s_Fields_room_left) [] [] (He.ma K (He.ga K "Fields") "room_left") fd
  d_Fields_told_end : ∃ fd, FunD K "told_end" "Fields.told_end" (defArgs s_Fields_told_end) (defBody s_Fields_told_end) (defScope s_Fields_told_end) [] [] (He.ma K (He.ga K "Fields") "told_end") fd
  d_Fields_told : ∃ fd, FunD K "told" "Fields.told" (defArgs s_Fields_told) (defBody s_Fields_told) (defScope s_Fields_told) [] [] (He.ma K (He.ga K "Fields") "told") fd
  d_Fields_whole : ∃ fd, FunD K "whole" "Fields.whole" (defArgs s_Fields_whole) (defBody s_Fields_whole) (defScope s_Fields_whole) [] [] (He.ma K (He.ga K "Fields") "whole") fd
  d_RowEnd_good : ∃ fd, FunD K "good" "Exact.good" (defArgs s_Exact_good) (defBody s_Exact_good) (defScope s_Exact_good) [] [] (He.ma K (He.ga K "RowEnd") "good") fd
  d_Exact_told : ∃ fd, FunD K "told" "Exact.told" (defArgs s_Exact_told) (defBody s_Exact_told) (defScope s_Exact_told) [] [] (He.ma K (He.ga K "Exact") "told") fd
  d_Number_told : ∃ fd, FunD K "told" "Number.told" (defArgs s_Number_told) (defBody s_Number_told) (defScope s_Number_told) [] [] (He.ma K (He.ga K "Number") "told") fd
  d_Value_told : ∃ fd, FunD K "told" "Value.told" (defArgs s_Value_told) (defBody s_Value_told) (defScope s_Value_told) [] [] (He.ma K (He.ga K "Value") "told") fd
  d_FieldRow_told : ∃ fd, FunD K "told" "FieldRow.told" (defArgs s_FieldRow_told) (defBody s_FieldRow_told) (defScope s_FieldRow_told) [] [] (He.ma K (He.ga K "FieldRow") "told") fd
  d_FieldRow_number_begun : ∃ fd, FunD K "number_begun" "FieldRow.number_begun" (defArgs s_FieldRow_number_begun) (defBody s_FieldRow_number_begun) (defScope s_FieldRow_number_begun) [] [] (He.ma K (He.ga K "FieldRow") "number_begun") fd
  d_Name_is_hopeful : ∃ fd, FunD K "is_hopeful" "Name.is_hopeful" (defArgs s_Name_is_hopeful) (defBody s_Name_is_hopeful) (defScope s_Name_is_hopeful) [] [] (He.ma K (He.ga K "Name") "is_hopeful") fd
  d_RowEnd_fed : ∃ fd, FunD K "fed" "Exact.fed" (defArgs s_Exact_fed) (defBody s_Exact_fed) (defScope s_Exact_fed) [] [] (He.ma K (He.ga K "RowEnd") "fed") fd
  d_Exact_good : ∃ fd, FunD K "good" "Exact.good" (defArgs s_Exact_good) (defBody s_Exact_good) (defScope s_Exact_good) [] [] (He.ma K (He.ga K "Exact") "good") fd
  d_Number_good : ∃ fd, FunD K "good" "Number.good" (defArgs s_Number_good) (defBody s_Number_good) (defScope s_Number_good) [] [] (He.ma K (He.ga K "Number") "good") fd
  d_Exact_fed : ∃ fd, FunD K "fed" "Exact.fed" (defArgs s_Exact_fed) (defBody s_Exact_fed) (defScope s_Exact_fed) [] [] (He.ma K (He.ga K "Exact") "fed") fd
  d_Number_fed : ∃ fd, FunD K "fed" "Number.fed" (defArgs s_Number_fed) (defBody s_Number_fed) (defScope s_Number_fed) [] [] (He.ma K (He.ga K "Number") "fed") fd
  d_Value_fed : ∃ fd, FunD K "fed" "Value.fed" (defArgs s_Value_fed) (defBody s_Value_fed) (defScope s_Value_fed) [] [] (He.ma K (He.ga K "Value") "fed") fd
  d_Name_fed : ∃ fd, FunD K "fed" "Name.fed" (defArgs s_Name_fed) (defBody s_Name_fed) (defScope s_Name_fed) [] [] (He.ma K (He.ga K "Name") "fed") fd
  d_FieldRow_fed : ∃ fd, FunD K "fed" "FieldRow.fed" (defArgs s_FieldRow_fed) (defBody s_FieldRow_fed) (defScope s_FieldRow_fed) [] [] (He.ma K (He.ga K "FieldRow") "fed") fd
  d_FieldRow_whole : ∃ fd, FunD K "whole" "FieldRow.whole" (defArgs s_FieldRow_whole) (defBody s_FieldRow_whole) (defScope s_FieldRow_whole) [] [] (He.ma K (He.ga K "FieldRow") "whole") fd
  d_Fields_next_row : ∃ fd, FunD K "next_row" "Fields.next_row" (defArgs s_Fields_next_row) (defBody s_Fields_next_row) (defScope s_Fields_next_row) [] [] (He.ma K (He.ga K "Fields") "next_row") fd
  d_Fields_fed : ∃ fd, FunD K "fed" "Fields.fed" (defArgs s_Fields_fed) (defBody s_Fields_fed) (defScope s_Fields_fed) [] [] (He.ma K (He.ga K "Fields") "fed") fd
  d_Exact___init__ : ∃ fd, FunD K "__init__" "Exact.__init__" (defArgs s_Exact___init__) (defBody s_Exact___init__) (defScope s_Exact___init__) [] [] (He.ma K (He.ga K "Exact") "__init__") fd
  d_FieldRow___init__ : ∃ fd, FunD K "__init__" "FieldRow.__init__" (defArgs s_FieldRow___init__) (defBody s_FieldRow___init__) (defScope s_FieldRow___init__) [] [] (He.ma K (He.ga K "FieldRow") "__init__") fd
  d_Fields___init__ : ∃ fd, FunD K "__init__" "Fields.__init__" (defArgs s_Fields___init__) (defBody s_Fields___init__) (defScope s_Fields___init__) [] [] (He.ma K (He.ga K "Fields") "__init__") fd
  d_Name___init__ : ∃ fd, FunD K "__init__" "Name.__init__" (defArgs s_Name___init__) (defBody s_Name___init__) (defScope s_Name___init__) [] [] (He.ma K (He.ga K "Name") "__init__") fd
  d_Number___init__ : ∃ fd, FunD K "__init__" "Number.__init__" (defArgs s_Number___init__) (defBody s_Number___init__) (defScope s_Number___init__) [] [] (He.ma K (He.ga K "Number") "__init__") fd
  d_RowEnd___init__ : ∃ fd, FunD K "__init__" "RowEnd.__init__" (defArgs s_RowEnd___init__) (defBody s_RowEnd___init__) (defScope s_RowEnd___init__) [] [] (He.ma K (He.ga K "RowEnd") "__init__") fd
  d_Value___init__ : ∃ fd, FunD K "__init__" "Value.__init__" (defArgs s_Value___init__) (defBody s_Value___init__) (defScope s_Value___init__) [] [] (He.ma K (He.ga K "Value") "__init__") fd
section
variable {P : Program} {w : World} {K : PySem.W.Frag} {mg : Str → Option Value} {base : Heap}
theorem Tx.ce (T : Tx P w K mg base) : CE K okF := ce_of (L := okL) (List.forall_mem_cons.mpr ⟨⟨T.c_Exact, T.n_Exact_many⟩, (List.forall_mem_cons.mpr ⟨⟨T.c_Exact, T.n_Exact_text⟩, (List.forall_mem_cons.mpr ⟨⟨T.c_RowEnd, T.n_RowEnd_many⟩, (List.forall_mem_cons.mpr ⟨⟨T.c_RowEnd, T.n_RowEnd_text⟩, (List.forall_mem_cons.mpr ⟨⟨T.c_Number, T.n_Number_base⟩, (List.forall_mem_cons.mpr ⟨⟨T.c_Number, T.n_Number_figures⟩, (List.forall_mem_cons.mpr ⟨⟨T.c_Number, T.n_Number_most⟩, (List.forall_mem_cons.mpr ⟨⟨T.c_Number, T.n_Number_number⟩, (List.forall_mem_cons.mpr ⟨⟨T.c_Name, T.n_Name_ends⟩, (List.forall_mem_cons.mpr ⟨⟨T.c_Name, T.n_Name_most⟩, (List.forall_mem_cons.mpr ⟨⟨T.c_Name, T.n_Name_room⟩, (List.forall_mem_cons.mpr ⟨⟨T.c_Name, T.n_Name_text⟩, (List.forall_mem_cons.mpr ⟨⟨T.c_Value, T.n_Value_most⟩, (List.forall_mem_cons.mpr ⟨⟨T.c_Value, T.n_Value_text⟩, (List.forall_mem_cons.mpr ⟨⟨T.c_FieldRow, T.n_FieldRow_book⟩, (List.forall_mem_cons.mpr ⟨⟨T.c_FieldRow, T.n_FieldRow_ends⟩, (List.forall_mem_cons.mpr ⟨⟨T.c_FieldRow, T.n_FieldRow_filled⟩, (List.forall_mem_cons.mpr ⟨⟨T.c_FieldRow, T.n_FieldRow_gap⟩, (List.forall_mem_cons.mpr ⟨⟨T.c_FieldRow, T.n_FieldRow_label⟩, (List.forall_mem_cons.mpr ⟨⟨T.c_FieldRow, T.n_FieldRow_tail⟩, (List.forall_mem_cons.mpr ⟨⟨T.c_Fields, T.n_Fields_book⟩, (List.forall_mem_cons.mpr ⟨⟨T.c_Fields, T.n_Fields_closing⟩, (List.forall_mem_cons.mpr ⟨⟨T.c_Fields, T.n_Fields_ends⟩, (List.forall_mem_cons.mpr ⟨⟨T.c_Fields, T.n_Fields_kept⟩, (List.forall_mem_cons.mpr ⟨⟨T.c_Fields, T.n_Fields_ready⟩, (List.forall_mem_cons.mpr ⟨⟨T.c_Fields, T.n_Fields_room⟩, (List.forall_mem_cons.mpr ⟨⟨T.c_Fields, T.n_Fields_row⟩, (fun p hp => nomatch hp)⟩)⟩)⟩)⟩)⟩)⟩)⟩)⟩)⟩)⟩)⟩)⟩)⟩)⟩)⟩)⟩)⟩)⟩)⟩)⟩)⟩)⟩)⟩)⟩)⟩)⟩)⟩)
theorem sc__law_cell_at : FnScope ["_law_script", "_law_k"] ["_law_script", "_law_k"] (defScope s__law_cell_at) := ⟨rfl, rfl, rfl, by decide +kernel, rfl, by decide +kernel, by decide +kernel⟩
theorem pss__law_cell_at (T : Tx P w K mg base) {fa : Addr} {cdv : Value} {A : Around} {outer : List Env} {s : Shared} {H : Hp} {E : XK} (hr : Room 0 (A.deeper (envOfC "_law_cell_at" (defScope s__law_cell_at) s.heap.objs.size fa cdv))) :
    PSS (cxOf (L2.CX P w) P w K mg base ["_law_script", "_law_k"] "_law_cell_at" (defScope s__law_cell_at) fa cdv A outer s H E) [] (fun _ _ _ _ => False) (defBody s__law_cell_at) (f__law_cell_at) :=
  (pss_cons' (ps1_if (pb_cmp opd_lt (pq_var 1 (pv 1)) (pq_callB cd_len T.b_len (by decide +kernel) (paq_cons (pq_var 0 (pv 0)) paq_nil)) (nomark _)) (pss_one' (ps1_ret (pq_ix (pq_var 0 (pv 0)) (pq_var 1 (pv 1))))) pss_nil')
      (pss_one' (ps1_ret pq_int)))
theorem ok__law_cell_at (T : Tx P w K mg base) : OkQ P w K mg base "_law_cell_at" 1 2 [] r__law_cell_at := by
  obtain ⟨fd, F⟩ := T.d__law_cell_at
  exact ⟨_, fd, _, [], [], fnq_def F sc__law_cell_at rfl (fun cdv A outer s H E hr => pss__law_cell_at T hr) (fun _ _ h => h), F.bindsN (fun _ _ _ _ _ _ us hl => match us, hl with | [_, _], _ => rfl), .nil, fun _ => ⟨rfl, rfl⟩, rfl, T.m__law_cell_at, F.kp⟩
theorem sc__law_stream : FnScope ["_law_cell", "_law_many", "_law_found", "_law_number", "_law_k"] ["_law_cell", "_law_many"] (defScope s__law_stream) := ⟨rfl, rfl, rfl, by decide +kernel, rfl, by decide +kernel, by decide +kernel⟩
theorem pss__law_stream (T : Tx P w K mg base) {fa : Addr} {cdv : Value} {A : Around} {outer : List Env} {s : Shared} {H : Hp} {E : XK} (hr : Room 0 (A.deeper (envOfC "_law_stream" (defScope s__law_stream) s.heap.objs.size fa cdv))) :
    PSS (cxOf (L2.CX P w) P w K mg base ["_law_cell", "_law_many", "_law_found", "_law_number", "_law_k"] "_law_stream" (defScope s__law_stream) fa cdv A outer s H E) [] (fun _ _ _ _ => False) (defBody s__law_stream) (f__law_stream) :=
  (pss_cons' (ps1_setN (i := 2) sc__law_stream.nd rfl (by first | exact Or.inl rfl | exact Or.inr rfl) (pn_lst paq_nil))
      (pss_cons' (ps1_set (i := 3) sc__law_stream.nd rfl (by first | exact Or.inl rfl | exact Or.inr rfl) (pq_op opd_mod (pq_op opd_mul (pq_op opd_add (pq_var 0 (pv 0)) pq_int) pq_int) pq_int))
      (pss_cons' (ps1_for (passes_of rfl) rfl (pif_range1 (pq_var 1 (pv 1)) T.b_range) (pgd_name (vs := [4]) (pg_name (i := 4) sc__law_stream.nd rfl (by first | exact Or.inl rfl | exact Or.inr rfl))) (pss_wp [4] (pss_cons' (ps1_set (i := 3) sc__law_stream.nd rfl (by first | exact Or.inl rfl | exact Or.inr rfl) (pq_op opd_mod (pq_op opd_mul (pq_op opd_add (pq_op opd_add (pq_var 3 (pv 3)) (pq_op opd_mul pq_int (pq_var 4 (pv 4)))) pq_int) (pq_op opd_add (pq_op opd_fdiv (pq_var 3 (pv 3)) pq_int) pq_int)) pq_int))
      (pss_one' (ps1_app (fun te p => pe_bm PySem.F.plainAttrs_list PySem.F.slot_list_append PySem.F.type_list_append mt_append (pv 2) (pa_cons p pa_nil)) (pq_var 3 (pv 3)))))))
      (pss_one' (ps1_fz 2 (ps1_ret (pq_var 2 (pv 2))))))))
theorem ok__law_stream (T : Tx P w K mg base) : OkQ P w K mg base "_law_stream" 1 2 [] r__law_stream := by
  obtain ⟨fd, F⟩ := T.d__law_stream
  exact ⟨_, fd, _, [], [], fnq_def F sc__law_stream rfl (fun cdv A outer s H E hr => pss__law_stream T hr) (fun _ _ h => h), F.bindsN (fun _ _ _ _ _ _ us hl => match us, hl with | [_, _], _ => rfl), .nil, fun _ => ⟨rfl, rfl⟩, rfl, T.m__law_stream, F.kp⟩
theorem sc__law_plan : FnScope ["_law_cell", "_law_xs", "_law_names", "_law_text", "_law_end"] ["_law_cell"] (defScope s__law_plan) := ⟨rfl, rfl, rfl, by decide +kernel, rfl, by decide +kernel, by decide +kernel⟩
theorem pss__law_plan (T : Tx P w K mg base) {fa : Addr} {cdv : Value} {A : Around} {outer : List Env} {s : Shared} {H : Hp} {E : XK} (hr : Room 1 (A.deeper (envOfC "_law_plan" (defScope s__law_plan) s.heap.objs.size fa cdv))) :
    PSS (cxOf (L2.CX P w) P w K mg base ["_law_cell", "_law_xs", "_law_names", "_law_text", "_law_end"] "_law_plan" (defScope s__law_plan) fa cdv A outer s H E) [] (fun _ _ _ _ => False) (defBody s__law_plan) (f__law_plan) :=
  (pss_cons' (ps1_set (i := 1) sc__law_plan.nd rfl (by first | exact Or.inl rfl | exact Or.inr rfl) (pq_call (ok__law_stream T) (hr.mono (by decide)) (paq_cons (pq_var 0 (pv 0)) (paq_cons pq_int paq_nil))))
      (pss_cons' (ps1_set (i := 2) sc__law_plan.nd rfl (by first | exact Or.inl rfl | exact Or.inr rfl) (PN.pq (pn_lst (paq_cons (pq_str "a") (paq_cons (pq_str "lengt") (paq_cons (pq_str "abcdefgh") (paq_cons (pq_str "partsa") (paq_cons (pq_str "to") (paq_cons (pq_str "rests") paq_nil)))))))))
      (pss_cons' (ps1_set (i := 3) sc__law_plan.nd rfl (by first | exact Or.inl rfl | exact Or.inr rfl) (pq_op opd_add (pq_op opd_add (pq_op opd_add (pq_ix (pq_var 2 (pv 2)) (pq_op opd_mod (pq_ix (pq_var 1 (pv 1)) pq_int) pq_int)) (pq_str ": ")) (pq_ix (PN.pq (pn_lst (paq_cons (pq_str "v") (paq_cons (pq_str "two w") (paq_cons (pq_str "x x") (paq_cons (pq_str "12345678") paq_nil)))))) (pq_op opd_mod (pq_ix (pq_var 1 (pv 1)) pq_int) pq_int))) (pq_str ";\n")))
      (pss_cons' (ps1_if (pb_cmp (opd_eq hr) (pq_op opd_mod (pq_ix (pq_var 1 (pv 1)) pq_int) pq_int) pq_int (nomark _)) (pss_one' (ps1_set (i := 3) sc__law_plan.nd rfl (by first | exact Or.inl rfl | exact Or.inr rfl) (pq_op opd_add (pq_op opd_add (pq_op opd_add (pq_op opd_add (pq_var 3 (pv 3)) (pq_ix (pq_var 2 (pv 2)) (pq_op opd_mod (pq_op opd_fdiv (pq_ix (pq_var 1 (pv 1)) pq_int) pq_int) pq_int))) (pq_str ": ")) (pq_str "b  c")) (pq_str ";\n")))) pss_nil')
      (pss_cons' (ps1_if (pb_cmp (opd_eq hr) (pq_op opd_mod (pq_ix (pq_var 1 (pv 1)) pq_int) pq_int) pq_int (nomark _)) (pss_one' (ps1_set (i := 3) sc__law_plan.nd rfl (by first | exact Or.inl rfl | exact Or.inr rfl) (pq_str ""))) pss_nil')
      (pss_cons' (ps1_set (i := 4) sc__law_plan.nd rfl (by first | exact Or.inl rfl | exact Or.inr rfl) (PN.pq (pn_lst (paq_cons (pq_str "length: 0") (paq_cons (pq_str "pieces: yes") (paq_cons (pq_str "parts: yes") (paq_cons (pq_str "rest: yes") (paq_cons (pq_str "length: 12") (paq_cons (pq_str "length: 400") (paq_cons (pq_str "length: 13") paq_nil))))))))))
      (pss_one' (ps1_ret (pq_op opd_add (pq_op opd_add (pq_op opd_add (pq_var 3 (pv 3)) (pq_ix (pq_var 4 (pv 4)) (pq_op opd_mod (pq_ix (pq_var 1 (pv 1)) pq_int) pq_int))) (pq_str ";\n")) (pq_str ";\n"))))))))))
theorem ok__law_plan (T : Tx P w K mg base) : OkQ P w K mg base "_law_plan" 2 1 [] r__law_plan := by
  obtain ⟨fd, F⟩ := T.d__law_plan
  exact ⟨_, fd, _, [], [], fnq_def F sc__law_plan rfl (fun cdv A outer s H E hr => pss__law_plan T hr) (fun _ _ h => h), F.bindsN (fun _ _ _ _ _ _ us hl => match us, hl with | [_], _ => rfl), .nil, fun _ => ⟨rfl, rfl⟩, rfl, T.m__law_plan, F.kp⟩
theorem sc_Name___init__ : FnScope ["self", "most", "room", "ends"] ["self", "most", "room", "ends"] (defScope s_Name___init__) := ⟨rfl, rfl, rfl, by decide +kernel, rfl, by decide +kernel, by decide +kernel⟩
theorem pss_Name___init__ (T : Tx P w K mg base) {fa : Addr} {cdv : Value} {A : Around} {outer : List Env} {s : Shared} {H : Hp} {E : XK} (hr : Room 0 (A.deeper (envOfC "Name.__init__" (defScope s_Name___init__) s.heap.objs.size fa cdv))) :
    PSS (cxOf (L2.CX P w) P w K mg base ["self", "most", "room", "ends"] "Name.__init__" (defScope s_Name___init__) fa cdv A outer s H E) [0] (fun cls dx _ H' => E cls dx H') (defBody s_Name___init__) (f_Name___init__) :=
  (pss_cons' (ps1_fldX T.ce (pp_var (pv 0)) (px_q (pq_var 1 (pv 1))))
      (pss_cons' (ps1_fldX T.ce (pp_var (pv 0)) (px_q (pq_var 2 (pv 2))))
      (pss_cons' (ps1_fldX T.ce (pp_var (pv 0)) (px_q (pq_var 3 (pv 3))))
      (pss_one' (ps1_fldX T.ce (pp_var (pv 0)) (px_q (pq_str "")))))))
theorem ok_Name_make (T : Tx P w K mg base) : OkK P w K mg base "Name" 1 4 [] r_Name___init__ := by
  obtain ⟨fd, F⟩ := T.d_Name___init__
  exact ⟨_, fd, _, [], [], fnx_def F sc_Name___init__ rfl (ks := [true, false, false, false]) (ob := [0]) (hob_of rfl) (fun cdv A outer s H E hr => pss_Name___init__ T hr) (fun _ _ _ h => h), F.bindsN (fun _ _ _ _ _ _ us hl => match us, hl with | [_, _, _, _], _ => rfl), .nil, fun _ => ⟨rfl, rfl⟩, T.k_Name, T.m_Name⟩
theorem sc_Exact___init__ : FnScope ["self", "text"] ["self", "text"] (defScope s_Exact___init__) := ⟨rfl, rfl, rfl, by decide +kernel, rfl, by decide +kernel, by decide +kernel⟩
theorem pss_Exact___init__ (T : Tx P w K mg base) {fa : Addr} {cdv : Value} {A : Around} {outer : List Env} {s : Shared} {H : Hp} {E : XK} (hr : Room 0 (A.deeper (envOfC "Exact.__init__" (defScope s_Exact___init__) s.heap.objs.size fa cdv))) :
    PSS (cxOf (L2.CX P w) P w K mg base ["self", "text"] "Exact.__init__" (defScope s_Exact___init__) fa cdv A outer s H E) [0] (fun cls dx _ H' => E cls dx H') (defBody s_Exact___init__) (f_Exact___init__) :=
  (pss_cons' (ps1_fldX T.ce (pp_var (pv 0)) (px_q (pq_var 1 (pv 1))))
      (pss_one' (ps1_fldX T.ce (pp_var (pv 0)) (px_q pq_int))))
theorem ok_Exact_make (T : Tx P w K mg base) : OkK P w K mg base "Exact" 1 2 [] r_Exact___init__ := by
  obtain ⟨fd, F⟩ := T.d_Exact___init__
  exact ⟨_, fd, _, [], [], fnx_def F sc_Exact___init__ rfl (ks := [true, false]) (ob := [0]) (hob_of rfl) (fun cdv A outer s H E hr => pss_Exact___init__ T hr) (fun _ _ _ h => h), F.bindsN (fun _ _ _ _ _ _ us hl => match us, hl with | [_, _], _ => rfl), .nil, fun _ => ⟨rfl, rfl⟩, T.k_Exact, T.m_Exact⟩
theorem ok_Exact___init___base (T : Tx P w K mg base) : OkB P w K mg base "Exact" "__init__" 1 2 r_Exact___init__ := by
  obtain ⟨fd, F⟩ := T.d_Exact___init__
  exact ⟨fd, _, fnx_def F sc_Exact___init__ rfl (ks := [true, false]) (ob := [0]) (hob_of rfl) (fun cdv A outer s H E hr => pss_Exact___init__ T hr) (fun _ _ _ h => h), F.bindsN (fun _ _ _ _ _ _ us hl => match us, hl with | [_, _], _ => rfl), T.m_Exact, T.b_Exact___init___base⟩
theorem sc_RowEnd___init__ : FnScope ["self"] ["self"] (defScope s_RowEnd___init__) := ⟨rfl, rfl, rfl, by decide +kernel, rfl, by decide +kernel, by decide +kernel⟩
theorem pss_RowEnd___init__ (T : Tx P w K mg base) {fa : Addr} {cdv : Value} {A : Around} {outer : List Env} {s : Shared} {H : Hp} {E : XK} (hr : Room 1 (A.deeper (envOfC "RowEnd.__init__" (defScope s_RowEnd___init__) s.heap.objs.size fa cdv))) :
    PSS (cxOf (L2.CX P w) P w K mg base ["self"] "RowEnd.__init__" (defScope s_RowEnd___init__) fa cdv A outer s H E) [0] (fun cls dx _ H' => E cls dx H') (defBody s_RowEnd___init__) (f_RowEnd___init__) :=
  (pss_one' (ps1_exX (px_base (ok_Exact___init___base T) (hr.mono (by decide)) takes_cx (pax_slot (pv 0) (pax_cons (px_q (pq_glob T.g_ROW_END)) pax_nil)))))
theorem ok_RowEnd_make (T : Tx P w K mg base) : OkK P w K mg base "RowEnd" 2 1 [] r_RowEnd___init__ := by
  obtain ⟨fd, F⟩ := T.d_RowEnd___init__
  exact ⟨_, fd, _, [], [], fnx_def F sc_RowEnd___init__ rfl (ks := [true]) (ob := [0]) (hob_of rfl) (fun cdv A outer s H E hr => pss_RowEnd___init__ T hr) (fun _ _ _ h => h), F.bindsN (fun _ _ _ _ _ _ us hl => match us, hl with | [_], _ => rfl), .nil, fun _ => ⟨rfl, rfl⟩, T.k_RowEnd, T.m_RowEnd⟩
theorem sc_FieldRow___init__ : FnScope ["self", "book", "room", "ends"] ["self", "book", "room", "ends"] (defScope s_FieldRow___init__) := ⟨rfl, rfl, rfl, by decide +kernel, rfl, by decide +kernel, by decide +kernel⟩
theorem pss_FieldRow___init__ (T : Tx P w K mg base) {fa : Addr} {cdv : Value} {A : Around} {outer : List Env} {s : Shared} {H : Hp} {E : XK} (hr : Room 3 (A.deeper (envOfC "FieldRow.__init__" (defScope s_FieldRow___init__) s.heap.objs.size fa cdv))) :
    PSS (cxOf (L2.CX P w) P w K mg base ["self", "book", "room", "ends"] "FieldRow.__init__" (defScope s_FieldRow___init__) fa cdv A outer s H E) [0] (fun cls dx _ H' => E cls dx H') (defBody s_FieldRow___init__) (f_FieldRow___init__) :=
  (pss_cons' (ps1_fldX T.ce (pp_var (pv 0)) (px_q (pq_var 1 (pv 1))))
      (pss_cons' (ps1_fldX T.ce (pp_var (pv 0)) (px_q (pq_var 3 (pv 3))))
      (pss_cons' (ps1_fldX T.ce (pp_var (pv 0)) (px_make (ok_Name_make T) (hr.mono (by decide)) takes_cx (pax_cons (px_q (pq_ix (pq_var 1 (pv 1)) pq_int)) (pax_cons (px_q (pq_var 2 (pv 2))) (pax_cons (px_q (pq_var 3 (pv 3))) pax_nil)))))
      (pss_cons' (ps1_fldX T.ce (pp_var (pv 0)) (px_make (ok_Exact_make T) (hr.mono (by decide)) takes_cx (pax_cons (px_q (pq_str ": ")) pax_nil)))
      (pss_cons' (ps1_fldX T.ce (pp_var (pv 0)) (px_q pq_non))
      (pss_one' (ps1_fldX T.ce (pp_var (pv 0)) (px_make0 (ok_RowEnd_make T) (hr.mono (by decide)) takes_cx))))))))
theorem ok_FieldRow_make (T : Tx P w K mg base) : OkK P w K mg base "FieldRow" 4 4 [] r_FieldRow___init__ := by
  obtain ⟨fd, F⟩ := T.d_FieldRow___init__
  exact ⟨_, fd, _, [], [], fnx_def F sc_FieldRow___init__ rfl (ks := [true, false, false, false]) (ob := [0]) (hob_of rfl) (fun cdv A outer s H E hr => pss_FieldRow___init__ T hr) (fun _ _ _ h => h), F.bindsN (fun _ _ _ _ _ _ us hl => match us, hl with | [_, _, _, _], _ => rfl), .nil, fun _ => ⟨rfl, rfl⟩, T.k_FieldRow, T.m_FieldRow⟩
theorem sc_Fields___init__ : FnScope ["self", "book", "room", "ends"] ["self", "book", "room", "ends"] (defScope s_Fields___init__) := ⟨rfl, rfl, rfl, by decide +kernel, rfl, by decide +kernel, by decide +kernel⟩
theorem pss_Fields___init__ (T : Tx P w K mg base) {fa : Addr} {cdv : Value} {A : Around} {outer : List Env} {s : Shared} {H : Hp} {E : XK} (hr : Room 5 (A.deeper (envOfC "Fields.__init__" (defScope s_Fields___init__) s.heap.objs.size fa cdv))) :
    PSS (cxOf (L2.CX P w) P w K mg base ["self", "book", "room", "ends"] "Fields.__init__" (defScope s_Fields___init__) fa cdv A outer s H E) [0] (fun cls dx _ H' => E cls dx H') (defBody s_Fields___init__) (f_Fields___init__) :=
  (pss_cons' (ps1_fldX T.ce (pp_var (pv 0)) (px_q (pq_var 1 (pv 1))))
      (pss_cons' (ps1_fldX T.ce (pp_var (pv 0)) (px_q (pq_var 2 (pv 2))))
      (pss_cons' (ps1_fldX T.ce (pp_var (pv 0)) (px_q (pq_var 3 (pv 3))))
      (pss_cons' (ps1_fldX T.ce (pp_var (pv 0)) (px_n (pn_lst paq_nil)))
      (pss_cons' (ps1_fldX T.ce (pp_var (pv 0)) (px_q pq_non))
      (pss_cons' (ps1_fldX T.ce (pp_var (pv 0)) (px_q pq_bl))
      (pss_one' (ps1_fldX T.ce (pp_var (pv 0)) (px_make (ok_FieldRow_make T) (hr.mono (by decide)) takes_cx (pax_cons (px_q (pq_var 1 (pv 1))) (pax_cons (px_q (pq_var 2 (pv 2))) (pax_cons (px_q (pq_var 3 (pv 3))) pax_nil))))))))))))
theorem ok_Fields_make (T : Tx P w K mg base) : OkK P w K mg base "Fields" 6 4 [] r_Fields___init__ := by
  obtain ⟨fd, F⟩ := T.d_Fields___init__
  exact ⟨_, fd, _, [], [], fnx_def F sc_Fields___init__ rfl (ks := [true, false, false, false]) (ob := [0]) (hob_of rfl) (fun cdv A outer s H E hr => pss_Fields___init__ T hr) (fun _ _ _ h => h), F.bindsN (fun _ _ _ _ _ _ us hl => match us, hl with | [_, _, _, _], _ => rfl), .nil, fun _ => ⟨rfl, rfl⟩, T.k_Fields, T.m_Fields⟩
theorem sc__law_sign : FnScope ["_law_xs", "_law_text", "_law_plan_here", "_law_k"] ["_law_xs", "_law_text", "_law_plan_here"] (defScope s__law_sign) := ⟨rfl, rfl, rfl, by decide +kernel, rfl, by decide +kernel, by decide +kernel⟩
theorem pss__law_sign (T : Tx P w K mg base) {fa : Addr} {cdv : Value} {A : Around} {outer : List Env} {s : Shared} {H : Hp} {E : XK} (hr : Room 0 (A.deeper (envOfC "_law_sign" (defScope s__law_sign) s.heap.objs.size fa cdv))) :
    PSS (cxOf (L2.CX P w) P w K mg base ["_law_xs", "_law_text", "_law_plan_here", "_law_k"] "_law_sign" (defScope s__law_sign) fa cdv A outer s H E) [] (fun _ _ _ _ => False) (defBody s__law_sign) (f__law_sign) :=
  (pss_cons' (ps1_if (pb_cmp (opd_eq hr) (pq_op opd_mod (pq_ix (pq_var 0 (pv 0)) pq_int) pq_int) pq_int (nomark _)) (pss_one' (ps1_ret (pq_ix (PN.pq (pn_lst (paq_cons (pq_str ";") (paq_cons (pq_str "\n") (paq_cons (pq_str ":") (paq_cons (pq_str " ") (paq_cons (pq_str "a") (paq_cons (pq_str "l") (paq_cons (pq_str "r") (paq_cons (pq_str "p") (paq_cons (pq_str "0") (paq_cons (pq_str "4") (paq_cons (pq_str "y") (paq_cons (pq_str "A") (paq_cons (pq_str "z") (paq_cons (pq_str "t") paq_nil)))))))))))))))) (pq_op opd_mod (pq_ix (pq_var 0 (pv 0)) pq_int) pq_int)))) pss_nil')
      (pss_cons' (ps1_for (passes_of rfl) rfl (pif_range1 (pq_callB cd_len T.b_len (by decide +kernel) (paq_cons (pq_var 2 (pv 2)) paq_nil)) T.b_range) (pgd_name (vs := [3]) (pg_name (i := 3) sc__law_sign.nd rfl (by first | exact Or.inl rfl | exact Or.inr rfl))) (pss_wp [3] (pss_one' (ps1_if (pb_cmp (opd_eq hr) (pq_var 1 (pv 1)) (pq_sl (pq_var 2 (pv 2)) poq_none (poq_some (pq_var 3 (pv 3)))) (nomark _)) (pss_one' (ps1_ret (pq_ix (pq_var 2 (pv 2)) (pq_var 3 (pv 3))))) pss_nil'))))
      (pss_one' (ps1_ret (pq_ix (pq_ix (PN.pq (pn_lst (paq_cons (pq_str "a") (paq_cons (pq_str ";") (paq_cons (pq_str "\n") (paq_cons (pq_str ": ") (paq_cons (pq_str "b") (paq_cons (pq_str "; ") paq_nil)))))))) (pq_op opd_mod (pq_ix (pq_var 0 (pv 0)) pq_int) pq_int)) pq_int)))))
theorem ok__law_sign (T : Tx P w K mg base) : OkQ P w K mg base "_law_sign" 1 3 [] r__law_sign := by
  obtain ⟨fd, F⟩ := T.d__law_sign
  exact ⟨_, fd, _, [], [], fnq_def F sc__law_sign rfl (fun cdv A outer s H E hr => pss__law_sign T hr) (fun _ _ h => h), F.bindsN (fun _ _ _ _ _ _ us hl => match us, hl with | [_, _, _], _ => rfl), .nil, fun _ => ⟨rfl, rfl⟩, rfl, T.m__law_sign, F.kp⟩
theorem sc_Fields_whole : FnScope ["self"] ["self"] (defScope s_Fields_whole) := ⟨rfl, rfl, rfl, by decide +kernel, rfl, by decide +kernel, by decide +kernel⟩
theorem pss_Fields_whole (T : Tx P w K mg base) {fa : Addr} {cdv : Value} {A : Around} {outer : List Env} {s : Shared} {H : Hp} {E : XK} (hr : Room 0 (A.deeper (envOfC "Fields.whole" (defScope s_Fields_whole) s.heap.objs.size fa cdv))) :
    PSS (cxOf (L2.CX P w) P w K mg base ["self"] "Fields.whole" (defScope s_Fields_whole) fa cdv A outer s H E) [] (fun _ _ _ _ => False) (defBody s_Fields_whole) (f_Fields_whole) :=
  (pss_one' (ps1_ret (pq_fld T.ce (pq_var 0 (pv 0)))))
theorem ok_Fields_whole_at (T : Tx P w K mg base) : OkFM P w K mg base "Fields" "whole" 1 1 [] r_Fields_whole := by
  obtain ⟨fd, F⟩ := T.d_Fields_whole
  exact ⟨_, fd, _, [], [], fnf_def (ob := []) F sc_Fields_whole rfl (fun cdv A outer s H E hr => pss_Fields_whole T hr) (fun _ _ _ h => h), F.bindsN (fun _ _ _ _ _ _ us hl => match us, hl with | [_], _ => rfl), .nil, fun _ => ⟨rfl, rfl⟩, T.c_Fields, T.h_Fields_whole⟩
theorem mt_whole_Fields_ok (T : Tx P w K mg base) : ∀ c run, mt_whole_Fields c = some run → OkFM P w K mg base c "whole" 1 1 [] run := tbl_ok (List.forall_mem_cons.mpr ⟨(ok_Fields_whole_at T).mono (by decide), (fun z hz => nomatch hz)⟩)
theorem sc_Fields_told : FnScope ["self"] ["self"] (defScope s_Fields_told) := ⟨rfl, rfl, rfl, by decide +kernel, rfl, by decide +kernel, by decide +kernel⟩
theorem pss_Fields_told (T : Tx P w K mg base) {fa : Addr} {cdv : Value} {A : Around} {outer : List Env} {s : Shared} {H : Hp} {E : XK} (hr : Room 0 (A.deeper (envOfC "Fields.told" (defScope s_Fields_told) s.heap.objs.size fa cdv))) :
    PSS (cxOf (L2.CX P w) P w K mg base ["self"] "Fields.told" (defScope s_Fields_told) fa cdv A outer s H E) [] (fun _ _ _ _ => False) (defBody s_Fields_told) (f_Fields_told) :=
  (pss_one' (ps1_ret (pq_callTy cd_tuple T.b_tuple (by decide +kernel) (paq_cons (pq_fld T.ce (pq_var 0 (pv 0))) paq_nil))))
theorem ok_Fields_told_at (T : Tx P w K mg base) : OkFM P w K mg base "Fields" "told" 1 1 [] r_Fields_told := by
  obtain ⟨fd, F⟩ := T.d_Fields_told
  exact ⟨_, fd, _, [], [], fnf_def (ob := []) F sc_Fields_told rfl (fun cdv A outer s H E hr => pss_Fields_told T hr) (fun _ _ _ h => h), F.bindsN (fun _ _ _ _ _ _ us hl => match us, hl with | [_], _ => rfl), .nil, fun _ => ⟨rfl, rfl⟩, T.c_Fields, T.h_Fields_told⟩
theorem mt_told_Fields_ok (T : Tx P w K mg base) : ∀ c run, mt_told_Fields c = some run → OkFM P w K mg base c "told" 1 1 [] run := tbl_ok (List.forall_mem_cons.mpr ⟨(ok_Fields_told_at T).mono (by decide), (fun z hz => nomatch hz)⟩)
theorem sc_Fields_told_end : FnScope ["self"] ["self"] (defScope s_Fields_told_end) := ⟨rfl, rfl, rfl, by decide +kernel, rfl, by decide +kernel, by decide +kernel⟩
theorem pss_Fields_told_end (T : Tx P w K mg base) {fa : Addr} {cdv : Value} {A : Around} {outer : List Env} {s : Shared} {H : Hp} {E : XK} (hr : Room 0 (A.deeper (envOfC "Fields.told_end" (defScope s_Fields_told_end) s.heap.objs.size fa cdv))) :
    PSS (cxOf (L2.CX P w) P w K mg base ["self"] "Fields.told_end" (defScope s_Fields_told_end) fa cdv A outer s H E) [] (fun _ _ _ _ => False) (defBody s_Fields_told_end) (f_Fields_told_end) :=
  (pss_one' (ps1_ret (pq_fld T.ce (pq_var 0 (pv 0)))))
theorem ok_Fields_told_end_at (T : Tx P w K mg base) : OkFM P w K mg base "Fields" "told_end" 1 1 [] r_Fields_told_end := by
  obtain ⟨fd, F⟩ := T.d_Fields_told_end
  exact ⟨_, fd, _, [], [], fnf_def (ob := []) F sc_Fields_told_end rfl (fun cdv A outer s H E hr => pss_Fields_told_end T hr) (fun _ _ _ h => h), F.bindsN (fun _ _ _ _ _ _ us hl => match us, hl with | [_], _ => rfl), .nil, fun _ => ⟨rfl, rfl⟩, T.c_Fields, T.h_Fields_told_end⟩
theorem mt_told_end_Fields_ok (T : Tx P w K mg base) : ∀ c run, mt_told_end_Fields c = some run → OkFM P w K mg base c "told_end" 1 1 [] run := tbl_ok (List.forall_mem_cons.mpr ⟨(ok_Fields_told_end_at T).mono (by decide), (fun z hz => nomatch hz)⟩)
theorem sc_Fields_room_left : FnScope ["self"] ["self"] (defScope s_Fields_room_left) := ⟨rfl, rfl, rfl, by decide +kernel, rfl, by decide +kernel, by decide +kernel⟩
theorem pss_Fields_room_left (T : Tx P w K mg base) {fa : Addr} {cdv : Value} {A : Around} {outer : List Env} {s : Shared} {H : Hp} {E : XK} (hr : Room 0 (A.deeper (envOfC "Fields.room_left" (defScope s_Fields_room_left) s.heap.objs.size fa cdv))) :
    PSS (cxOf (L2.CX P w) P w K mg base ["self"] "Fields.room_left" (defScope s_Fields_room_left) fa cdv A outer s H E) [] (fun _ _ _ _ => False) (defBody s_Fields_room_left) (f_Fields_room_left) :=
  (pss_one' (ps1_ret (pq_fld T.ce (pq_var 0 (pv 0)))))
theorem ok_Fields_room_left_at (T : Tx P w K mg base) : OkFM P w K mg base "Fields" "room_left" 1 1 [] r_Fields_room_left := by
  obtain ⟨fd, F⟩ := T.d_Fields_room_left
  exact ⟨_, fd, _, [], [], fnf_def (ob := []) F sc_Fields_room_left rfl (fun cdv A outer s H E hr => pss_Fields_room_left T hr) (fun _ _ _ h => h), F.bindsN (fun _ _ _ _ _ _ us hl => match us, hl with | [_], _ => rfl), .nil, fun _ => ⟨rfl, rfl⟩, T.c_Fields, T.h_Fields_room_left⟩
theorem mt_room_left_Fields_ok (T : Tx P w K mg base) : ∀ c run, mt_room_left_Fields c = some run → OkFM P w K mg base c "room_left" 1 1 [] run := tbl_ok (List.forall_mem_cons.mpr ⟨(ok_Fields_room_left_at T).mono (by decide), (fun z hz => nomatch hz)⟩)
theorem sc_Name_is_good : FnScope ["self", "text"] ["self", "text"] (defScope s_Name_is_good) := ⟨rfl, rfl, rfl, by decide +kernel, rfl, by decide +kernel, by decide +kernel⟩
theorem pss_Name_is_good (T : Tx P w K mg base) {fa : Addr} {cdv : Value} {A : Around} {outer : List Env} {s : Shared} {H : Hp} {E : XK} (hr : Room 0 (A.deeper (envOfC "Name.is_good" (defScope s_Name_is_good) s.heap.objs.size fa cdv))) :
    PSS (cxOf (L2.CX P w) P w K mg base ["self", "text"] "Name.is_good" (defScope s_Name_is_good) fa cdv A outer s H E) [] (fun _ _ _ _ => False) (defBody s_Name_is_good) (f_Name_is_good) :=
  (pss_cons' (ps1_if (pb_cmp opd_in (pq_var 1 (pv 1)) (pq_fld T.ce (pq_var 0 (pv 0))) (by rfl)) (pss_one' (ps1_ret pq_bl)) pss_nil')
      (pss_one' (ps1_ret (pq_and (pq_cmp opd_gt (pq_fld T.ce (pq_var 0 (pv 0))) pq_int (nomark _)) (pq_and (pq_chain opd_lt opd_le pq_int (pq_callB cd_len T.b_len (by decide +kernel) (paq_cons (pq_var 1 (pv 1)) paq_nil)) (pq_fld T.ce (pq_var 0 (pv 0)))) (pq_one (pq_cmp opd_notin (pq_var 1 (pv 1)) (pq_glob T.g_END_NAMES) (by rfl))))))))
theorem ok_Name_is_good_at (T : Tx P w K mg base) : OkFM P w K mg base "Name" "is_good" 1 2 [] r_Name_is_good := by
  obtain ⟨fd, F⟩ := T.d_Name_is_good
  exact ⟨_, fd, _, [], [], fnf_def (ob := []) F sc_Name_is_good rfl (fun cdv A outer s H E hr => pss_Name_is_good T hr) (fun _ _ _ h => h), F.bindsN (fun _ _ _ _ _ _ us hl => match us, hl with | [_, _], _ => rfl), .nil, fun _ => ⟨rfl, rfl⟩, T.c_Name, T.h_Name_is_good⟩
theorem mt_is_good_Name_ok (T : Tx P w K mg base) : ∀ c run, mt_is_good_Name c = some run → OkFM P w K mg base c "is_good" 1 2 [] run := tbl_ok (List.forall_mem_cons.mpr ⟨(ok_Name_is_good_at T).mono (by decide), (fun z hz => nomatch hz)⟩)
theorem sc_Name_good : FnScope ["self"] ["self"] (defScope s_Name_good) := ⟨rfl, rfl, rfl, by decide +kernel, rfl, by decide +kernel, by decide +kernel⟩
theorem pss_Name_good (T : Tx P w K mg base) {fa : Addr} {cdv : Value} {A : Around} {outer : List Env} {s : Shared} {H : Hp} {E : XK} (hr : Room 1 (A.deeper (envOfC "Name.good" (defScope s_Name_good) s.heap.objs.size fa cdv))) :
    PSS (cxOf (L2.CX P w) P w K mg base ["self"] "Name.good" (defScope s_Name_good) fa cdv A outer s H E) [] (fun _ _ _ _ => False) (defBody s_Name_good) (f_Name_good) :=
  (pss_one' (ps1_ret (pq_methF (mt_is_good_Name_ok T) (pq_var 0 (pv 0)) (hr.mono (by decide)) (paq_cons (pq_fld T.ce (pq_var 0 (pv 0))) paq_nil))))
theorem ok_Name_good_at (T : Tx P w K mg base) : OkFM P w K mg base "Name" "good" 2 1 [] r_Name_good := by
  obtain ⟨fd, F⟩ := T.d_Name_good
  exact ⟨_, fd, _, [], [], fnf_def (ob := []) F sc_Name_good rfl (fun cdv A outer s H E hr => pss_Name_good T hr) (fun _ _ _ h => h), F.bindsN (fun _ _ _ _ _ _ us hl => match us, hl with | [_], _ => rfl), .nil, fun _ => ⟨rfl, rfl⟩, T.c_Name, T.h_Name_good⟩
theorem mt_good_Name_ok (T : Tx P w K mg base) : ∀ c run, mt_good_Name c = some run → OkFM P w K mg base c "good" 2 1 [] run := tbl_ok (List.forall_mem_cons.mpr ⟨(ok_Name_good_at T).mono (by decide), (fun z hz => nomatch hz)⟩)
theorem sc_Name_awaited : FnScope ["self", "end"] ["self"] (defScope s_Name_awaited) := ⟨rfl, rfl, rfl, by decide +kernel, rfl, by decide +kernel, by decide +kernel⟩
theorem pss_Name_awaited (T : Tx P w K mg base) {fa : Addr} {cdv : Value} {A : Around} {outer : List Env} {s : Shared} {H : Hp} {E : XK} (hr : Room 2 (A.deeper (envOfC "Name.awaited" (defScope s_Name_awaited) s.heap.objs.size fa cdv))) :
    PSS (cxOf (L2.CX P w) P w K mg base ["self", "end"] "Name.awaited" (defScope s_Name_awaited) fa cdv A outer s H E) [] (fun _ _ _ _ => False) (defBody s_Name_awaited) (f_Name_awaited) :=
  (pss_cons' (ps1_if (pb_val (pq_methF0 (mt_good_Name_ok T) (pq_var 0 (pv 0)) (hr.mono (by decide)))) (pss_one' (ps1_ret (pq_str ""))) pss_nil')
      (pss_cons' (ps1_if (PWB.pb (pwb_and (pb_cmp opd_gt (pq_fld T.ce (pq_var 0 (pv 0))) pq_int (nomark _)) (pw1_and (pb_cmp opd_lt (pq_callB cd_len T.b_len (by decide +kernel) (paq_cons (pq_fld T.ce (pq_var 0 (pv 0))) paq_nil)) (pq_fld T.ce (pq_var 0 (pv 0))) (nomark _))))) (pss_one' (ps1_ret (pq_str "a"))) pss_nil')
      (pss_cons' (ps1_for (passes_of rfl) rfl (pif_any (pq_fld T.ce (pq_var 0 (pv 0)))) (pgd_name (vs := [1]) (pg_name (i := 1) sc_Name_awaited.nd rfl (by first | exact Or.inl rfl | exact Or.inr rfl))) (pss_wp [1] (pss_one' (ps1_if (pb_val (pq_m1 mtd_starts PySem.F.slot_str_startswith PySem.F.type_str_startswith (pq_var 1 (pv 1)) (pq_fld T.ce (pq_var 0 (pv 0))))) (pss_one' (ps1_ret (pq_sl (pq_var 1 (pv 1)) (poq_some (pq_callB cd_len T.b_len (by decide +kernel) (paq_cons (pq_fld T.ce (pq_var 0 (pv 0))) paq_nil))) poq_none))) pss_nil'))))
      (pss_one' (ps1_ret (pq_str ""))))))
theorem ok_Name_awaited_at (T : Tx P w K mg base) : OkFM P w K mg base "Name" "awaited" 3 1 [] r_Name_awaited := by
  obtain ⟨fd, F⟩ := T.d_Name_awaited
  exact ⟨_, fd, _, [], [], fnf_def (ob := []) F sc_Name_awaited rfl (fun cdv A outer s H E hr => pss_Name_awaited T hr) (fun _ _ _ h => h), F.bindsN (fun _ _ _ _ _ _ us hl => match us, hl with | [_], _ => rfl), .nil, fun _ => ⟨rfl, rfl⟩, T.c_Name, T.h_Name_awaited⟩
theorem mt_awaited_Name_ok (T : Tx P w K mg base) : ∀ c run, mt_awaited_Name c = some run → OkFM P w K mg base c "awaited" 3 1 [] run := tbl_ok (List.forall_mem_cons.mpr ⟨(ok_Name_awaited_at T).mono (by decide), (fun z hz => nomatch hz)⟩)
theorem sc_Exact_awaited : FnScope ["self"] ["self"] (defScope s_Exact_awaited) := ⟨rfl, rfl, rfl, by decide +kernel, rfl, by decide +kernel, by decide +kernel⟩
theorem pss_Exact_awaited (T : Tx P w K mg base) {fa : Addr} {cdv : Value} {A : Around} {outer : List Env} {s : Shared} {H : Hp} {E : XK} (hr : Room 0 (A.deeper (envOfC "Exact.awaited" (defScope s_Exact_awaited) s.heap.objs.size fa cdv))) :
    PSS (cxOf (L2.CX P w) P w K mg base ["self"] "Exact.awaited" (defScope s_Exact_awaited) fa cdv A outer s H E) [] (fun _ _ _ _ => False) (defBody s_Exact_awaited) (f_Exact_awaited) :=
  (pss_one' (ps1_ret (pq_sl (pq_fld T.ce (pq_var 0 (pv 0))) (poq_some (pq_fld T.ce (pq_var 0 (pv 0)))) poq_none)))
theorem ok_RowEnd_awaited_at (T : Tx P w K mg base) : OkFM P w K mg base "RowEnd" "awaited" 1 1 [] r_Exact_awaited := by
  obtain ⟨fd, F⟩ := T.d_RowEnd_awaited
  exact ⟨_, fd, _, [], [], fnf_def (ob := []) F sc_Exact_awaited rfl (fun cdv A outer s H E hr => pss_Exact_awaited T hr) (fun _ _ _ h => h), F.bindsN (fun _ _ _ _ _ _ us hl => match us, hl with | [_], _ => rfl), .nil, fun _ => ⟨rfl, rfl⟩, T.c_RowEnd, T.h_RowEnd_awaited⟩
theorem mt_awaited_RowEnd_ok (T : Tx P w K mg base) : ∀ c run, mt_awaited_RowEnd c = some run → OkFM P w K mg base c "awaited" 1 1 [] run := tbl_ok (List.forall_mem_cons.mpr ⟨(ok_RowEnd_awaited_at T).mono (by decide), (fun z hz => nomatch hz)⟩)
theorem sc_Name_told : FnScope ["self"] ["self"] (defScope s_Name_told) := ⟨rfl, rfl, rfl, by decide +kernel, rfl, by decide +kernel, by decide +kernel⟩
theorem pss_Name_told (T : Tx P w K mg base) {fa : Addr} {cdv : Value} {A : Around} {outer : List Env} {s : Shared} {H : Hp} {E : XK} (hr : Room 0 (A.deeper (envOfC "Name.told" (defScope s_Name_told) s.heap.objs.size fa cdv))) :
    PSS (cxOf (L2.CX P w) P w K mg base ["self"] "Name.told" (defScope s_Name_told) fa cdv A outer s H E) [] (fun _ _ _ _ => False) (defBody s_Name_told) (f_Name_told) :=
  (pss_one' (ps1_ret (pq_fld T.ce (pq_var 0 (pv 0)))))
theorem ok_Name_told_at (T : Tx P w K mg base) : OkFM P w K mg base "Name" "told" 1 1 [] r_Name_told := by
  obtain ⟨fd, F⟩ := T.d_Name_told
  exact ⟨_, fd, _, [], [], fnf_def (ob := []) F sc_Name_told rfl (fun cdv A outer s H E hr => pss_Name_told T hr) (fun _ _ _ h => h), F.bindsN (fun _ _ _ _ _ _ us hl => match us, hl with | [_], _ => rfl), .nil, fun _ => ⟨rfl, rfl⟩, T.c_Name, T.h_Name_told⟩
theorem mt_told_Name_ok (T : Tx P w K mg base) : ∀ c run, mt_told_Name c = some run → OkFM P w K mg base c "told" 1 1 [] run := tbl_ok (List.forall_mem_cons.mpr ⟨(ok_Name_told_at T).mono (by decide), (fun z hz => nomatch hz)⟩)
theorem sc_Number_awaited : FnScope ["self"] ["self"] (defScope s_Number_awaited) := ⟨rfl, rfl, rfl, by decide +kernel, rfl, by decide +kernel, by decide +kernel⟩
theorem pss_Number_awaited (T : Tx P w K mg base) {fa : Addr} {cdv : Value} {A : Around} {outer : List Env} {s : Shared} {H : Hp} {E : XK} (hr : Room 0 (A.deeper (envOfC "Number.awaited" (defScope s_Number_awaited) s.heap.objs.size fa cdv))) :
    PSS (cxOf (L2.CX P w) P w K mg base ["self"] "Number.awaited" (defScope s_Number_awaited) fa cdv A outer s H E) [] (fun _ _ _ _ => False) (defBody s_Number_awaited) (f_Number_awaited) :=
  (pss_cons' (ps1_if (pb_cmp (opd_eq hr) (pq_fld T.ce (pq_var 0 (pv 0))) (pq_str "") (nomark _)) (pss_one' (ps1_ret (pq_str "0"))) pss_nil')
      (pss_one' (ps1_ret (pq_str ""))))
theorem sc_Value_good : FnScope ["self"] ["self"] (defScope s_Value_good) := ⟨rfl, rfl, rfl, by decide +kernel, rfl, by decide +kernel, by decide +kernel⟩
theorem pss_Value_good (T : Tx P w K mg base) {fa : Addr} {cdv : Value} {A : Around} {outer : List Env} {s : Shared} {H : Hp} {E : XK} (hr : Room 0 (A.deeper (envOfC "Value.good" (defScope s_Value_good) s.heap.objs.size fa cdv))) :
    PSS (cxOf (L2.CX P w) P w K mg base ["self"] "Value.good" (defScope s_Value_good) fa cdv A outer s H E) [] (fun _ _ _ _ => False) (defBody s_Value_good) (f_Value_good) :=
  (pss_one' (ps1_ret (pq_and (pq_cmp (opd_ne hr) (pq_fld T.ce (pq_var 0 (pv 0))) (pq_str "") (nomark _)) (pq_one (pq_cmp (opd_ne hr) (pq_ix (pq_fld T.ce (pq_var 0 (pv 0))) (pq_neg pq_int)) (pq_str " ") (nomark _))))))
theorem ok_Value_good_at (T : Tx P w K mg base) : OkFM P w K mg base "Value" "good" 1 1 [] r_Value_good := by
  obtain ⟨fd, F⟩ := T.d_Value_good
  exact ⟨_, fd, _, [], [], fnf_def (ob := []) F sc_Value_good rfl (fun cdv A outer s H E hr => pss_Value_good T hr) (fun _ _ _ h => h), F.bindsN (fun _ _ _ _ _ _ us hl => match us, hl with | [_], _ => rfl), .nil, fun _ => ⟨rfl, rfl⟩, T.c_Value, T.h_Value_good⟩
theorem mt_good_Value_ok (T : Tx P w K mg base) : ∀ c run, mt_good_Value c = some run → OkFM P w K mg base c "good" 1 1 [] run := tbl_ok (List.forall_mem_cons.mpr ⟨(ok_Value_good_at T).mono (by decide), (fun z hz => nomatch hz)⟩)
theorem sc_Value_awaited : FnScope ["self"] ["self"] (defScope s_Value_awaited) := ⟨rfl, rfl, rfl, by decide +kernel, rfl, by decide +kernel, by decide +kernel⟩
theorem pss_Value_awaited (T : Tx P w K mg base) {fa : Addr} {cdv : Value} {A : Around} {outer : List Env} {s : Shared} {H : Hp} {E : XK} (hr : Room 1 (A.deeper (envOfC "Value.awaited" (defScope s_Value_awaited) s.heap.objs.size fa cdv))) :
    PSS (cxOf (L2.CX P w) P w K mg base ["self"] "Value.awaited" (defScope s_Value_awaited) fa cdv A outer s H E) [] (fun _ _ _ _ => False) (defBody s_Value_awaited) (f_Value_awaited) :=
  (pss_cons' (ps1_if (pb_val (pq_methF0 (mt_good_Value_ok T) (pq_var 0 (pv 0)) (hr.mono (by decide)))) (pss_one' (ps1_ret (pq_str ""))) pss_nil')
      (pss_one' (ps1_ret (pq_str "a"))))
theorem ok_Exact_awaited_at (T : Tx P w K mg base) : OkFM P w K mg base "Exact" "awaited" 1 1 [] r_Exact_awaited := by
  obtain ⟨fd, F⟩ := T.d_Exact_awaited
  exact ⟨_, fd, _, [], [], fnf_def (ob := []) F sc_Exact_awaited rfl (fun cdv A outer s H E hr => pss_Exact_awaited T hr) (fun _ _ _ h => h), F.bindsN (fun _ _ _ _ _ _ us hl => match us, hl with | [_], _ => rfl), .nil, fun _ => ⟨rfl, rfl⟩, T.c_Exact, T.h_Exact_awaited⟩
theorem ok_Number_awaited_at (T : Tx P w K mg base) : OkFM P w K mg base "Number" "awaited" 1 1 [] r_Number_awaited := by
  obtain ⟨fd, F⟩ := T.d_Number_awaited
  exact ⟨_, fd, _, [], [], fnf_def (ob := []) F sc_Number_awaited rfl (fun cdv A outer s H E hr => pss_Number_awaited T hr) (fun _ _ _ h => h), F.bindsN (fun _ _ _ _ _ _ us hl => match us, hl with | [_], _ => rfl), .nil, fun _ => ⟨rfl, rfl⟩, T.c_Number, T.h_Number_awaited⟩
theorem ok_Value_awaited_at (T : Tx P w K mg base) : OkFM P w K mg base "Value" "awaited" 2 1 [] r_Value_awaited := by
  obtain ⟨fd, F⟩ := T.d_Value_awaited
  exact ⟨_, fd, _, [], [], fnf_def (ob := []) F sc_Value_awaited rfl (fun cdv A outer s H E hr => pss_Value_awaited T hr) (fun _ _ _ h => h), F.bindsN (fun _ _ _ _ _ _ us hl => match us, hl with | [_], _ => rfl), .nil, fun _ => ⟨rfl, rfl⟩, T.c_Value, T.h_Value_awaited⟩
theorem mt_awaited_Exact_Number_Value_ok (T : Tx P w K mg base) : ∀ c run, mt_awaited_Exact_Number_Value c = some run → OkFM P w K mg base c "awaited" 2 1 [] run := tbl_ok (List.forall_mem_cons.mpr ⟨(ok_Exact_awaited_at T).mono (by decide), (List.forall_mem_cons.mpr ⟨(ok_Number_awaited_at T).mono (by decide), (List.forall_mem_cons.mpr ⟨(ok_Value_awaited_at T).mono (by decide), (fun z hz => nomatch hz)⟩)⟩)⟩)
theorem sc_FieldRow_is_end : FnScope ["self"] ["self"] (defScope s_FieldRow_is_end) := ⟨rfl, rfl, rfl, by decide +kernel, rfl, by decide +kernel, by decide +kernel⟩
theorem pss_FieldRow_is_end (T : Tx P w K mg base) {fa : Addr} {cdv : Value} {A : Around} {outer : List Env} {s : Shared} {H : Hp} {E : XK} (hr : Room 1 (A.deeper (envOfC "FieldRow.is_end" (defScope s_FieldRow_is_end) s.heap.objs.size fa cdv))) :
    PSS (cxOf (L2.CX P w) P w K mg base ["self"] "FieldRow.is_end" (defScope s_FieldRow_is_end) fa cdv A outer s H E) [] (fun _ _ _ _ => False) (defBody s_FieldRow_is_end) (f_FieldRow_is_end) :=
  (pss_one' (ps1_ret (pq_cmp opd_in (pq_methF0 (mt_told_Name_ok T) (pq_fld T.ce (pq_var 0 (pv 0))) (hr.mono (by decide))) (pq_fld T.ce (pq_var 0 (pv 0))) (by rfl))))
theorem ok_FieldRow_is_end_at (T : Tx P w K mg base) : OkFM P w K mg base "FieldRow" "is_end" 2 1 [] r_FieldRow_is_end := by
  obtain ⟨fd, F⟩ := T.d_FieldRow_is_end
  exact ⟨_, fd, _, [], [], fnf_def (ob := []) F sc_FieldRow_is_end rfl (fun cdv A outer s H E hr => pss_FieldRow_is_end T hr) (fun _ _ _ h => h), F.bindsN (fun _ _ _ _ _ _ us hl => match us, hl with | [_], _ => rfl), .nil, fun _ => ⟨rfl, rfl⟩, T.c_FieldRow, T.h_FieldRow_is_end⟩
theorem mt_is_end_FieldRow_ok (T : Tx P w K mg base) : ∀ c run, mt_is_end_FieldRow c = some run → OkFM P w K mg base c "is_end" 2 1 [] run := tbl_ok (List.forall_mem_cons.mpr ⟨(ok_FieldRow_is_end_at T).mono (by decide), (fun z hz => nomatch hz)⟩)
theorem sc_Value___init__ : FnScope ["self", "most"] ["self", "most"] (defScope s_Value___init__) := ⟨rfl, rfl, rfl, by decide +kernel, rfl, by decide +kernel, by decide +kernel⟩
theorem pss_Value___init__ (T : Tx P w K mg base) {fa : Addr} {cdv : Value} {A : Around} {outer : List Env} {s : Shared} {H : Hp} {E : XK} (hr : Room 0 (A.deeper (envOfC "Value.__init__" (defScope s_Value___init__) s.heap.objs.size fa cdv))) :
    PSS (cxOf (L2.CX P w) P w K mg base ["self", "most"] "Value.__init__" (defScope s_Value___init__) fa cdv A outer s H E) [0] (fun cls dx _ H' => E cls dx H') (defBody s_Value___init__) (f_Value___init__) :=
  (pss_cons' (ps1_fldX T.ce (pp_var (pv 0)) (px_q (pq_var 1 (pv 1))))
      (pss_one' (ps1_fldX T.ce (pp_var (pv 0)) (px_q (pq_str "")))))
theorem ok_Value_make (T : Tx P w K mg base) : OkK P w K mg base "Value" 1 2 [] r_Value___init__ := by
  obtain ⟨fd, F⟩ := T.d_Value___init__
  exact ⟨_, fd, _, [], [], fnx_def F sc_Value___init__ rfl (ks := [true, false]) (ob := [0]) (hob_of rfl) (fun cdv A outer s H E hr => pss_Value___init__ T hr) (fun _ _ _ h => h), F.bindsN (fun _ _ _ _ _ _ us hl => match us, hl with | [_, _], _ => rfl), .nil, fun _ => ⟨rfl, rfl⟩, T.k_Value, T.m_Value⟩
theorem sc_Number___init__ : FnScope ["self", "base", "most"] ["self", "base", "most"] (defScope s_Number___init__) := ⟨rfl, rfl, rfl, by decide +kernel, rfl, by decide +kernel, by decide +kernel⟩
theorem pss_Number___init__ (T : Tx P w K mg base) {fa : Addr} {cdv : Value} {A : Around} {outer : List Env} {s : Shared} {H : Hp} {E : XK} (hr : Room 0 (A.deeper (envOfC "Number.__init__" (defScope s_Number___init__) s.heap.objs.size fa cdv))) :
    PSS (cxOf (L2.CX P w) P w K mg base ["self", "base", "most"] "Number.__init__" (defScope s_Number___init__) fa cdv A outer s H E) [0] (fun cls dx _ H' => E cls dx H') (defBody s_Number___init__) (f_Number___init__) :=
  (pss_cons' (ps1_fldX T.ce (pp_var (pv 0)) (px_q (pq_var 1 (pv 1))))
      (pss_cons' (ps1_fldX T.ce (pp_var (pv 0)) (px_q (pq_var 2 (pv 2))))
      (pss_cons' (ps1_fldX T.ce (pp_var (pv 0)) (px_q (pq_str "")))
      (pss_one' (ps1_fldX T.ce (pp_var (pv 0)) (px_q pq_int))))))
theorem ok_Number_make (T : Tx P w K mg base) : OkK P w K mg base "Number" 1 3 [] r_Number___init__ := by
  obtain ⟨fd, F⟩ := T.d_Number___init__
  exact ⟨_, fd, _, [], [], fnx_def F sc_Number___init__ rfl (ks := [true, false, false]) (ob := [0]) (hob_of rfl) (fun cdv A outer s H E hr => pss_Number___init__ T hr) (fun _ _ _ h => h), F.bindsN (fun _ _ _ _ _ _ us hl => match us, hl with | [_, _, _], _ => rfl), .nil, fun _ => ⟨rfl, rfl⟩, T.k_Number, T.m_Number⟩
theorem sc_FieldRow_value_for : FnScope ["self"] ["self"] (defScope s_FieldRow_value_for) := ⟨rfl, rfl, rfl, by decide +kernel, rfl, by decide +kernel, by decide +kernel⟩
theorem pss_FieldRow_value_for (T : Tx P w K mg base) {fa : Addr} {cdv : Value} {A : Around} {outer : List Env} {s : Shared} {H : Hp} {E : XK} (hr : Room 2 (A.deeper (envOfC "FieldRow.value_for" (defScope s_FieldRow_value_for) s.heap.objs.size fa cdv))) :
    PSS (cxOf (L2.CX P w) P w K mg base ["self"] "FieldRow.value_for" (defScope s_FieldRow_value_for) fa cdv A outer s H E) [] (fun _ _ _ _ => False) (defBody s_FieldRow_value_for) (f_FieldRow_value_for) :=
  (pss_cons' (ps1_if (pb_not (pb_val (pq_methF0 (mt_is_end_FieldRow_ok T) (pq_var 0 (pv 0)) (hr.mono (by decide))))) (pss_one' (ps1_retX (px_make (ok_Value_make T) (hr.mono (by decide)) takes0 (pax_cons (px_q (pq_ix (pq_fld T.ce (pq_var 0 (pv 0))) pq_int)) pax_nil)))) pss_nil')
      (pss_cons' (ps1_if (pb_cmp (opd_eq hr) (pq_methF0 (mt_told_Name_ok T) (pq_fld T.ce (pq_var 0 (pv 0))) (hr.mono (by decide))) (pq_str "length") (nomark _)) (pss_one' (ps1_retX (px_make (ok_Number_make T) (hr.mono (by decide)) takes0 (pax_cons (px_q pq_int) (pax_cons (px_q (pq_ix (pq_fld T.ce (pq_var 0 (pv 0))) pq_int)) pax_nil))))) pss_nil')
      (pss_one' (ps1_retX (px_make (ok_Exact_make T) (hr.mono (by decide)) takes0 (pax_cons (px_q (pq_str "yes")) pax_nil))))))
theorem ok_FieldRow_value_for_at (T : Tx P w K mg base) : OkFM P w K mg base "FieldRow" "value_for" 3 1 [] r_FieldRow_value_for := by
  obtain ⟨fd, F⟩ := T.d_FieldRow_value_for
  exact ⟨_, fd, _, [], [], fnf_def (ob := []) F sc_FieldRow_value_for rfl (fun cdv A outer s H E hr => pss_FieldRow_value_for T hr) (fun _ _ _ h => h), F.bindsN (fun _ _ _ _ _ _ us hl => match us, hl with | [_], _ => rfl), .nil, fun _ => ⟨rfl, rfl⟩, T.c_FieldRow, T.h_FieldRow_value_for⟩
theorem mt_value_for_FieldRow_ok (T : Tx P w K mg base) : ∀ c run, mt_value_for_FieldRow c = some run → OkFM P w K mg base c "value_for" 3 1 [] run := tbl_ok (List.forall_mem_cons.mpr ⟨(ok_FieldRow_value_for_at T).mono (by decide), (fun z hz => nomatch hz)⟩)
theorem sc_FieldRow_awaited : FnScope ["self", "more", "sure"] ["self"] (defScope s_FieldRow_awaited) := ⟨rfl, rfl, rfl, by decide +kernel, rfl, by decide +kernel, by decide +kernel⟩
theorem pss_FieldRow_awaited (T : Tx P w K mg base) {fa : Addr} {cdv : Value} {A : Around} {outer : List Env} {s : Shared} {H : Hp} {E : XK} (hr : Room 5 (A.deeper (envOfC "FieldRow.awaited" (defScope s_FieldRow_awaited) s.heap.objs.size fa cdv))) :
    PSS (cxOf (L2.CX P w) P w K mg base ["self", "more", "sure"] "FieldRow.awaited" (defScope s_FieldRow_awaited) fa cdv A outer s H E) [] (fun _ _ _ _ => False) (defBody s_FieldRow_awaited) (f_FieldRow_awaited) :=
  (pss_cons' (ps1_if (pb_cmp opd_gt (pq_fld T.ce (pq_fld T.ce (pq_var 0 (pv 0)))) pq_int (nomark _)) (pss_one' (ps1_ret (pq_methF0 (mt_awaited_RowEnd_ok T) (pq_fld T.ce (pq_var 0 (pv 0))) (hr.mono (by decide))))) pss_nil')
      (pss_cons' (ps1_if (pb_cmp opd_isnot (pq_fld T.ce (pq_var 0 (pv 0))) pq_non (nomark _)) (pss_one' (ps1_ret (pq_op opd_add (pq_methF0 (mt_awaited_Exact_Number_Value_ok T) (pq_fld T.ce (pq_var 0 (pv 0))) (hr.mono (by decide))) (pq_methF0 (mt_awaited_RowEnd_ok T) (pq_fld T.ce (pq_var 0 (pv 0))) (hr.mono (by decide)))))) pss_nil')
      (pss_cons' (ps1_if (pb_cmp (opd_eq hr) (pq_methF0 (mt_told_Name_ok T) (pq_fld T.ce (pq_var 0 (pv 0))) (hr.mono (by decide))) (pq_str "") (nomark _)) (pss_one' (ps1_ret (pq_methF0 (mt_awaited_RowEnd_ok T) (pq_fld T.ce (pq_var 0 (pv 0))) (hr.mono (by decide))))) pss_nil')
      (pss_cons' (ps1_set (i := 1) sc_FieldRow_awaited.nd rfl (by first | exact Or.inl rfl | exact Or.inr rfl) (pq_methF0 (mt_awaited_Name_ok T) (pq_fld T.ce (pq_var 0 (pv 0))) (hr.mono (by decide))))
      (pss_cons' (ps1_if (pb_cmp opd_gt (pq_fld T.ce (pq_fld T.ce (pq_var 0 (pv 0)))) pq_int (nomark _)) (pss_one' (ps1_ret (pq_op opd_add (pq_op opd_add (pq_str " ") (pq_methF0 (mt_awaited_Exact_Number_Value_ok T) (pq_methG0 (mt_value_for_FieldRow_ok T) (pq_var 0 (pv 0)) (hr.mono (by decide))) (hr.mono (by decide)))) (pq_methF0 (mt_awaited_RowEnd_ok T) (pq_fld T.ce (pq_var 0 (pv 0))) (hr.mono (by decide)))))) pss_nil')
      (pss_cons' (ps1_setX (i := 2) sc_FieldRow_awaited.nd rfl (by first | exact Or.inl rfl | exact Or.inr rfl) (px_make (ok_FieldRow_make T) (hr.mono (by decide)) takes0 (pax_cons (px_q (pq_fld T.ce (pq_var 0 (pv 0)))) (pax_cons (px_q pq_int) (pax_cons (px_q (pq_fld T.ce (pq_var 0 (pv 0)))) pax_nil)))))
      (pss_cons' (ps1_fldX T.ce (pp_fld (pp_var (pv 2))) (px_q (pq_op opd_add (pq_methF0 (mt_told_Name_ok T) (pq_fld T.ce (pq_var 0 (pv 0))) (hr.mono (by decide))) (pq_var 1 (pv 1)))))
      (pss_one' (ps1_ret (pq_op opd_add (pq_op opd_add (pq_op opd_add (pq_var 1 (pv 1)) (pq_str ": ")) (pq_methF0 (mt_awaited_Exact_Number_Value_ok T) (pq_methG0 (mt_value_for_FieldRow_ok T) (pq_var 2 (pv 2)) (hr.mono (by decide))) (hr.mono (by decide)))) (pq_methF0 (mt_awaited_RowEnd_ok T) (pq_fld T.ce (pq_var 0 (pv 0))) (hr.mono (by decide)))))))))))))
theorem ok_FieldRow_awaited_at (T : Tx P w K mg base) : OkFM P w K mg base "FieldRow" "awaited" 6 1 [] r_FieldRow_awaited := by
  obtain ⟨fd, F⟩ := T.d_FieldRow_awaited
  exact ⟨_, fd, _, [], [], fnf_def (ob := []) F sc_FieldRow_awaited rfl (fun cdv A outer s H E hr => pss_FieldRow_awaited T hr) (fun _ _ _ h => h), F.bindsN (fun _ _ _ _ _ _ us hl => match us, hl with | [_], _ => rfl), .nil, fun _ => ⟨rfl, rfl⟩, T.c_FieldRow, T.h_FieldRow_awaited⟩
theorem mt_awaited_FieldRow_ok (T : Tx P w K mg base) : ∀ c run, mt_awaited_FieldRow c = some run → OkFM P w K mg base c "awaited" 6 1 [] run := tbl_ok (List.forall_mem_cons.mpr ⟨(ok_FieldRow_awaited_at T).mono (by decide), (fun z hz => nomatch hz)⟩)
theorem sc_Fields_awaited : FnScope ["self", "begun"] ["self"] (defScope s_Fields_awaited) := ⟨rfl, rfl, rfl, by decide +kernel, rfl, by decide +kernel, by decide +kernel⟩
theorem pss_Fields_awaited (T : Tx P w K mg base) {fa : Addr} {cdv : Value} {A : Around} {outer : List Env} {s : Shared} {H : Hp} {E : XK} (hr : Room 6 (A.deeper (envOfC "Fields.awaited" (defScope s_Fields_awaited) s.heap.objs.size fa cdv))) :
    PSS (cxOf (L2.CX P w) P w K mg base ["self", "begun"] "Fields.awaited" (defScope s_Fields_awaited) fa cdv A outer s H E) [] (fun _ _ _ _ => False) (defBody s_Fields_awaited) (f_Fields_awaited) :=
  (pss_cons' (ps1_if (pb_val (pq_fld T.ce (pq_var 0 (pv 0)))) (pss_one' (ps1_ret (pq_str ""))) pss_nil')
      (pss_cons' (ps1_set (i := 1) sc_Fields_awaited.nd rfl (by first | exact Or.inl rfl | exact Or.inr rfl) (pq_methF0 (mt_awaited_FieldRow_ok T) (pq_fld T.ce (pq_var 0 (pv 0))) (hr.mono (by decide))))
      (pss_cons' (ps1_if (pb_cmp (opd_eq hr) (pq_methF0 (mt_told_Name_ok T) (pq_fld T.ce (pq_fld T.ce (pq_var 0 (pv 0)))) (hr.mono (by decide))) (pq_str "") (nomark _)) (pss_one' (ps1_ret (pq_var 1 (pv 1)))) pss_nil')
      (pss_one' (ps1_ret (pq_op opd_add (pq_var 1 (pv 1)) (pq_str ";\n")))))))
theorem ok_Fields_awaited_at (T : Tx P w K mg base) : OkFM P w K mg base "Fields" "awaited" 7 1 [] r_Fields_awaited := by
  obtain ⟨fd, F⟩ := T.d_Fields_awaited
  exact ⟨_, fd, _, [], [], fnf_def (ob := []) F sc_Fields_awaited rfl (fun cdv A outer s H E hr => pss_Fields_awaited T hr) (fun _ _ _ h => h), F.bindsN (fun _ _ _ _ _ _ us hl => match us, hl with | [_], _ => rfl), .nil, fun _ => ⟨rfl, rfl⟩, T.c_Fields, T.h_Fields_awaited⟩
theorem mt_awaited_Fields_ok (T : Tx P w K mg base) : ∀ c run, mt_awaited_Fields c = some run → OkFM P w K mg base c "awaited" 7 1 [] run := tbl_ok (List.forall_mem_cons.mpr ⟨(ok_Fields_awaited_at T).mono (by decide), (fun z hz => nomatch hz)⟩)
theorem sc__law_told : FnScope ["_law_rows"] ["_law_rows"] (defScope s__law_told) := ⟨rfl, rfl, rfl, by decide +kernel, rfl, by decide +kernel, by decide +kernel⟩
theorem pss__law_told (T : Tx P w K mg base) {fa : Addr} {cdv : Value} {A : Around} {outer : List Env} {s : Shared} {H : Hp} {E : XK} (hr : Room 7 (A.deeper (envOfC "_law_told" (defScope s__law_told) s.heap.objs.size fa cdv))) :
    PSS (cxOf (L2.CX P w) P w K mg base ["_law_rows"] "_law_told" (defScope s__law_told) fa cdv A outer s H E) [] (fun _ _ _ _ => False) (defBody s__law_told) (f__law_told) :=
  (pss_one' (ps1_ret (pq_tup (paq_cons (pq_methF0 (mt_whole_Fields_ok T) (pq_var 0 (pv 0)) (hr.mono (by decide))) (paq_cons (pq_methF0 (mt_told_Fields_ok T) (pq_var 0 (pv 0)) (hr.mono (by decide))) (paq_cons (pq_methF0 (mt_told_end_Fields_ok T) (pq_var 0 (pv 0)) (hr.mono (by decide))) (paq_cons (pq_methF0 (mt_room_left_Fields_ok T) (pq_var 0 (pv 0)) (hr.mono (by decide))) (paq_cons (pq_methF0 (mt_awaited_Fields_ok T) (pq_var 0 (pv 0)) (hr.mono (by decide))) paq_nil))))))))
theorem ok__law_told (T : Tx P w K mg base) : OkF P w K mg base "_law_told" 8 1 [] r__law_told := by
  obtain ⟨fd, F⟩ := T.d__law_told
  exact ⟨_, fd, _, [], [], fnf_def (ob := []) F sc__law_told rfl (fun cdv A outer s H E hr => pss__law_told T hr) (fun _ _ _ h => h), F.bindsN (fun _ _ _ _ _ _ us hl => match us, hl with | [_], _ => rfl), .nil, fun _ => ⟨rfl, rfl⟩, T.m__law_told, F.kp⟩
theorem sc_Exact_good : FnScope ["self"] ["self"] (defScope s_Exact_good) := ⟨rfl, rfl, rfl, by decide +kernel, rfl, by decide +kernel, by decide +kernel⟩
theorem pss_Exact_good (T : Tx P w K mg base) {fa : Addr} {cdv : Value} {A : Around} {outer : List Env} {s : Shared} {H : Hp} {E : XK} (hr : Room 0 (A.deeper (envOfC "Exact.good" (defScope s_Exact_good) s.heap.objs.size fa cdv))) :
    PSS (cxOf (L2.CX P w) P w K mg base ["self"] "Exact.good" (defScope s_Exact_good) fa cdv A outer s H E) [] (fun _ _ _ _ => False) (defBody s_Exact_good) (f_Exact_good) :=
  (pss_one' (ps1_ret (pq_cmp (opd_eq hr) (pq_fld T.ce (pq_var 0 (pv 0))) (pq_callB cd_len T.b_len (by decide +kernel) (paq_cons (pq_fld T.ce (pq_var 0 (pv 0))) paq_nil)) (nomark _))))
theorem ok_RowEnd_good_at (T : Tx P w K mg base) : OkFM P w K mg base "RowEnd" "good" 1 1 [] r_Exact_good := by
  obtain ⟨fd, F⟩ := T.d_RowEnd_good
  exact ⟨_, fd, _, [], [], fnf_def (ob := []) F sc_Exact_good rfl (fun cdv A outer s H E hr => pss_Exact_good T hr) (fun _ _ _ h => h), F.bindsN (fun _ _ _ _ _ _ us hl => match us, hl with | [_], _ => rfl), .nil, fun _ => ⟨rfl, rfl⟩, T.c_RowEnd, T.h_RowEnd_good⟩
theorem mt_good_RowEnd_ok (T : Tx P w K mg base) : ∀ c run, mt_good_RowEnd c = some run → OkFM P w K mg base c "good" 1 1 [] run := tbl_ok (List.forall_mem_cons.mpr ⟨(ok_RowEnd_good_at T).mono (by decide), (fun z hz => nomatch hz)⟩)
theorem sc_FieldRow_whole : FnScope ["self"] ["self"] (defScope s_FieldRow_whole) := ⟨rfl, rfl, rfl, by decide +kernel, rfl, by decide +kernel, by decide +kernel⟩
theorem pss_FieldRow_whole (T : Tx P w K mg base) {fa : Addr} {cdv : Value} {A : Around} {outer : List Env} {s : Shared} {H : Hp} {E : XK} (hr : Room 1 (A.deeper (envOfC "FieldRow.whole" (defScope s_FieldRow_whole) s.heap.objs.size fa cdv))) :
    PSS (cxOf (L2.CX P w) P w K mg base ["self"] "FieldRow.whole" (defScope s_FieldRow_whole) fa cdv A outer s H E) [] (fun _ _ _ _ => False) (defBody s_FieldRow_whole) (f_FieldRow_whole) :=
  (pss_one' (ps1_ret (pq_methF0 (mt_good_RowEnd_ok T) (pq_fld T.ce (pq_var 0 (pv 0))) (hr.mono (by decide)))))
theorem ok_FieldRow_whole_at (T : Tx P w K mg base) : OkFM P w K mg base "FieldRow" "whole" 2 1 [] r_FieldRow_whole := by
  obtain ⟨fd, F⟩ := T.d_FieldRow_whole
  exact ⟨_, fd, _, [], [], fnf_def (ob := []) F sc_FieldRow_whole rfl (fun cdv A outer s H E hr => pss_FieldRow_whole T hr) (fun _ _ _ h => h), F.bindsN (fun _ _ _ _ _ _ us hl => match us, hl with | [_], _ => rfl), .nil, fun _ => ⟨rfl, rfl⟩, T.c_FieldRow, T.h_FieldRow_whole⟩
theorem mt_whole_FieldRow_ok (T : Tx P w K mg base) : ∀ c run, mt_whole_FieldRow c = some run → OkFM P w K mg base c "whole" 2 1 [] run := tbl_ok (List.forall_mem_cons.mpr ⟨(ok_FieldRow_whole_at T).mono (by decide), (fun z hz => nomatch hz)⟩)
theorem sc_Exact_told : FnScope ["self"] ["self"] (defScope s_Exact_told) := ⟨rfl, rfl, rfl, by decide +kernel, rfl, by decide +kernel, by decide +kernel⟩
theorem pss_Exact_told (T : Tx P w K mg base) {fa : Addr} {cdv : Value} {A : Around} {outer : List Env} {s : Shared} {H : Hp} {E : XK} (hr : Room 0 (A.deeper (envOfC "Exact.told" (defScope s_Exact_told) s.heap.objs.size fa cdv))) :
    PSS (cxOf (L2.CX P w) P w K mg base ["self"] "Exact.told" (defScope s_Exact_told) fa cdv A outer s H E) [] (fun _ _ _ _ => False) (defBody s_Exact_told) (f_Exact_told) :=
  (pss_one' (ps1_ret (pq_fld T.ce (pq_var 0 (pv 0)))))
theorem sc_Number_told : FnScope ["self"] ["self"] (defScope s_Number_told) := ⟨rfl, rfl, rfl, by decide +kernel, rfl, by decide +kernel, by decide +kernel⟩
theorem pss_Number_told (T : Tx P w K mg base) {fa : Addr} {cdv : Value} {A : Around} {outer : List Env} {s : Shared} {H : Hp} {E : XK} (hr : Room 0 (A.deeper (envOfC "Number.told" (defScope s_Number_told) s.heap.objs.size fa cdv))) :
    PSS (cxOf (L2.CX P w) P w K mg base ["self"] "Number.told" (defScope s_Number_told) fa cdv A outer s H E) [] (fun _ _ _ _ => False) (defBody s_Number_told) (f_Number_told) :=
  (pss_one' (ps1_ret (pq_fld T.ce (pq_var 0 (pv 0)))))
theorem sc_Value_told : FnScope ["self"] ["self"] (defScope s_Value_told) := ⟨rfl, rfl, rfl, by decide +kernel, rfl, by decide +kernel, by decide +kernel⟩
theorem pss_Value_told (T : Tx P w K mg base) {fa : Addr} {cdv : Value} {A : Around} {outer : List Env} {s : Shared} {H : Hp} {E : XK} (hr : Room 0 (A.deeper (envOfC "Value.told" (defScope s_Value_told) s.heap.objs.size fa cdv))) :
    PSS (cxOf (L2.CX P w) P w K mg base ["self"] "Value.told" (defScope s_Value_told) fa cdv A outer s H E) [] (fun _ _ _ _ => False) (defBody s_Value_told) (f_Value_told) :=
  (pss_one' (ps1_ret (pq_fld T.ce (pq_var 0 (pv 0)))))
theorem ok_Exact_told_at (T : Tx P w K mg base) : OkFM P w K mg base "Exact" "told" 1 1 [] r_Exact_told := by
  obtain ⟨fd, F⟩ := T.d_Exact_told
  exact ⟨_, fd, _, [], [], fnf_def (ob := []) F sc_Exact_told rfl (fun cdv A outer s H E hr => pss_Exact_told T hr) (fun _ _ _ h => h), F.bindsN (fun _ _ _ _ _ _ us hl => match us, hl with | [_], _ => rfl), .nil, fun _ => ⟨rfl, rfl⟩, T.c_Exact, T.h_Exact_told⟩
theorem ok_Number_told_at (T : Tx P w K mg base) : OkFM P w K mg base "Number" "told" 1 1 [] r_Number_told := by
  obtain ⟨fd, F⟩ := T.d_Number_told
  exact ⟨_, fd, _, [], [], fnf_def (ob := []) F sc_Number_told rfl (fun cdv A outer s H E hr => pss_Number_told T hr) (fun _ _ _ h => h), F.bindsN (fun _ _ _ _ _ _ us hl => match us, hl with | [_], _ => rfl), .nil, fun _ => ⟨rfl, rfl⟩, T.c_Number, T.h_Number_told⟩
theorem ok_Value_told_at (T : Tx P w K mg base) : OkFM P w K mg base "Value" "told" 1 1 [] r_Value_told := by
  obtain ⟨fd, F⟩ := T.d_Value_told
  exact ⟨_, fd, _, [], [], fnf_def (ob := []) F sc_Value_told rfl (fun cdv A outer s H E hr => pss_Value_told T hr) (fun _ _ _ h => h), F.bindsN (fun _ _ _ _ _ _ us hl => match us, hl with | [_], _ => rfl), .nil, fun _ => ⟨rfl, rfl⟩, T.c_Value, T.h_Value_told⟩
theorem mt_told_Exact_Number_Value_ok (T : Tx P w K mg base) : ∀ c run, mt_told_Exact_Number_Value c = some run → OkFM P w K mg base c "told" 1 1 [] run := tbl_ok (List.forall_mem_cons.mpr ⟨(ok_Exact_told_at T).mono (by decide), (List.forall_mem_cons.mpr ⟨(ok_Number_told_at T).mono (by decide), (List.forall_mem_cons.mpr ⟨(ok_Value_told_at T).mono (by decide), (fun z hz => nomatch hz)⟩)⟩)⟩)
theorem sc_FieldRow_told : FnScope ["self"] ["self"] (defScope s_FieldRow_told) := ⟨rfl, rfl, rfl, by decide +kernel, rfl, by decide +kernel, by decide +kernel⟩
theorem pss_FieldRow_told (T : Tx P w K mg base) {fa : Addr} {cdv : Value} {A : Around} {outer : List Env} {s : Shared} {H : Hp} {E : XK} (hr : Room 1 (A.deeper (envOfC "FieldRow.told" (defScope s_FieldRow_told) s.heap.objs.size fa cdv))) :
    PSS (cxOf (L2.CX P w) P w K mg base ["self"] "FieldRow.told" (defScope s_FieldRow_told) fa cdv A outer s H E) [] (fun _ _ _ _ => False) (defBody s_FieldRow_told) (f_FieldRow_told) :=
  (pss_cons' (ps1_if (pb_cmp opd_is_ (pq_fld T.ce (pq_var 0 (pv 0))) pq_non (nomark _)) (pss_one' (ps1_ret (pq_tup paq_nil))) pss_nil')
      (pss_one' (ps1_ret (pq_tup (paq_cons (pq_methF0 (mt_told_Name_ok T) (pq_fld T.ce (pq_var 0 (pv 0))) (hr.mono (by decide))) (paq_cons (pq_methF0 (mt_told_Exact_Number_Value_ok T) (pq_fld T.ce (pq_var 0 (pv 0))) (hr.mono (by decide))) paq_nil))))))
theorem ok_FieldRow_told_at (T : Tx P w K mg base) : OkFM P w K mg base "FieldRow" "told" 2 1 [] r_FieldRow_told := by
  obtain ⟨fd, F⟩ := T.d_FieldRow_told
  exact ⟨_, fd, _, [], [], fnf_def (ob := []) F sc_FieldRow_told rfl (fun cdv A outer s H E hr => pss_FieldRow_told T hr) (fun _ _ _ h => h), F.bindsN (fun _ _ _ _ _ _ us hl => match us, hl with | [_], _ => rfl), .nil, fun _ => ⟨rfl, rfl⟩, T.c_FieldRow, T.h_FieldRow_told⟩
theorem mt_told_FieldRow_ok (T : Tx P w K mg base) : ∀ c run, mt_told_FieldRow c = some run → OkFM P w K mg base c "told" 2 1 [] run := tbl_ok (List.forall_mem_cons.mpr ⟨(ok_FieldRow_told_at T).mono (by decide), (fun z hz => nomatch hz)⟩)
theorem sc_FieldRow_number_begun : FnScope ["self"] ["self"] (defScope s_FieldRow_number_begun) := ⟨rfl, rfl, rfl, by decide +kernel, rfl, by decide +kernel, by decide +kernel⟩
theorem pss_FieldRow_number_begun (T : Tx P w K mg base) {fa : Addr} {cdv : Value} {A : Around} {outer : List Env} {s : Shared} {H : Hp} {E : XK} (hr : Room 2 (A.deeper (envOfC "FieldRow.number_begun" (defScope s_FieldRow_number_begun) s.heap.objs.size fa cdv))) :
    PSS (cxOf (L2.CX P w) P w K mg base ["self"] "FieldRow.number_begun" (defScope s_FieldRow_number_begun) fa cdv A outer s H E) [] (fun _ _ _ _ => False) (defBody s_FieldRow_number_begun) (f_FieldRow_number_begun) :=
  (pss_cons' (ps1_if (PWB.pb (pwb_or (pb_cmp opd_is_ (pq_fld T.ce (pq_var 0 (pv 0))) pq_non (nomark _)) (pwb_or (pb_cmp (opd_ne hr) (pq_methF0 (mt_told_Name_ok T) (pq_fld T.ce (pq_var 0 (pv 0))) (hr.mono (by decide))) (pq_str "length") (nomark _)) (pw1_or (pb_not (pb_val (pq_methF0 (mt_is_end_FieldRow_ok T) (pq_var 0 (pv 0)) (hr.mono (by decide))))))))) (pss_one' (ps1_ret pq_int)) pss_nil')
      (pss_one' (ps1_ret (pq_methF0 (mt_told_Exact_Number_Value_ok T) (pq_fld T.ce (pq_var 0 (pv 0))) (hr.mono (by decide))))))
theorem ok_FieldRow_number_begun_at (T : Tx P w K mg base) : OkFM P w K mg base "FieldRow" "number_begun" 3 1 [] r_FieldRow_number_begun := by
  obtain ⟨fd, F⟩ := T.d_FieldRow_number_begun
  exact ⟨_, fd, _, [], [], fnf_def (ob := []) F sc_FieldRow_number_begun rfl (fun cdv A outer s H E hr => pss_FieldRow_number_begun T hr) (fun _ _ _ h => h), F.bindsN (fun _ _ _ _ _ _ us hl => match us, hl with | [_], _ => rfl), .nil, fun _ => ⟨rfl, rfl⟩, T.c_FieldRow, T.h_FieldRow_number_begun⟩
theorem mt_number_begun_FieldRow_ok (T : Tx P w K mg base) : ∀ c run, mt_number_begun_FieldRow c = some run → OkFM P w K mg base c "number_begun" 3 1 [] run := tbl_ok (List.forall_mem_cons.mpr ⟨(ok_FieldRow_number_begun_at T).mono (by decide), (fun z hz => nomatch hz)⟩)
theorem sc_Fields_next_row : FnScope ["self", "found"] ["self"] (defScope s_Fields_next_row) := ⟨rfl, rfl, rfl, by decide +kernel, rfl, by decide +kernel, by decide +kernel⟩
theorem pss_Fields_next_row (T : Tx P w K mg base) {fa : Addr} {cdv : Value} {A : Around} {outer : List Env} {s : Shared} {H : Hp} {E : XK} (hr : Room 5 (A.deeper (envOfC "Fields.next_row" (defScope s_Fields_next_row) s.heap.objs.size fa cdv))) :
    PSS (cxOf (L2.CX P w) P w K mg base ["self", "found"] "Fields.next_row" (defScope s_Fields_next_row) fa cdv A outer s H E) [0] (fun cls dx _ H' => E cls dx H') (defBody s_Fields_next_row) (f_Fields_next_row) :=
  (pss_cons' (ps1_set (i := 1) sc_Fields_next_row.nd rfl (by first | exact Or.inl rfl | exact Or.inr rfl) (pq_methF0 (mt_told_FieldRow_ok T) (pq_fld T.ce (pq_var 0 (pv 0))) (hr.mono (by decide))))
      (pss_cons' (ps1_if (pb_cmp (opd_eq hr) (pq_var 1 (pv 1)) (pq_tup paq_nil) (nomark _)) (pss_cons' (ps1_fldX T.ce (pp_var (pv 0)) (px_q pq_bl))
      (pss_one' ps1_retN)) pss_nil')
      (pss_cons' (ps1_if (pb_val (pq_methF0 (mt_is_end_FieldRow_ok T) (pq_fld T.ce (pq_var 0 (pv 0))) (hr.mono (by decide)))) (pss_cons' (ps1_fldX T.ce (pp_var (pv 0)) (px_q (pq_tup (paq_cons (pq_ix (pq_var 1 (pv 1)) pq_int) (paq_cons (pq_methF0 (mt_number_begun_FieldRow_ok T) (pq_fld T.ce (pq_var 0 (pv 0))) (hr.mono (by decide))) paq_nil)))))
      (pss_cons' (ps1_fldX T.ce (pp_var (pv 0)) (px_make (ok_FieldRow_make T) (hr.mono (by decide)) takes_cx (pax_cons (px_q (pq_fld T.ce (pq_var 0 (pv 0)))) (pax_cons (px_q pq_int) (pax_cons (px_q (pq_tup paq_nil)) pax_nil)))))
      (pss_one' ps1_retN))) pss_nil')
      (pss_cons' (ps1_appF T.ce (pp_fld (pp_var (pv 0))) (fun to te po pe => pe_bm PySem.F.plainAttrs_list PySem.F.slot_list_append PySem.F.type_list_append mt_append po (pa_cons pe pa_nil)) (pq_var 1 (pv 1)))
      (pss_cons' (ps1_fldsub T.ce (pp_var (pv 0)) pq_int)
      (pss_one' (ps1_fldX T.ce (pp_var (pv 0)) (px_make (ok_FieldRow_make T) (hr.mono (by decide)) takes_cx (pax_cons (px_q (pq_fld T.ce (pq_var 0 (pv 0)))) (pax_cons (px_q (pq_fld T.ce (pq_var 0 (pv 0)))) (pax_cons (px_q (pq_fld T.ce (pq_var 0 (pv 0)))) pax_nil)))))))))))
theorem ok_Fields_next_row_at (T : Tx P w K mg base) : OkM P w K mg base "Fields" "next_row" 6 1 [] r_Fields_next_row := by
  obtain ⟨fd, F⟩ := T.d_Fields_next_row
  exact ⟨_, fd, _, [], [], fnx_def F sc_Fields_next_row rfl (ks := [true]) (ob := [0]) (hob_of rfl) (fun cdv A outer s H E hr => pss_Fields_next_row T hr) (fun _ _ _ h => h), F.bindsN (fun _ _ _ _ _ _ us hl => match us, hl with | [_], _ => rfl), .nil, fun _ => ⟨rfl, rfl⟩, T.c_Fields, T.h_Fields_next_row⟩
theorem mt_next_row_Fields_ok (T : Tx P w K mg base) : ∀ c run, mt_next_row_Fields c = some run → OkM P w K mg base c "next_row" 6 1 [] run := tbl_ok (List.forall_mem_cons.mpr ⟨(ok_Fields_next_row_at T).mono (by decide), (fun z hz => nomatch hz)⟩)
theorem sc_is_small : FnScope ["sign"] ["sign"] (defScope s_is_small) := ⟨rfl, rfl, rfl, by decide +kernel, rfl, by decide +kernel, by decide +kernel⟩
theorem pss_is_small (T : Tx P w K mg base) {fa : Addr} {cdv : Value} {A : Around} {outer : List Env} {s : Shared} {H : Hp} {E : XK} (hr : Room 0 (A.deeper (envOfC "is_small" (defScope s_is_small) s.heap.objs.size fa cdv))) :
    PSS (cxOf (L2.CX P w) P w K mg base ["sign"] "is_small" (defScope s_is_small) fa cdv A outer s H E) [] (fun _ _ _ _ => False) (defBody s_is_small) (f_is_small) :=
  (pss_one' (ps1_ret (pq_and (pq_cmp (opd_eq hr) (pq_callB cd_len T.b_len (by decide +kernel) (paq_cons (pq_var 0 (pv 0)) paq_nil)) pq_int (nomark _)) (pq_one (pq_chain opd_le opd_le (pq_str "a") (pq_var 0 (pv 0)) (pq_str "z"))))))
theorem ok_is_small (T : Tx P w K mg base) : OkQ P w K mg base "is_small" 1 1 [] r_is_small := by
  obtain ⟨fd, F⟩ := T.d_is_small
  exact ⟨_, fd, _, [], [], fnq_def F sc_is_small rfl (fun cdv A outer s H E hr => pss_is_small T hr) (fun _ _ h => h), F.bindsN (fun _ _ _ _ _ _ us hl => match us, hl with | [_], _ => rfl), .nil, fun _ => ⟨rfl, rfl⟩, rfl, T.m_is_small, F.kp⟩
theorem sc_Name_is_hopeful : FnScope ["self", "text", "end"] ["self", "text"] (defScope s_Name_is_hopeful) := ⟨rfl, rfl, rfl, by decide +kernel, rfl, by decide +kernel, by decide +kernel⟩
theorem pss_Name_is_hopeful (T : Tx P w K mg base) {fa : Addr} {cdv : Value} {A : Around} {outer : List Env} {s : Shared} {H : Hp} {E : XK} (hr : Room 1 (A.deeper (envOfC "Name.is_hopeful" (defScope s_Name_is_hopeful) s.heap.objs.size fa cdv))) :
    PSS (cxOf (L2.CX P w) P w K mg base ["self", "text", "end"] "Name.is_hopeful" (defScope s_Name_is_hopeful) fa cdv A outer s H E) [] (fun _ _ _ _ => False) (defBody s_Name_is_hopeful) (f_Name_is_hopeful) :=
  (pss_cons' (ps1_if (PWB.pb (pwb_or (pb_val (pq_methF (mt_is_good_Name_ok T) (pq_var 0 (pv 0)) (hr.mono (by decide)) (paq_cons (pq_var 1 (pv 1)) paq_nil))) (pw1_or (pb_val (pq_callB (cd_any rfl) T.b_any (by decide +kernel) (paq_cons (PN.pq (pn_lc (own := [("end", 2)]) rfl sc_Name_is_hopeful.nd (piq_any (pq_fld T.ce (pq_var 0 (pv 0)))) (blkOk_by (own := [("end", 2)]) (by kernel_rfl)) (fun _ _ _ _ _ => (pgd_name (vs := [2]) (pg_name (i := 2) sc_Name_is_hopeful.nd rfl (by first | exact Or.inl rfl | exact Or.inr rfl)))) (fun _ _ _ _ _ => ptsb_nil) (fun _ _ _ _ _ => (pq_m1 mtd_starts PySem.F.slot_str_startswith PySem.F.type_str_startswith (pq_var 2 (pv 2)) (pq_var 1 (pv 1)))))) paq_nil)))))) (pss_one' (ps1_ret pq_bl)) pss_nil')
      (pss_one' (ps1_ret (pq_and (pq_cmp opd_gt (pq_fld T.ce (pq_var 0 (pv 0))) pq_int (nomark _)) (pq_one (pq_cmp opd_lt (pq_callB cd_len T.b_len (by decide +kernel) (paq_cons (pq_var 1 (pv 1)) paq_nil)) (pq_fld T.ce (pq_var 0 (pv 0))) (nomark _)))))))
theorem ok_Name_is_hopeful_at (T : Tx P w K mg base) : OkFM P w K mg base "Name" "is_hopeful" 2 2 [] r_Name_is_hopeful := by
  obtain ⟨fd, F⟩ := T.d_Name_is_hopeful
  exact ⟨_, fd, _, [], [], fnf_def (ob := []) F sc_Name_is_hopeful rfl (fun cdv A outer s H E hr => pss_Name_is_hopeful T hr) (fun _ _ _ h => h), F.bindsN (fun _ _ _ _ _ _ us hl => match us, hl with | [_, _], _ => rfl), .nil, fun _ => ⟨rfl, rfl⟩, T.c_Name, T.h_Name_is_hopeful⟩
theorem mt_is_hopeful_Name_ok (T : Tx P w K mg base) : ∀ c run, mt_is_hopeful_Name c = some run → OkFM P w K mg base c "is_hopeful" 2 2 [] run := tbl_ok (List.forall_mem_cons.mpr ⟨(ok_Name_is_hopeful_at T).mono (by decide), (fun z hz => nomatch hz)⟩)
theorem sc_Name_fed : FnScope ["self", "sign"] ["self", "sign"] (defScope s_Name_fed) := ⟨rfl, rfl, rfl, by decide +kernel, rfl, by decide +kernel, by decide +kernel⟩
theorem pss_Name_fed (T : Tx P w K mg base) {fa : Addr} {cdv : Value} {A : Around} {outer : List Env} {s : Shared} {H : Hp} {E : XK} (hr : Room 2 (A.deeper (envOfC "Name.fed" (defScope s_Name_fed) s.heap.objs.size fa cdv))) :
    PSS (cxOf (L2.CX P w) P w K mg base ["self", "sign"] "Name.fed" (defScope s_Name_fed) fa cdv A outer s H E) [0] (fun cls dx _ H' => E cls dx H') (defBody s_Name_fed) (f_Name_fed) :=
  (pss_cons' (ps1_if (PWB.pb (pwb_or (pb_not (pb_val (pq_call (ok_is_small T) (hr.mono (by decide)) (paq_cons (pq_var 1 (pv 1)) paq_nil)))) (pw1_or (pb_not (pb_val (pq_methF (mt_is_hopeful_Name_ok T) (pq_var 0 (pv 0)) (hr.mono (by decide)) (paq_cons (pq_op opd_add (pq_fld T.ce (pq_var 0 (pv 0))) (pq_var 1 (pv 1))) paq_nil))))))) (pss_one' (ps1_ret pq_bl)) pss_nil')
      (pss_cons' (ps1_fldX T.ce (pp_var (pv 0)) (px_q (pq_op opd_add (pq_fld T.ce (pq_var 0 (pv 0))) (pq_var 1 (pv 1)))))
      (pss_one' (ps1_ret pq_bl))))
theorem ok_Name_fed_at (T : Tx P w K mg base) : OkM P w K mg base "Name" "fed" 3 2 [] r_Name_fed := by
  obtain ⟨fd, F⟩ := T.d_Name_fed
  exact ⟨_, fd, _, [], [], fnx_def F sc_Name_fed rfl (ks := [true, false]) (ob := [0]) (hob_of rfl) (fun cdv A outer s H E hr => pss_Name_fed T hr) (fun _ _ _ h => h), F.bindsN (fun _ _ _ _ _ _ us hl => match us, hl with | [_, _], _ => rfl), .nil, fun _ => ⟨rfl, rfl⟩, T.c_Name, T.h_Name_fed⟩
theorem mt_fed_Name_ok (T : Tx P w K mg base) : ∀ c run, mt_fed_Name c = some run → OkM P w K mg base c "fed" 3 2 [] run := tbl_ok (List.forall_mem_cons.mpr ⟨(ok_Name_fed_at T).mono (by decide), (fun z hz => nomatch hz)⟩)
theorem sc_Exact_fed : FnScope ["self", "sign"] ["self", "sign"] (defScope s_Exact_fed) := ⟨rfl, rfl, rfl, by decide +kernel, rfl, by decide +kernel, by decide +kernel⟩
theorem pss_Exact_fed (T : Tx P w K mg base) {fa : Addr} {cdv : Value} {A : Around} {outer : List Env} {s : Shared} {H : Hp} {E : XK} (hr : Room 0 (A.deeper (envOfC "Exact.fed" (defScope s_Exact_fed) s.heap.objs.size fa cdv))) :
    PSS (cxOf (L2.CX P w) P w K mg base ["self", "sign"] "Exact.fed" (defScope s_Exact_fed) fa cdv A outer s H E) [0] (fun cls dx _ H' => E cls dx H') (defBody s_Exact_fed) (f_Exact_fed) :=
  (pss_cons' (ps1_if (PWB.pb (pwb_and (pb_cmp opd_lt (pq_fld T.ce (pq_var 0 (pv 0))) (pq_callB cd_len T.b_len (by decide +kernel) (paq_cons (pq_fld T.ce (pq_var 0 (pv 0))) paq_nil)) (nomark _)) (pw1_and (pb_cmp (opd_eq hr) (pq_var 1 (pv 1)) (pq_ix (pq_fld T.ce (pq_var 0 (pv 0))) (pq_fld T.ce (pq_var 0 (pv 0)))) (nomark _))))) (pss_cons' (ps1_fldadd T.ce (pp_var (pv 0)) pq_int)
      (pss_one' (ps1_ret pq_bl))) pss_nil')
      (pss_one' (ps1_ret pq_bl)))
theorem ok_RowEnd_fed_at (T : Tx P w K mg base) : OkM P w K mg base "RowEnd" "fed" 1 2 [] r_Exact_fed := by
  obtain ⟨fd, F⟩ := T.d_RowEnd_fed
  exact ⟨_, fd, _, [], [], fnx_def F sc_Exact_fed rfl (ks := [true, false]) (ob := [0]) (hob_of rfl) (fun cdv A outer s H E hr => pss_Exact_fed T hr) (fun _ _ _ h => h), F.bindsN (fun _ _ _ _ _ _ us hl => match us, hl with | [_, _], _ => rfl), .nil, fun _ => ⟨rfl, rfl⟩, T.c_RowEnd, T.h_RowEnd_fed⟩
theorem mt_fed_RowEnd_ok (T : Tx P w K mg base) : ∀ c run, mt_fed_RowEnd c = some run → OkM P w K mg base c "fed" 1 2 [] run := tbl_ok (List.forall_mem_cons.mpr ⟨(ok_RowEnd_fed_at T).mono (by decide), (fun z hz => nomatch hz)⟩)
theorem ok_Exact_fed_at (T : Tx P w K mg base) : OkM P w K mg base "Exact" "fed" 1 2 [] r_Exact_fed := by
  obtain ⟨fd, F⟩ := T.d_Exact_fed
  exact ⟨_, fd, _, [], [], fnx_def F sc_Exact_fed rfl (ks := [true, false]) (ob := [0]) (hob_of rfl) (fun cdv A outer s H E hr => pss_Exact_fed T hr) (fun _ _ _ h => h), F.bindsN (fun _ _ _ _ _ _ us hl => match us, hl with | [_, _], _ => rfl), .nil, fun _ => ⟨rfl, rfl⟩, T.c_Exact, T.h_Exact_fed⟩
theorem mt_fed_Exact_ok (T : Tx P w K mg base) : ∀ c run, mt_fed_Exact c = some run → OkM P w K mg base c "fed" 1 2 [] run := tbl_ok (List.forall_mem_cons.mpr ⟨(ok_Exact_fed_at T).mono (by decide), (fun z hz => nomatch hz)⟩)
theorem sc_Number_fed : FnScope ["self", "sign", "number"] ["self", "sign"] (defScope s_Number_fed) := ⟨rfl, rfl, rfl, by decide +kernel, rfl, by decide +kernel, by decide +kernel⟩
theorem pss_Number_fed (T : Tx P w K mg base) {fa : Addr} {cdv : Value} {A : Around} {outer : List Env} {s : Shared} {H : Hp} {E : XK} (hr : Room 0 (A.deeper (envOfC "Number.fed" (defScope s_Number_fed) s.heap.objs.size fa cdv))) :
    PSS (cxOf (L2.CX P w) P w K mg base ["self", "sign", "number"] "Number.fed" (defScope s_Number_fed) fa cdv A outer s H E) [0] (fun cls dx _ H' => E cls dx H') (defBody s_Number_fed) (f_Number_fed) :=
  (pss_cons' (ps1_if (PWB.pb (pwb_or (pb_cmp (opd_ne hr) (pq_callB cd_len T.b_len (by decide +kernel) (paq_cons (pq_var 1 (pv 1)) paq_nil)) pq_int (nomark _)) (pwb_or (pb_cmp opd_notin (pq_var 1 (pv 1)) (pq_sl (pq_glob T.g_FIGURES) poq_none (poq_some (pq_fld T.ce (pq_var 0 (pv 0))))) (by rfl)) (pw1_or (pb_cmp (opd_eq hr) (pq_fld T.ce (pq_var 0 (pv 0))) (pq_str "0") (nomark _)))))) (pss_one' (ps1_ret pq_bl)) pss_nil')
      (pss_cons' (ps1_set (i := 2) sc_Number_fed.nd rfl (by first | exact Or.inl rfl | exact Or.inr rfl) (pq_op opd_add (pq_op opd_mul (pq_fld T.ce (pq_var 0 (pv 0))) (pq_fld T.ce (pq_var 0 (pv 0)))) (pq_m1 mtd_index PySem.F.slot_str_index PySem.F.type_str_index (pq_glob T.g_FIGURES) (pq_var 1 (pv 1)))))
      (pss_cons' (ps1_if (pb_cmp opd_gt (pq_var 2 (pv 2)) (pq_fld T.ce (pq_var 0 (pv 0))) (nomark _)) (pss_one' (ps1_ret pq_bl)) pss_nil')
      (pss_cons' (ps1_fldX T.ce (pp_var (pv 0)) (px_q (pq_op opd_add (pq_fld T.ce (pq_var 0 (pv 0))) (pq_var 1 (pv 1)))))
      (pss_cons' (ps1_fldX T.ce (pp_var (pv 0)) (px_q (pq_var 2 (pv 2))))
      (pss_one' (ps1_ret pq_bl)))))))
theorem sc_is_plain : FnScope ["sign"] ["sign"] (defScope s_is_plain) := ⟨rfl, rfl, rfl, by decide +kernel, rfl, by decide +kernel, by decide +kernel⟩
theorem pss_is_plain (T : Tx P w K mg base) {fa : Addr} {cdv : Value} {A : Around} {outer : List Env} {s : Shared} {H : Hp} {E : XK} (hr : Room 0 (A.deeper (envOfC "is_plain" (defScope s_is_plain) s.heap.objs.size fa cdv))) :
    PSS (cxOf (L2.CX P w) P w K mg base ["sign"] "is_plain" (defScope s_is_plain) fa cdv A outer s H E) [] (fun _ _ _ _ => False) (defBody s_is_plain) (f_is_plain) :=
  (pss_one' (ps1_ret (pq_or (pq_cmp (opd_eq hr) (pq_var 0 (pv 0)) (pq_str "\n") (nomark _)) (pq_one (pq_and (pq_cmp (opd_eq hr) (pq_callB cd_len T.b_len (by decide +kernel) (paq_cons (pq_var 0 (pv 0)) paq_nil)) pq_int (nomark _)) (pq_one (pq_chain opd_le opd_le (pq_str " ") (pq_var 0 (pv 0)) (pq_str "~"))))))))
theorem ok_is_plain (T : Tx P w K mg base) : OkQ P w K mg base "is_plain" 1 1 [] r_is_plain := by
  obtain ⟨fd, F⟩ := T.d_is_plain
  exact ⟨_, fd, _, [], [], fnq_def F sc_is_plain rfl (fun cdv A outer s H E hr => pss_is_plain T hr) (fun _ _ h => h), F.bindsN (fun _ _ _ _ _ _ us hl => match us, hl with | [_], _ => rfl), .nil, fun _ => ⟨rfl, rfl⟩, rfl, T.m_is_plain, F.kp⟩
theorem sc_Value_fed : FnScope ["self", "sign"] ["self", "sign"] (defScope s_Value_fed) := ⟨rfl, rfl, rfl, by decide +kernel, rfl, by decide +kernel, by decide +kernel⟩
theorem pss_Value_fed (T : Tx P w K mg base) {fa : Addr} {cdv : Value} {A : Around} {outer : List Env} {s : Shared} {H : Hp} {E : XK} (hr : Room 1 (A.deeper (envOfC "Value.fed" (defScope s_Value_fed) s.heap.objs.size fa cdv))) :
    PSS (cxOf (L2.CX P w) P w K mg base ["self", "sign"] "Value.fed" (defScope s_Value_fed) fa cdv A outer s H E) [0] (fun cls dx _ H' => E cls dx H') (defBody s_Value_fed) (f_Value_fed) :=
  (pss_cons' (ps1_if (PWB.pb (pwb_or (pb_not (pb_val (pq_call (ok_is_plain T) (hr.mono (by decide)) (paq_cons (pq_var 1 (pv 1)) paq_nil)))) (pwb_or (pb_cmp (opd_eq hr) (pq_var 1 (pv 1)) (pq_str "\n") (nomark _)) (pwb_or (pb_cmp (opd_eq hr) (pq_var 1 (pv 1)) (pq_str ";") (nomark _)) (pw1_or (pb_cmp (opd_eq hr) (pq_callB cd_len T.b_len (by decide +kernel) (paq_cons (pq_fld T.ce (pq_var 0 (pv 0))) paq_nil)) (pq_fld T.ce (pq_var 0 (pv 0))) (nomark _))))))) (pss_one' (ps1_ret pq_bl)) pss_nil')
      (pss_cons' (ps1_if (PWB.pb (pwb_and (pb_cmp (opd_eq hr) (pq_var 1 (pv 1)) (pq_str " ") (nomark _)) (pw1_and (PWB.pb (pwb_or (pb_cmp (opd_eq hr) (pq_fld T.ce (pq_var 0 (pv 0))) (pq_str "") (nomark _)) (pw1_or (pb_cmp (opd_eq hr) (pq_op opd_add (pq_callB cd_len T.b_len (by decide +kernel) (paq_cons (pq_fld T.ce (pq_var 0 (pv 0))) paq_nil)) pq_int) (pq_fld T.ce (pq_var 0 (pv 0))) (nomark _)))))))) (pss_one' (ps1_ret pq_bl)) pss_nil')
      (pss_cons' (ps1_fldX T.ce (pp_var (pv 0)) (px_q (pq_op opd_add (pq_fld T.ce (pq_var 0 (pv 0))) (pq_var 1 (pv 1)))))
      (pss_one' (ps1_ret pq_bl)))))
theorem ok_Number_fed_at (T : Tx P w K mg base) : OkM P w K mg base "Number" "fed" 1 2 [] r_Number_fed := by
  obtain ⟨fd, F⟩ := T.d_Number_fed
  exact ⟨_, fd, _, [], [], fnx_def F sc_Number_fed rfl (ks := [true, false]) (ob := [0]) (hob_of rfl) (fun cdv A outer s H E hr => pss_Number_fed T hr) (fun _ _ _ h => h), F.bindsN (fun _ _ _ _ _ _ us hl => match us, hl with | [_, _], _ => rfl), .nil, fun _ => ⟨rfl, rfl⟩, T.c_Number, T.h_Number_fed⟩
theorem ok_Value_fed_at (T : Tx P w K mg base) : OkM P w K mg base "Value" "fed" 2 2 [] r_Value_fed := by
  obtain ⟨fd, F⟩ := T.d_Value_fed
  exact ⟨_, fd, _, [], [], fnx_def F sc_Value_fed rfl (ks := [true, false]) (ob := [0]) (hob_of rfl) (fun cdv A outer s H E hr => pss_Value_fed T hr) (fun _ _ _ h => h), F.bindsN (fun _ _ _ _ _ _ us hl => match us, hl with | [_, _], _ => rfl), .nil, fun _ => ⟨rfl, rfl⟩, T.c_Value, T.h_Value_fed⟩
theorem mt_fed_Exact_Number_Value_ok (T : Tx P w K mg base) : ∀ c run, mt_fed_Exact_Number_Value c = some run → OkM P w K mg base c "fed" 2 2 [] run := tbl_ok (List.forall_mem_cons.mpr ⟨(ok_Exact_fed_at T).mono (by decide), (List.forall_mem_cons.mpr ⟨(ok_Number_fed_at T).mono (by decide), (List.forall_mem_cons.mpr ⟨(ok_Value_fed_at T).mono (by decide), (fun z hz => nomatch hz)⟩)⟩)⟩)
theorem sc_Number_good : FnScope ["self"] ["self"] (defScope s_Number_good) := ⟨rfl, rfl, rfl, by decide +kernel, rfl, by decide +kernel, by decide +kernel⟩
theorem pss_Number_good (T : Tx P w K mg base) {fa : Addr} {cdv : Value} {A : Around} {outer : List Env} {s : Shared} {H : Hp} {E : XK} (hr : Room 0 (A.deeper (envOfC "Number.good" (defScope s_Number_good) s.heap.objs.size fa cdv))) :
    PSS (cxOf (L2.CX P w) P w K mg base ["self"] "Number.good" (defScope s_Number_good) fa cdv A outer s H E) [] (fun _ _ _ _ => False) (defBody s_Number_good) (f_Number_good) :=
  (pss_one' (ps1_ret (pq_cmp (opd_ne hr) (pq_fld T.ce (pq_var 0 (pv 0))) (pq_str "") (nomark _))))
theorem ok_Exact_good_at (T : Tx P w K mg base) : OkFM P w K mg base "Exact" "good" 1 1 [] r_Exact_good := by
  obtain ⟨fd, F⟩ := T.d_Exact_good
  exact ⟨_, fd, _, [], [], fnf_def (ob := []) F sc_Exact_good rfl (fun cdv A outer s H E hr => pss_Exact_good T hr) (fun _ _ _ h => h), F.bindsN (fun _ _ _ _ _ _ us hl => match us, hl with | [_], _ => rfl), .nil, fun _ => ⟨rfl, rfl⟩, T.c_Exact, T.h_Exact_good⟩
theorem ok_Number_good_at (T : Tx P w K mg base) : OkFM P w K mg base "Number" "good" 1 1 [] r_Number_good := by
  obtain ⟨fd, F⟩ := T.d_Number_good
  exact ⟨_, fd, _, [], [], fnf_def (ob := []) F sc_Number_good rfl (fun cdv A outer s H E hr => pss_Number_good T hr) (fun _ _ _ h => h), F.bindsN (fun _ _ _ _ _ _ us hl => match us, hl with | [_], _ => rfl), .nil, fun _ => ⟨rfl, rfl⟩, T.c_Number, T.h_Number_good⟩
theorem mt_good_Exact_Number_Value_ok (T : Tx P w K mg base) : ∀ c run, mt_good_Exact_Number_Value c = some run → OkFM P w K mg base c "good" 1 1 [] run := tbl_ok (List.forall_mem_cons.mpr ⟨(ok_Exact_good_at T).mono (by decide), (List.forall_mem_cons.mpr ⟨(ok_Number_good_at T).mono (by decide), (List.forall_mem_cons.mpr ⟨(ok_Value_good_at T).mono (by decide), (fun z hz => nomatch hz)⟩)⟩)⟩)
theorem sc_FieldRow_fed : FnScope ["self", "sign"] ["self", "sign"] (defScope s_FieldRow_fed) := ⟨rfl, rfl, rfl, by decide +kernel, rfl, by decide +kernel, by decide +kernel⟩
theorem pss_FieldRow_fed (T : Tx P w K mg base) {fa : Addr} {cdv : Value} {A : Around} {outer : List Env} {s : Shared} {H : Hp} {E : XK} (hr : Room 3 (A.deeper (envOfC "FieldRow.fed" (defScope s_FieldRow_fed) s.heap.objs.size fa cdv))) :
    PSS (cxOf (L2.CX P w) P w K mg base ["self", "sign"] "FieldRow.fed" (defScope s_FieldRow_fed) fa cdv A outer s H E) [0] (fun cls dx _ H' => E cls dx H') (defBody s_FieldRow_fed) (f_FieldRow_fed) :=
  (pss_cons' (ps1_if (pb_cmp opd_gt (pq_fld T.ce (pq_fld T.ce (pq_var 0 (pv 0)))) pq_int (nomark _)) (pss_one' (ps1_retX (px_methQ T.ce (mt_fed_RowEnd_ok T) (pp_fld (pp_var (pv 0))) (hr.mono (by decide)) takes_cx (paq_cons (pq_var 1 (pv 1)) paq_nil)))) pss_nil')
      (pss_cons' (ps1_if (pb_cmp opd_isnot (pq_fld T.ce (pq_var 0 (pv 0))) pq_non (nomark _)) (pss_cons' (ps1_if (PWB.pb (pwb_and (pb_val (pq_methF0 (mt_good_Exact_Number_Value_ok T) (pq_fld T.ce (pq_var 0 (pv 0))) (hr.mono (by decide)))) (pw1_and (pb_cmp (opd_eq hr) (pq_var 1 (pv 1)) (pq_str ";") (nomark _))))) (pss_one' (ps1_retX (px_methQ T.ce (mt_fed_RowEnd_ok T) (pp_fld (pp_var (pv 0))) (hr.mono (by decide)) takes_cx (paq_cons (pq_var 1 (pv 1)) paq_nil)))) pss_nil')
      (pss_one' (ps1_retX (px_methQ T.ce (mt_fed_Exact_Number_Value_ok T) (pp_fld (pp_var (pv 0))) (hr.mono (by decide)) takes_cx (paq_cons (pq_var 1 (pv 1)) paq_nil))))) pss_nil')
      (pss_cons' (ps1_if (pb_cmp opd_gt (pq_fld T.ce (pq_fld T.ce (pq_var 0 (pv 0)))) pq_int (nomark _)) (pss_cons' (ps1_ifX (ptx_not (ptx_val (px_methQ T.ce (mt_fed_Exact_ok T) (pp_fld (pp_var (pv 0))) (hr.mono (by decide)) takes_cx (paq_cons (pq_var 1 (pv 1)) paq_nil)))) (pss_one' (ps1_ret pq_bl)) pss_nil')
      (pss_cons' (ps1_fldX T.ce (pp_var (pv 0)) (px_methG0 (mt_value_for_FieldRow_ok T) (pq_var 0 (pv 0)) (hr.mono (by decide))))
      (pss_one' (ps1_ret pq_bl)))) pss_nil')
      (pss_cons' (ps1_if (PWB.pb (pwb_and (pb_cmp (opd_eq hr) (pq_var 1 (pv 1)) (pq_str ";") (nomark _)) (pw1_and (pb_cmp (opd_eq hr) (pq_methF0 (mt_told_Name_ok T) (pq_fld T.ce (pq_var 0 (pv 0))) (hr.mono (by decide))) (pq_str "") (nomark _))))) (pss_one' (ps1_retX (px_methQ T.ce (mt_fed_RowEnd_ok T) (pp_fld (pp_var (pv 0))) (hr.mono (by decide)) takes_cx (paq_cons (pq_var 1 (pv 1)) paq_nil)))) pss_nil')
      (pss_cons' (ps1_if (PWB.pb (pwb_and (pb_cmp (opd_eq hr) (pq_var 1 (pv 1)) (pq_str ":") (nomark _)) (pw1_and (pb_val (pq_methF0 (mt_good_Name_ok T) (pq_fld T.ce (pq_var 0 (pv 0))) (hr.mono (by decide))))))) (pss_one' (ps1_retX (px_methQ T.ce (mt_fed_Exact_ok T) (pp_fld (pp_var (pv 0))) (hr.mono (by decide)) takes_cx (paq_cons (pq_var 1 (pv 1)) paq_nil)))) pss_nil')
      (pss_one' (ps1_retX (px_methQ T.ce (mt_fed_Name_ok T) (pp_fld (pp_var (pv 0))) (hr.mono (by decide)) takes_cx (paq_cons (pq_var 1 (pv 1)) paq_nil)))))))))
theorem ok_FieldRow_fed_at (T : Tx P w K mg base) : OkM P w K mg base "FieldRow" "fed" 4 2 [] r_FieldRow_fed := by
  obtain ⟨fd, F⟩ := T.d_FieldRow_fed
  exact ⟨_, fd, _, [], [], fnx_def F sc_FieldRow_fed rfl (ks := [true, false]) (ob := [0]) (hob_of rfl) (fun cdv A outer s H E hr => pss_FieldRow_fed T hr) (fun _ _ _ h => h), F.bindsN (fun _ _ _ _ _ _ us hl => match us, hl with | [_, _], _ => rfl), .nil, fun _ => ⟨rfl, rfl⟩, T.c_FieldRow, T.h_FieldRow_fed⟩
theorem mt_fed_FieldRow_ok (T : Tx P w K mg base) : ∀ c run, mt_fed_FieldRow c = some run → OkM P w K mg base c "fed" 4 2 [] run := tbl_ok (List.forall_mem_cons.mpr ⟨(ok_FieldRow_fed_at T).mono (by decide), (fun z hz => nomatch hz)⟩)
theorem sc_Fields_fed : FnScope ["self", "sign"] ["self", "sign"] (defScope s_Fields_fed) := ⟨rfl, rfl, rfl, by decide +kernel, rfl, by decide +kernel, by decide +kernel⟩
theorem pss_Fields_fed (T : Tx P w K mg base) {fa : Addr} {cdv : Value} {A : Around} {outer : List Env} {s : Shared} {H : Hp} {E : XK} (hr : Room 6 (A.deeper (envOfC "Fields.fed" (defScope s_Fields_fed) s.heap.objs.size fa cdv))) :
    PSS (cxOf (L2.CX P w) P w K mg base ["self", "sign"] "Fields.fed" (defScope s_Fields_fed) fa cdv A outer s H E) [0] (fun cls dx _ H' => E cls dx H') (defBody s_Fields_fed) (f_Fields_fed) :=
  (pss_cons' (ps1_ifX (PWX.pt (pwx_or (ptx_b (pb_val (pq_fld T.ce (pq_var 0 (pv 0))))) (pwx_or1 (ptx_not (ptx_val (px_methQ T.ce (mt_fed_FieldRow_ok T) (pp_fld (pp_var (pv 0))) (hr.mono (by decide)) takes_cx (paq_cons (pq_var 1 (pv 1)) paq_nil))))))) (pss_one' (ps1_ret pq_bl)) pss_nil')
      (pss_cons' (ps1_if (pb_val (pq_methF0 (mt_whole_FieldRow_ok T) (pq_fld T.ce (pq_var 0 (pv 0))) (hr.mono (by decide)))) (pss_one' (ps1_exX (px_methS0 (mt_next_row_Fields_ok T) (pv 0) (hr.mono (by decide)) takes_cx))) pss_nil')
      (pss_one' (ps1_ret pq_bl))))
theorem ok_Fields_fed_at (T : Tx P w K mg base) : OkM P w K mg base "Fields" "fed" 7 2 [] r_Fields_fed := by
  obtain ⟨fd, F⟩ := T.d_Fields_fed
  exact ⟨_, fd, _, [], [], fnx_def F sc_Fields_fed rfl (ks := [true, false]) (ob := [0]) (hob_of rfl) (fun cdv A outer s H E hr => pss_Fields_fed T hr) (fun _ _ _ h => h), F.bindsN (fun _ _ _ _ _ _ us hl => match us, hl with | [_, _], _ => rfl), .nil, fun _ => ⟨rfl, rfl⟩, T.c_Fields, T.h_Fields_fed⟩
theorem mt_fed_Fields_ok (T : Tx P w K mg base) : ∀ c run, mt_fed_Fields c = some run → OkM P w K mg base c "fed" 7 2 [] run := tbl_ok (List.forall_mem_cons.mpr ⟨(ok_Fields_fed_at T).mono (by decide), (fun z hz => nomatch hz)⟩)
theorem sc__law_figures : FnScope ["_law_text", "_law_most", "_law_sign_here"] ["_law_text", "_law_most"] (defScope s__law_figures) := ⟨rfl, rfl, rfl, by decide +kernel, rfl, by decide +kernel, by decide +kernel⟩
theorem pss__law_figures (T : Tx P w K mg base) {fa : Addr} {cdv : Value} {A : Around} {outer : List Env} {s : Shared} {H : Hp} {E : XK} (hr : Room 0 (A.deeper (envOfC "_law_figures" (defScope s__law_figures) s.heap.objs.size fa cdv))) :
    PSS (cxOf (L2.CX P w) P w K mg base ["_law_text", "_law_most", "_law_sign_here"] "_law_figures" (defScope s__law_figures) fa cdv A outer s H E) [] (fun _ _ _ _ => False) (defBody s__law_figures) (f__law_figures) :=
  (pss_cons' (ps1_if (PWB.pb (pwb_or (pb_cmp (opd_ne hr) (PN.pq (pn_lc (own := [("_law_sign_here", 2)]) rfl sc__law_figures.nd (piq_any (pq_var 0 (pv 0))) (blkOk_by (own := [("_law_sign_here", 2)]) (by kernel_rfl)) (fun _ _ _ _ _ => (pgd_name (vs := [2]) (pg_name (i := 2) sc__law_figures.nd rfl (by first | exact Or.inl rfl | exact Or.inr rfl)))) (fun _ _ _ _ _ => (ptsb_one (pb_cmp opd_notin (pq_var 2 (pv 2)) (pq_str "0123456789") (by rfl)))) (fun _ _ _ _ _ => (pq_var 2 (pv 2))))) (PN.pq (pn_lst paq_nil)) (nomark _)) (pw1_or (pb_cmp opd_gt (pq_callB cd_len T.b_len (by decide +kernel) (paq_cons (pq_var 0 (pv 0)) paq_nil)) pq_int (nomark _))))) (pss_one' (ps1_ret pq_bl)) pss_nil')
      (pss_cons' (ps1_if (PWB.pb (pwb_and (pb_cmp opd_gt (pq_callB cd_len T.b_len (by decide +kernel) (paq_cons (pq_var 0 (pv 0)) paq_nil)) pq_int (nomark _)) (pw1_and (pb_cmp (opd_eq hr) (pq_ix (pq_var 0 (pv 0)) pq_int) (pq_str "0") (nomark _))))) (pss_one' (ps1_ret pq_bl)) pss_nil')
      (pss_one' (ps1_ret (pq_or (pq_cmp (opd_eq hr) (pq_var 0 (pv 0)) (pq_str "") (nomark _)) (pq_one (pq_cmp opd_le (pq_callTy cd_int T.b_int (by decide +kernel) (paq_cons (pq_var 0 (pv 0)) paq_nil)) (pq_var 1 (pv 1)) (nomark _))))))))
theorem ok__law_figures (T : Tx P w K mg base) : OkQ P w K mg base "_law_figures" 1 2 [] r__law_figures := by
  obtain ⟨fd, F⟩ := T.d__law_figures
  exact ⟨_, fd, _, [], [], fnq_def F sc__law_figures rfl (fun cdv A outer s H E hr => pss__law_figures T hr) (fun _ _ h => h), F.bindsN (fun _ _ _ _ _ _ us hl => match us, hl with | [_, _], _ => rfl), .nil, fun _ => ⟨rfl, rfl⟩, rfl, T.m__law_figures, F.kp⟩
theorem sc__law_open_value : FnScope ["_law_name", "_law_text", "_law_book", "_law_ends"] ["_law_name", "_law_text", "_law_book", "_law_ends"] (defScope s__law_open_value) := ⟨rfl, rfl, rfl, by decide +kernel, rfl, by decide +kernel, by decide +kernel⟩
theorem pss__law_open_value (T : Tx P w K mg base) {fa : Addr} {cdv : Value} {A : Around} {outer : List Env} {s : Shared} {H : Hp} {E : XK} (hr : Room 1 (A.deeper (envOfC "_law_open_value" (defScope s__law_open_value) s.heap.objs.size fa cdv))) :
    PSS (cxOf (L2.CX P w) P w K mg base ["_law_name", "_law_text", "_law_book", "_law_ends"] "_law_open_value" (defScope s__law_open_value) fa cdv A outer s H E) [] (fun _ _ _ _ => False) (defBody s__law_open_value) (f__law_open_value) :=
  (pss_cons' (ps1_if (PWB.pb (pwb_and (pb_cmp opd_in (pq_var 0 (pv 0)) (pq_var 3 (pv 3)) (by rfl)) (pw1_and (pb_cmp (opd_eq hr) (pq_var 0 (pv 0)) (pq_str "length") (nomark _))))) (pss_one' (ps1_ret (pq_call (ok__law_figures T) (hr.mono (by decide)) (paq_cons (pq_var 1 (pv 1)) (paq_cons (pq_ix (pq_var 2 (pv 2)) pq_int) paq_nil))))) pss_nil')
      (pss_cons' (ps1_if (pb_cmp opd_in (pq_var 0 (pv 0)) (pq_var 3 (pv 3)) (by rfl)) (pss_one' (ps1_ret (pq_cmp (opd_eq hr) (pq_sl (pq_str "yes") poq_none (poq_some (pq_callB cd_len T.b_len (by decide +kernel) (paq_cons (pq_var 1 (pv 1)) paq_nil)))) (pq_var 1 (pv 1)) (nomark _)))) pss_nil')
      (pss_cons' (ps1_if (PWB.pb (pwb_or (pb_cmp opd_gt (pq_callB cd_len T.b_len (by decide +kernel) (paq_cons (pq_var 1 (pv 1)) paq_nil)) (pq_ix (pq_var 2 (pv 2)) pq_int) (nomark _)) (pwb_or (pb_cmp (opd_eq hr) (pq_sl (pq_var 1 (pv 1)) poq_none (poq_some pq_int)) (pq_str " ") (nomark _)) (pwb_or (pb_cmp opd_in (pq_str "\n") (pq_var 1 (pv 1)) (by rfl)) (pw1_or (pb_cmp opd_in (pq_str ";") (pq_var 1 (pv 1)) (by rfl))))))) (pss_one' (ps1_ret pq_bl)) pss_nil')
      (pss_one' (ps1_ret (pq_or (pq_cmp (opd_ne hr) (pq_sl (pq_var 1 (pv 1)) (poq_some (pq_neg pq_int)) poq_none) (pq_str " ") (nomark _)) (pq_one (pq_cmp opd_lt (pq_callB cd_len T.b_len (by decide +kernel) (paq_cons (pq_var 1 (pv 1)) paq_nil)) (pq_ix (pq_var 2 (pv 2)) pq_int) (nomark _)))))))))
theorem ok__law_open_value (T : Tx P w K mg base) : OkQ P w K mg base "_law_open_value" 2 4 [] r__law_open_value := by
  obtain ⟨fd, F⟩ := T.d__law_open_value
  exact ⟨_, fd, _, [], [], fnq_def F sc__law_open_value rfl (fun cdv A outer s H E hr => pss__law_open_value T hr) (fun _ _ h => h), F.bindsN (fun _ _ _ _ _ _ us hl => match us, hl with | [_, _, _, _], _ => rfl), .nil, fun _ => ⟨rfl, rfl⟩, rfl, T.m__law_open_value, F.kp⟩
theorem sc__law_good_name : FnScope ["_law_text", "_law_book", "_law_room", "_law_ends", "_law_sign_here"] ["_law_text", "_law_book", "_law_room", "_law_ends"] (defScope s__law_good_name) := ⟨rfl, rfl, rfl, by decide +kernel, rfl, by decide +kernel, by decide +kernel⟩
theorem pss__law_good_name (T : Tx P w K mg base) {fa : Addr} {cdv : Value} {A : Around} {outer : List Env} {s : Shared} {H : Hp} {E : XK} (hr : Room 0 (A.deeper (envOfC "_law_good_name" (defScope s__law_good_name) s.heap.objs.size fa cdv))) :
    PSS (cxOf (L2.CX P w) P w K mg base ["_law_text", "_law_book", "_law_room", "_law_ends", "_law_sign_here"] "_law_good_name" (defScope s__law_good_name) fa cdv A outer s H E) [] (fun _ _ _ _ => False) (defBody s__law_good_name) (f__law_good_name) :=
  (pss_cons' (ps1_if (pb_cmp opd_in (pq_var 0 (pv 0)) (pq_var 3 (pv 3)) (by rfl)) (pss_one' (ps1_ret pq_bl)) pss_nil')
      (pss_cons' (ps1_if (PWB.pb (pwb_or (pb_cmp (opd_eq hr) (pq_var 2 (pv 2)) pq_int (nomark _)) (pwb_or (pb_not (pb_chain opd_lt opd_le pq_int (pq_callB cd_len T.b_len (by decide +kernel) (paq_cons (pq_var 0 (pv 0)) paq_nil)) (pq_ix (pq_var 1 (pv 1)) pq_int))) (pw1_or (pb_cmp opd_in (pq_var 0 (pv 0)) (PN.pq (pn_lst (paq_cons (pq_str "length") (paq_cons (pq_str "pieces") (paq_cons (pq_str "parts") (paq_cons (pq_str "rest") paq_nil)))))) (by rfl)))))) (pss_one' (ps1_ret pq_bl)) pss_nil')
      (pss_one' (ps1_ret (pq_cmp (opd_eq hr) (PN.pq (pn_lc (own := [("_law_sign_here", 4)]) rfl sc__law_good_name.nd (piq_any (pq_var 0 (pv 0))) (blkOk_by (own := [("_law_sign_here", 4)]) (by kernel_rfl)) (fun _ _ _ _ _ => (pgd_name (vs := [4]) (pg_name (i := 4) sc__law_good_name.nd rfl (by first | exact Or.inl rfl | exact Or.inr rfl)))) (fun _ _ _ _ _ => (ptsb_one (pb_not (pb_chain opd_le opd_le (pq_str "a") (pq_var 4 (pv 4)) (pq_str "z"))))) (fun _ _ _ _ _ => (pq_var 4 (pv 4))))) (PN.pq (pn_lst paq_nil)) (nomark _))))))
theorem ok__law_good_name (T : Tx P w K mg base) : OkQ P w K mg base "_law_good_name" 1 4 [] r__law_good_name := by
  obtain ⟨fd, F⟩ := T.d__law_good_name
  exact ⟨_, fd, _, [], [], fnq_def F sc__law_good_name rfl (fun cdv A outer s H E hr => pss__law_good_name T hr) (fun _ _ h => h), F.bindsN (fun _ _ _ _ _ _ us hl => match us, hl with | [_, _, _, _], _ => rfl), .nil, fun _ => ⟨rfl, rfl⟩, rfl, T.m__law_good_name, F.kp⟩
theorem sc__law_open_name : FnScope ["_law_text", "_law_book", "_law_room", "_law_ends", "_law_end", "_law_sign_here"] ["_law_text", "_law_book", "_law_room", "_law_ends"] (defScope s__law_open_name) := ⟨rfl, rfl, rfl, by decide +kernel, rfl, by decide +kernel, by decide +kernel⟩
theorem pss__law_open_name (T : Tx P w K mg base) {fa : Addr} {cdv : Value} {A : Around} {outer : List Env} {s : Shared} {H : Hp} {E : XK} (hr : Room 1 (A.deeper (envOfC "_law_open_name" (defScope s__law_open_name) s.heap.objs.size fa cdv))) :
    PSS (cxOf (L2.CX P w) P w K mg base ["_law_text", "_law_book", "_law_room", "_law_ends", "_law_end", "_law_sign_here"] "_law_open_name" (defScope s__law_open_name) fa cdv A outer s H E) [] (fun _ _ _ _ => False) (defBody s__law_open_name) (f__law_open_name) :=
  (pss_cons' (ps1_if (pb_cmp (opd_ne hr) (PN.pq (pn_lc (own := [("_law_end", 4)]) rfl sc__law_open_name.nd (piq_any (pq_var 3 (pv 3))) (blkOk_by (own := [("_law_end", 4)]) (by kernel_rfl)) (fun _ _ _ _ _ => (pgd_name (vs := [4]) (pg_name (i := 4) sc__law_open_name.nd rfl (by first | exact Or.inl rfl | exact Or.inr rfl)))) (fun _ _ _ _ _ => (ptsb_one (pb_cmp (opd_eq hr) (pq_sl (pq_var 4 (pv 4)) poq_none (poq_some (pq_callB cd_len T.b_len (by decide +kernel) (paq_cons (pq_var 0 (pv 0)) paq_nil)))) (pq_var 0 (pv 0)) (nomark _)))) (fun _ _ _ _ _ => (pq_var 4 (pv 4))))) (PN.pq (pn_lst paq_nil)) (nomark _)) (pss_one' (ps1_ret pq_bl)) pss_nil')
      (pss_cons' (ps1_if (pb_val (pq_call (ok__law_good_name T) (hr.mono (by decide)) (paq_cons (pq_var 0 (pv 0)) (paq_cons (pq_var 1 (pv 1)) (paq_cons (pq_var 2 (pv 2)) (paq_cons (pq_var 3 (pv 3)) paq_nil)))))) (pss_one' (ps1_ret pq_bl)) pss_nil')
      (pss_one' (ps1_ret (pq_and (pq_cmp opd_gt (pq_var 2 (pv 2)) pq_int (nomark _)) (pq_and (pq_cmp opd_lt (pq_callB cd_len T.b_len (by decide +kernel) (paq_cons (pq_var 0 (pv 0)) paq_nil)) (pq_ix (pq_var 1 (pv 1)) pq_int) (nomark _)) (pq_one (pq_cmp (opd_eq hr) (PN.pq (pn_lc (own := [("_law_sign_here", 5)]) rfl sc__law_open_name.nd (piq_any (pq_var 0 (pv 0))) (blkOk_by (own := [("_law_sign_here", 5)]) (by kernel_rfl)) (fun _ _ _ _ _ => (pgd_name (vs := [5]) (pg_name (i := 5) sc__law_open_name.nd rfl (by first | exact Or.inl rfl | exact Or.inr rfl)))) (fun _ _ _ _ _ => (ptsb_one (pb_not (pb_chain opd_le opd_le (pq_str "a") (pq_var 5 (pv 5)) (pq_str "z"))))) (fun _ _ _ _ _ => (pq_var 5 (pv 5))))) (PN.pq (pn_lst paq_nil)) (nomark _)))))))))
theorem ok__law_open_name (T : Tx P w K mg base) : OkQ P w K mg base "_law_open_name" 2 4 [] r__law_open_name := by
  obtain ⟨fd, F⟩ := T.d__law_open_name
  exact ⟨_, fd, _, [], [], fnq_def F sc__law_open_name rfl (fun cdv A outer s H E hr => pss__law_open_name T hr) (fun _ _ h => h), F.bindsN (fun _ _ _ _ _ _ us hl => match us, hl with | [_, _, _, _], _ => rfl), .nil, fun _ => ⟨rfl, rfl⟩, rfl, T.m__law_open_name, F.kp⟩
theorem sc__law_open_row : FnScope ["_law_row", "_law_book", "_law_room", "_law_ends", "_law_name", "_law_colon", "_law_rest"] ["_law_row", "_law_book", "_law_room", "_law_ends"] (defScope s__law_open_row) := ⟨rfl, rfl, rfl, by decide +kernel, rfl, by decide +kernel, by decide +kernel⟩
theorem pss__law_open_row (T : Tx P w K mg base) {fa : Addr} {cdv : Value} {A : Around} {outer : List Env} {s : Shared} {H : Hp} {E : XK} (hr : Room 2 (A.deeper (envOfC "_law_open_row" (defScope s__law_open_row) s.heap.objs.size fa cdv))) :
    PSS (cxOf (L2.CX P w) P w K mg base ["_law_row", "_law_book", "_law_room", "_law_ends", "_law_name", "_law_colon", "_law_rest"] "_law_open_row" (defScope s__law_open_row) fa cdv A outer s H E) [] (fun _ _ _ _ => False) (defBody s__law_open_row) (f__law_open_row) :=
  (pss_cons' (ps1_setT (pq_m1 mtd_partition PySem.F.slot_str_partition PySem.F.type_str_partition (pq_var 0 (pv 0)) (pq_str ":")) (pgd_tup (vs := [4, 5, 6]) (is := [4, 5, 6]) rfl (pgs_cons (pg_name (i := 4) sc__law_open_row.nd rfl (by first | exact Or.inl rfl | exact Or.inr rfl)) (pgs_cons (pg_name (i := 5) sc__law_open_row.nd rfl (by first | exact Or.inl rfl | exact Or.inr rfl)) (pgs_cons (pg_name (i := 6) sc__law_open_row.nd rfl (by first | exact Or.inl rfl | exact Or.inr rfl)) pgs_nil))) (by decide)))
      (pss_cons' (ps1_if (pb_cmp (opd_eq hr) (pq_var 5 (pv 5)) (pq_str "") (nomark _)) (pss_one' (ps1_ret (pq_or (pq_cmp (opd_eq hr) (pq_var 0 (pv 0)) (pq_str "") (nomark _)) (pq_one (pq_call (ok__law_open_name T) (hr.mono (by decide)) (paq_cons (pq_var 4 (pv 4)) (paq_cons (pq_var 1 (pv 1)) (paq_cons (pq_var 2 (pv 2)) (paq_cons (pq_var 3 (pv 3)) paq_nil))))))))) pss_nil')
      (pss_cons' (ps1_if (PWB.pb (pwb_or (pb_not (pb_val (pq_call (ok__law_good_name T) (hr.mono (by decide)) (paq_cons (pq_var 4 (pv 4)) (paq_cons (pq_var 1 (pv 1)) (paq_cons (pq_var 2 (pv 2)) (paq_cons (pq_var 3 (pv 3)) paq_nil))))))) (pw1_or (pb_cmp (opd_ne hr) (pq_sl (pq_var 6 (pv 6)) poq_none (poq_some pq_int)) (pq_sl (pq_str " ") poq_none (poq_some (pq_callB cd_len T.b_len (by decide +kernel) (paq_cons (pq_var 6 (pv 6)) paq_nil)))) (nomark _))))) (pss_one' (ps1_ret pq_bl)) pss_nil')
      (pss_one' (ps1_ret (pq_call (ok__law_open_value T) (hr.mono (by decide)) (paq_cons (pq_var 4 (pv 4)) (paq_cons (pq_sl (pq_var 6 (pv 6)) (poq_some pq_int) poq_none) (paq_cons (pq_var 1 (pv 1)) (paq_cons (pq_var 3 (pv 3)) paq_nil))))))))))
theorem ok__law_open_row (T : Tx P w K mg base) : OkQ P w K mg base "_law_open_row" 3 4 [] r__law_open_row := by
  obtain ⟨fd, F⟩ := T.d__law_open_row
  exact ⟨_, fd, _, [], [], fnq_def F sc__law_open_row rfl (fun cdv A outer s H E hr => pss__law_open_row T hr) (fun _ _ h => h), F.bindsN (fun _ _ _ _ _ _ us hl => match us, hl with | [_, _, _, _], _ => rfl), .nil, fun _ => ⟨rfl, rfl⟩, rfl, T.m__law_open_row, F.kp⟩
theorem sc__law_good_value : FnScope ["_law_name", "_law_text", "_law_book", "_law_ends"] ["_law_name", "_law_text", "_law_book", "_law_ends"] (defScope s__law_good_value) := ⟨rfl, rfl, rfl, by decide +kernel, rfl, by decide +kernel, by decide +kernel⟩
theorem pss__law_good_value (T : Tx P w K mg base) {fa : Addr} {cdv : Value} {A : Around} {outer : List Env} {s : Shared} {H : Hp} {E : XK} (hr : Room 2 (A.deeper (envOfC "_law_good_value" (defScope s__law_good_value) s.heap.objs.size fa cdv))) :
    PSS (cxOf (L2.CX P w) P w K mg base ["_law_name", "_law_text", "_law_book", "_law_ends"] "_law_good_value" (defScope s__law_good_value) fa cdv A outer s H E) [] (fun _ _ _ _ => False) (defBody s__law_good_value) (f__law_good_value) :=
  (pss_cons' (ps1_if (PWB.pb (pwb_or (pb_cmp (opd_eq hr) (pq_var 1 (pv 1)) (pq_str "") (nomark _)) (pw1_or (pb_not (pb_val (pq_call (ok__law_open_value T) (hr.mono (by decide)) (paq_cons (pq_var 0 (pv 0)) (paq_cons (pq_var 1 (pv 1)) (paq_cons (pq_var 2 (pv 2)) (paq_cons (pq_var 3 (pv 3)) paq_nil)))))))))) (pss_one' (ps1_ret pq_bl)) pss_nil')
      (pss_cons' (ps1_if (PWB.pb (pwb_and (pb_cmp opd_in (pq_var 0 (pv 0)) (pq_var 3 (pv 3)) (by rfl)) (pw1_and (pb_cmp (opd_ne hr) (pq_var 0 (pv 0)) (pq_str "length") (nomark _))))) (pss_one' (ps1_ret (pq_cmp (opd_eq hr) (pq_var 1 (pv 1)) (pq_str "yes") (nomark _)))) pss_nil')
      (pss_one' (ps1_ret (pq_cmp (opd_ne hr) (pq_ix (pq_var 1 (pv 1)) (pq_neg pq_int)) (pq_str " ") (nomark _))))))
theorem ok__law_good_value (T : Tx P w K mg base) : OkQ P w K mg base "_law_good_value" 3 4 [] r__law_good_value := by
  obtain ⟨fd, F⟩ := T.d__law_good_value
  exact ⟨_, fd, _, [], [], fnq_def F sc__law_good_value rfl (fun cdv A outer s H E hr => pss__law_good_value T hr) (fun _ _ h => h), F.bindsN (fun _ _ _ _ _ _ us hl => match us, hl with | [_, _, _, _], _ => rfl), .nil, fun _ => ⟨rfl, rfl⟩, rfl, T.m__law_good_value, F.kp⟩
theorem sc__law_whole_row : FnScope ["_law_row", "_law_book", "_law_room", "_law_ends", "_law_name", "_law_colon", "_law_value"] ["_law_row", "_law_book", "_law_room", "_law_ends"] (defScope s__law_whole_row) := ⟨rfl, rfl, rfl, by decide +kernel, rfl, by decide +kernel, by decide +kernel⟩
theorem pss__law_whole_row (T : Tx P w K mg base) {fa : Addr} {cdv : Value} {A : Around} {outer : List Env} {s : Shared} {H : Hp} {E : XK} (hr : Room 3 (A.deeper (envOfC "_law_whole_row" (defScope s__law_whole_row) s.heap.objs.size fa cdv))) :
    PSS (cxOf (L2.CX P w) P w K mg base ["_law_row", "_law_book", "_law_room", "_law_ends", "_law_name", "_law_colon", "_law_value"] "_law_whole_row" (defScope s__law_whole_row) fa cdv A outer s H E) [] (fun _ _ _ _ => False) (defBody s__law_whole_row) (f__law_whole_row) :=
  (pss_cons' (ps1_setT (pq_m1 mtd_partition PySem.F.slot_str_partition PySem.F.type_str_partition (pq_var 0 (pv 0)) (pq_str ": ")) (pgd_tup (vs := [4, 5, 6]) (is := [4, 5, 6]) rfl (pgs_cons (pg_name (i := 4) sc__law_whole_row.nd rfl (by first | exact Or.inl rfl | exact Or.inr rfl)) (pgs_cons (pg_name (i := 5) sc__law_whole_row.nd rfl (by first | exact Or.inl rfl | exact Or.inr rfl)) (pgs_cons (pg_name (i := 6) sc__law_whole_row.nd rfl (by first | exact Or.inl rfl | exact Or.inr rfl)) pgs_nil))) (by decide)))
      (pss_cons' (ps1_if (PWB.pb (pwb_or (pb_cmp (opd_eq hr) (pq_var 5 (pv 5)) (pq_str "") (nomark _)) (pw1_or (pb_not (pb_val (pq_call (ok__law_good_name T) (hr.mono (by decide)) (paq_cons (pq_var 4 (pv 4)) (paq_cons (pq_var 1 (pv 1)) (paq_cons (pq_var 2 (pv 2)) (paq_cons (pq_var 3 (pv 3)) paq_nil)))))))))) (pss_one' (ps1_ret pq_bl)) pss_nil')
      (pss_one' (ps1_ret (pq_call (ok__law_good_value T) (hr.mono (by decide)) (paq_cons (pq_var 4 (pv 4)) (paq_cons (pq_var 6 (pv 6)) (paq_cons (pq_var 1 (pv 1)) (paq_cons (pq_var 3 (pv 3)) paq_nil)))))))))
theorem ok__law_whole_row (T : Tx P w K mg base) : OkQ P w K mg base "_law_whole_row" 4 4 [] r__law_whole_row := by
  obtain ⟨fd, F⟩ := T.d__law_whole_row
  exact ⟨_, fd, _, [], [], fnq_def F sc__law_whole_row rfl (fun cdv A outer s H E hr => pss__law_whole_row T hr) (fun _ _ h => h), F.bindsN (fun _ _ _ _ _ _ us hl => match us, hl with | [_, _, _, _], _ => rfl), .nil, fun _ => ⟨rfl, rfl⟩, rfl, T.m__law_whole_row, F.kp⟩
theorem sc__law_hopeful : FnScope ["_law_text", "_law_book", "_law_room", "_law_ends", "_law_rows", "_law_k", "_law_row"] ["_law_text", "_law_book", "_law_room", "_law_ends"] (defScope s__law_hopeful) := ⟨rfl, rfl, rfl, by decide +kernel, rfl, by decide +kernel, by decide +kernel⟩
theorem pss__law_hopeful (T : Tx P w K mg base) {fa : Addr} {cdv : Value} {A : Around} {outer : List Env} {s : Shared} {H : Hp} {E : XK} (hr : Room 4 (A.deeper (envOfC "_law_hopeful" (defScope s__law_hopeful) s.heap.objs.size fa cdv))) :
    PSS (cxOf (L2.CX P w) P w K mg base ["_law_text", "_law_book", "_law_room", "_law_ends", "_law_rows", "_law_k", "_law_row"] "_law_hopeful" (defScope s__law_hopeful) fa cdv A outer s H E) [] (fun _ _ _ _ => False) (defBody s__law_hopeful) (f__law_hopeful) :=
  (pss_cons' (ps1_set (i := 4) sc__law_hopeful.nd rfl (by first | exact Or.inl rfl | exact Or.inr rfl) (pq_m1 mtd_split PySem.F.slot_str_split PySem.F.type_str_split (pq_var 0 (pv 0)) (pq_str ";")))
      (pss_cons' (ps1_for (passes_of rfl) rfl (pif_range1 (pq_op opd_sub (pq_callB cd_len T.b_len (by decide +kernel) (paq_cons (pq_var 4 (pv 4)) paq_nil)) pq_int) T.b_range) (pgd_name (vs := [5]) (pg_name (i := 5) sc__law_hopeful.nd rfl (by first | exact Or.inl rfl | exact Or.inr rfl))) (pss_wp [5, 6] (pss_cons' (ps1_set (i := 6) sc__law_hopeful.nd rfl (by first | exact Or.inl rfl | exact Or.inr rfl) (pq_ix (pq_var 4 (pv 4)) (pq_var 5 (pv 5))))
      (pss_cons' (ps1_if (pb_cmp opd_gt (pq_var 5 (pv 5)) pq_int (nomark _)) (pss_cons' (ps1_if (pb_cmp (opd_ne hr) (pq_sl (pq_var 6 (pv 6)) poq_none (poq_some pq_int)) (pq_str "\n") (nomark _)) (pss_one' (ps1_ret pq_bl)) pss_nil')
      (pss_one' (ps1_set (i := 6) sc__law_hopeful.nd rfl (by first | exact Or.inl rfl | exact Or.inr rfl) (pq_sl (pq_var 6 (pv 6)) (poq_some pq_int) poq_none)))) pss_nil')
      (pss_cons' (ps1_if (pb_cmp (opd_eq hr) (pq_var 6 (pv 6)) (pq_str "") (nomark _)) (pss_one' (ps1_ret (pq_and (pq_cmp (opd_eq hr) (pq_var 5 (pv 5)) (pq_op opd_sub (pq_callB cd_len T.b_len (by decide +kernel) (paq_cons (pq_var 4 (pv 4)) paq_nil)) pq_int) (nomark _)) (pq_one (pq_or (pq_cmp (opd_eq hr) (pq_ix (pq_var 4 (pv 4)) (pq_neg pq_int)) (pq_str "") (nomark _)) (pq_one (pq_cmp (opd_eq hr) (pq_ix (pq_var 4 (pv 4)) (pq_neg pq_int)) (pq_str "\n") (nomark _)))))))) pss_nil')
      (pss_cons' (ps1_if (pb_not (pb_val (pq_call (ok__law_whole_row T) (hr.mono (by decide)) (paq_cons (pq_var 6 (pv 6)) (paq_cons (pq_var 1 (pv 1)) (paq_cons (pq_var 2 (pv 2)) (paq_cons (pq_var 3 (pv 3)) paq_nil))))))) (pss_one' (ps1_ret pq_bl)) pss_nil')
      (pss_one' (ps1_if (pb_cmp opd_in (pq_ix (pq_m1 mtd_partition PySem.F.slot_str_partition PySem.F.type_str_partition (pq_var 6 (pv 6)) (pq_str ":")) pq_int) (pq_var 3 (pv 3)) (by rfl)) (pss_cons' (ps1_set (i := 2) sc__law_hopeful.nd rfl (by first | exact Or.inl rfl | exact Or.inr rfl) pq_int)
      (pss_one' (ps1_set (i := 3) sc__law_hopeful.nd rfl (by first | exact Or.inl rfl | exact Or.inr rfl) (pq_tup paq_nil)))) (pss_one' (ps1_set (i := 2) sc__law_hopeful.nd rfl (by first | exact Or.inl rfl | exact Or.inr rfl) (pq_op opd_sub (pq_var 2 (pv 2)) pq_int)))))))))))
      (pss_cons' (ps1_if (pb_cmp (opd_eq hr) (pq_callB cd_len T.b_len (by decide +kernel) (paq_cons (pq_var 4 (pv 4)) paq_nil)) pq_int (nomark _)) (pss_one' (ps1_ret (pq_call (ok__law_open_row T) (hr.mono (by decide)) (paq_cons (pq_var 0 (pv 0)) (paq_cons (pq_var 1 (pv 1)) (paq_cons (pq_var 2 (pv 2)) (paq_cons (pq_var 3 (pv 3)) paq_nil))))))) pss_nil')
      (pss_one' (ps1_ret (pq_or (pq_cmp (opd_eq hr) (pq_ix (pq_var 4 (pv 4)) (pq_neg pq_int)) (pq_str "") (nomark _)) (pq_one (pq_and (pq_cmp (opd_eq hr) (pq_ix (pq_ix (pq_var 4 (pv 4)) (pq_neg pq_int)) pq_int) (pq_str "\n") (nomark _)) (pq_one (pq_call (ok__law_open_row T) (hr.mono (by decide)) (paq_cons (pq_sl (pq_ix (pq_var 4 (pv 4)) (pq_neg pq_int)) (poq_some pq_int) poq_none) (paq_cons (pq_var 1 (pv 1)) (paq_cons (pq_var 2 (pv 2)) (paq_cons (pq_var 3 (pv 3)) paq_nil))))))))))))))
theorem ok__law_hopeful (T : Tx P w K mg base) : OkQ P w K mg base "_law_hopeful" 5 4 [] r__law_hopeful := by
  obtain ⟨fd, F⟩ := T.d__law_hopeful
  exact ⟨_, fd, _, [], [], fnq_def F sc__law_hopeful rfl (fun cdv A outer s H E hr => pss__law_hopeful T hr) (fun _ _ h => h), F.bindsN (fun _ _ _ _ _ _ us hl => match us, hl with | [_, _, _, _], _ => rfl), .nil, fun _ => ⟨rfl, rfl⟩, rfl, T.m__law_hopeful, F.kp⟩
theorem sc__law_finished : FnScope ["_law_text", "_law_book", "_law_room", "_law_ends", "_law_rows", "_law_sign_here"] ["_law_text", "_law_book", "_law_room", "_law_ends"] (defScope s__law_finished) := ⟨rfl, rfl, rfl, by decide +kernel, rfl, by decide +kernel, by decide +kernel⟩
theorem pss__law_finished (T : Tx P w K mg base) {fa : Addr} {cdv : Value} {A : Around} {outer : List Env} {s : Shared} {H : Hp} {E : XK} (hr : Room 7 (A.deeper (envOfC "_law_finished" (defScope s__law_finished) s.heap.objs.size fa cdv))) :
    PSS (cxOf (L2.CX P w) P w K mg base ["_law_text", "_law_book", "_law_room", "_law_ends", "_law_rows", "_law_sign_here"] "_law_finished" (defScope s__law_finished) fa cdv A outer s H E) [] (fun _ _ _ _ => False) (defBody s__law_finished) (f__law_finished) :=
  (pss_cons' (ps1_setX (i := 4) sc__law_finished.nd rfl (by first | exact Or.inl rfl | exact Or.inr rfl) (px_make (ok_Fields_make T) (hr.mono (by decide)) takes0 (pax_cons (px_q (pq_var 1 (pv 1))) (pax_cons (px_q (pq_var 2 (pv 2))) (pax_cons (px_q (pq_var 3 (pv 3))) pax_nil)))))
      (pss_cons' (ps1_for (passes_of rfl) rfl (pif_any (pq_var 0 (pv 0))) (pgd_name (vs := [5]) (pg_name (i := 5) sc__law_finished.nd rfl (by first | exact Or.inl rfl | exact Or.inr rfl))) (pss_wp [5] (pss_one' (ps1_ifX (ptx_cmp opd_isnot (px_methS (mt_fed_Fields_ok T) (pv 4) (hr.mono (by decide)) takes0 (pax_cons (px_q (pq_var 5 (pv 5))) pax_nil)) (px_q pq_bl) (nomark _)) (pss_one' (ps1_ret pq_bl)) pss_nil'))))
      (pss_one' (ps1_ret (pq_cmp opd_is_ (pq_methF0 (mt_whole_Fields_ok T) (pq_var 4 (pv 4)) (hr.mono (by decide))) pq_bl (nomark _))))))
theorem ok__law_finished (T : Tx P w K mg base) : OkF P w K mg base "_law_finished" 8 4 [] r__law_finished := by
  obtain ⟨fd, F⟩ := T.d__law_finished
  exact ⟨_, fd, _, [], [], fnf_def (ob := []) F sc__law_finished rfl (fun cdv A outer s H E hr => pss__law_finished T hr) (fun _ _ _ h => h), F.bindsN (fun _ _ _ _ _ _ us hl => match us, hl with | [_, _, _, _], _ => rfl), .nil, fun _ => ⟨rfl, rfl⟩, T.m__law_finished, F.kp⟩
theorem sc_law : FnScope ["_law_script", "_law_first", "_law_xs", "_law_book", "_law_room", "_law_ends", "_law_plan_here", "_law_rows", "_law_text", "_law_cell", "_law_sign_here", "_law_due", "_law_ahead", "_law_found"] ["_law_script"] (defScope s_law) := ⟨rfl, rfl, rfl, by decide +kernel, rfl, by decide +kernel, by decide +kernel⟩
theorem pss_law (T : Tx P w K mg base) {fa : Addr} {cdv : Value} {A : Around} {outer : List Env} {s : Shared} {H : Hp} {E : XK} (hr : Room 8 (A.deeper (envOfC "law" (defScope s_law) s.heap.objs.size fa cdv))) :
    PSS (cxOf (L2.CX P w) P w K mg base ["_law_script", "_law_first", "_law_xs", "_law_book", "_law_room", "_law_ends", "_law_plan_here", "_law_rows", "_law_text", "_law_cell", "_law_sign_here", "_law_due", "_law_ahead", "_law_found"] "law" (defScope s_law) fa cdv A outer s H E) [] (fun _ _ _ _ => False) (defBody s_law) (f_law) :=
  (pss_cons' (ps1_set (i := 1) sc_law.nd rfl (by first | exact Or.inl rfl | exact Or.inr rfl) (pq_call (ok__law_cell_at T) (hr.mono (by decide)) (paq_cons (pq_var 0 (pv 0)) (paq_cons pq_int paq_nil))))
      (pss_cons' (ps1_set (i := 2) sc_law.nd rfl (by first | exact Or.inl rfl | exact Or.inr rfl) (pq_call (ok__law_stream T) (hr.mono (by decide)) (paq_cons (pq_call (ok__law_cell_at T) (hr.mono (by decide)) (paq_cons (pq_var 0 (pv 0)) (paq_cons pq_int paq_nil))) (paq_cons pq_int paq_nil))))
      (pss_cons' (ps1_set (i := 3) sc_law.nd rfl (by first | exact Or.inl rfl | exact Or.inr rfl) (pq_tup (paq_cons pq_int (paq_cons (pq_op opd_add pq_int (pq_op opd_mod (pq_ix (pq_var 2 (pv 2)) pq_int) pq_int)) (paq_cons (pq_op opd_add pq_int (pq_op opd_mod (pq_ix (pq_var 2 (pv 2)) pq_int) pq_int)) (paq_cons pq_int (paq_cons (pq_ix (PN.pq (pn_lst (paq_cons (pq_op opd_mod (pq_ix (pq_var 2 (pv 2)) pq_int) pq_int) (paq_cons pq_int paq_nil)))) (pq_op opd_mod (pq_var 1 (pv 1)) pq_int)) (paq_cons pq_int (paq_cons pq_int paq_nil)))))))))
      (pss_cons' (ps1_set (i := 4) sc_law.nd rfl (by first | exact Or.inl rfl | exact Or.inr rfl) (pq_op opd_mod (pq_op opd_fdiv (pq_var 1 (pv 1)) pq_int) pq_int))
      (pss_cons' (ps1_set (i := 5) sc_law.nd rfl (by first | exact Or.inl rfl | exact Or.inr rfl) (pq_ix (PN.pq (pn_lst (paq_cons (pq_tup (paq_cons (pq_str "length") (paq_cons (pq_str "pieces") (paq_cons (pq_str "parts") (paq_cons (pq_str "rest") paq_nil))))) (paq_cons (pq_tup (paq_cons (pq_str "length") (paq_cons (pq_str "pieces") (paq_cons (pq_str "parts") paq_nil)))) (paq_cons (pq_tup paq_nil) paq_nil))))) (pq_op opd_mod (pq_op opd_fdiv (pq_var 1 (pv 1)) pq_int) pq_int)))
      (pss_cons' (ps1_set (i := 6) sc_law.nd rfl (by first | exact Or.inl rfl | exact Or.inr rfl) (pq_call (ok__law_plan T) (hr.mono (by decide)) (paq_cons (pq_call (ok__law_cell_at T) (hr.mono (by decide)) (paq_cons (pq_var 0 (pv 0)) (paq_cons pq_int paq_nil))) paq_nil)))
      (pss_cons' (ps1_setX (i := 7) sc_law.nd rfl (by first | exact Or.inl rfl | exact Or.inr rfl) (px_make (ok_Fields_make T) (hr.mono (by decide)) takes0 (pax_cons (px_q (pq_var 3 (pv 3))) (pax_cons (px_q (pq_var 4 (pv 4))) (pax_cons (px_q (pq_var 5 (pv 5))) pax_nil)))))
      (pss_cons' (ps1_set (i := 8) sc_law.nd rfl (by first | exact Or.inl rfl | exact Or.inr rfl) (pq_str ""))
      (pss_cons' (ps1_for (passes_of rfl) rfl (pif_any (pq_sl (pq_var 0 (pv 0)) (poq_some pq_int) (poq_some pq_int))) (pgd_name (vs := [9]) (pg_name (i := 9) sc_law.nd rfl (by first | exact Or.inl rfl | exact Or.inr rfl))) (pss_wp [9, 10, 11, 12, 13] (pss_cons' (ps1_set (i := 10) sc_law.nd rfl (by first | exact Or.inl rfl | exact Or.inr rfl) (pq_call (ok__law_sign T) (hr.mono (by decide)) (paq_cons (pq_call (ok__law_stream T) (hr.mono (by decide)) (paq_cons (pq_var 9 (pv 9)) (paq_cons pq_int paq_nil))) (paq_cons (pq_var 8 (pv 8)) (paq_cons (pq_var 6 (pv 6)) paq_nil)))))
      (pss_cons' (ps1_set (i := 11) sc_law.nd rfl (by first | exact Or.inl rfl | exact Or.inr rfl) (pq_and (pq_not (pq_methF0 (mt_whole_Fields_ok T) (pq_var 7 (pv 7)) (hr.mono (by decide)))) (pq_one (pq_call (ok__law_hopeful T) (hr.mono (by decide)) (paq_cons (pq_op opd_add (pq_var 8 (pv 8)) (pq_var 10 (pv 10))) (paq_cons (pq_var 3 (pv 3)) (paq_cons (pq_var 4 (pv 4)) (paq_cons (pq_var 5 (pv 5)) paq_nil))))))))
      (pss_cons' (ps1_set (i := 12) sc_law.nd rfl (by first | exact Or.inl rfl | exact Or.inr rfl) (pq_callF (ok__law_told T) (hr.mono (by decide)) (paq_cons (pq_var 7 (pv 7)) paq_nil)))
      (pss_cons' (ps1_setX (i := 13) sc_law.nd rfl (by first | exact Or.inl rfl | exact Or.inr rfl) (px_methS (mt_fed_Fields_ok T) (pv 7) (hr.mono (by decide)) takes0 (pax_cons (px_q (pq_var 10 (pv 10))) pax_nil)))
      (pss_cons' (ps1_if (PWB.pb (pwb_or (pb_not (pb_val (pq_isi (pq_var 13 (pv 13)) T.b_isinstance T.b_bool (by decide +kernel)))) (pw1_or (pb_cmp (opd_ne hr) (pq_var 13 (pv 13)) (pq_var 11 (pv 11)) (nomark _))))) (pss_one' (ps1_ret pq_bl)) pss_nil')
      (pss_cons' (ps1_if (pb_val (pq_var 11 (pv 11))) (pss_one' (ps1_set (i := 8) sc_law.nd rfl (by first | exact Or.inl rfl | exact Or.inr rfl) (pq_op opd_add (pq_var 8 (pv 8)) (pq_var 10 (pv 10))))) (pss_one' (ps1_if (pb_cmp (opd_ne hr) (pq_callF (ok__law_told T) (hr.mono (by decide)) (paq_cons (pq_var 7 (pv 7)) paq_nil)) (pq_var 12 (pv 12)) (nomark _)) (pss_one' (ps1_ret pq_bl)) pss_nil')))
      (pss_one' (ps1_if (pb_not (pb_val (pq_callF (ok__law_finished T) (hr.mono (by decide)) (paq_cons (pq_op opd_add (pq_var 8 (pv 8)) (pq_methF0 (mt_awaited_Fields_ok T) (pq_var 7 (pv 7)) (hr.mono (by decide)))) (paq_cons (pq_var 3 (pv 3)) (paq_cons (pq_var 4 (pv 4)) (paq_cons (pq_var 5 (pv 5)) paq_nil))))))) (pss_one' (ps1_ret pq_bl)) pss_nil'))))))))))
      (pss_one' (ps1_ret pq_bl)))))))))))
theorem fn_law (T : Tx P w K mg base) {fd : FuncData} (F : FunD K "law" "law" (defArgs s_law) (defBody s_law) (defScope s_law) [] [] (He.ga K "law") fd) : FnOk P w K mg base (L2.CX P w) 9 (He.ga K "law") fd ["_law_script"] (spF K 1 r_law) :=
  fnf_def (ob := []) F sc_law rfl (fun cdv A outer s H E hr => pss_law T hr) fun _ _ _ h => h
end
def fn : List He.DefD := [D__law_cell_at, D__law_stream, D__law_plan, D__law_sign, D__law_told, D_is_small, D_is_plain, D__law_figures, D__law_open_value, D__law_good_name, D__law_open_name, D__law_open_row, D__law_good_value, D__law_whole_row, D__law_hopeful, D__law_finished, D_law, DM_Name_is_good, DM_Name_good, DM_Value_good, DM_Name_told, DM_FieldRow_is_end, DM_RowEnd_awaited, DM_Exact_awaited, DM_Number_awaited, DM_Value_awaited, DM_Name_awaited, DM_FieldRow_value_for, DM_FieldRow_awaited, DM_Fields_awaited, DM_Fields_room_left, DM_Fields_told_end, DM_Fields_told, DM_Fields_whole, DM_RowEnd_good, DM_Exact_told, DM_Number_told, DM_Value_told, DM_FieldRow_told, DM_FieldRow_number_begun, DM_Name_is_hopeful, DM_RowEnd_fed, DM_Exact_good, DM_Number_good, DM_Exact_fed, DM_Number_fed, DM_Value_fed, DM_Name_fed, DM_FieldRow_fed, DM_FieldRow_whole, DM_Fields_next_row, DM_Fields_fed, DM_Exact___init__, DM_FieldRow___init__, DM_Fields___init__, DM_Name___init__, DM_Number___init__, DM_RowEnd___init__, DM_Value___init__]
def fa : List He.Fa := [.free "any", .free "bool", .free "int", .free "isinstance", .free "len", .free "range", .free "tuple", .glo "END_NAMES", .str "FIGURES" "0123456789abcdef", .str "ROW_END" ";\n", .glo "_law_cell_at", .glo "_law_stream", .glo "_law_plan", .glo "_law_sign", .glo "_law_told", .glo "is_small", .glo "is_plain", .glo "_law_figures", .glo "_law_open_value", .glo "_law_good_name", .glo "_law_open_name", .glo "_law_open_row", .glo "_law_good_value", .glo "_law_whole_row", .glo "_law_hopeful", .glo "_law_finished", .glo "law", .cls "Exact", .cls "RowEnd", .cls "Number", .cls "Name", .cls "Value", .cls "FieldRow", .cls "Fields", .noat "Exact" "many", .noat "Exact" "text", .noat "RowEnd" "many", .noat "RowEnd" "text", .noat "Number" "base", .noat "Number" "figures", .noat "Number" "most", .noat "Number" "number", .noat "Name" "ends", .noat "Name" "most", .noat "Name" "room", .noat "Name" "text", .noat "Value" "most", .noat "Value" "text", .noat "FieldRow" "book", .noat "FieldRow" "ends", .noat "FieldRow" "filled", .noat "FieldRow" "gap", .noat "FieldRow" "label", .noat "FieldRow" "tail", .noat "Fields" "book", .noat "Fields" "closing", .noat "Fields" "ends", .noat "Fields" "kept", .noat "Fields" "ready", .noat "Fields" "room", .noat "Fields" "row", .meth "Name" "is_good", .meth "Name" "good", .meth "Value" "good", .meth "Name" "told", .meth "FieldRow" "is_end", .meth "RowEnd" "awaited", .meth "Exact" "awaited", .meth "Number" "awaited", .meth "Value" "awaited", .meth "Name" "awaited", .meth "FieldRow" "value_for", .meth "FieldRow" "awaited", .meth "Fields" "awaited", .meth "Fields" "room_left", .meth "Fields" "told_end", .meth "Fields" "told", .meth "Fields" "whole", .meth "RowEnd" "good", .meth "Exact" "told", .meth "Number" "told", .meth "Value" "told", .meth "FieldRow" "told", .meth "FieldRow" "number_begun", .meth "Name" "is_hopeful", .meth "RowEnd" "fed", .meth "Exact" "good", .meth "Number" "good", .meth "Exact" "fed", .meth "Number" "fed", .meth "Value" "fed", .meth "Name" "fed", .meth "FieldRow" "fed", .meth "FieldRow" "whole", .meth "Fields" "next_row", .meth "Fields" "fed", .mkr "Exact", .glo "Exact", .mkr "FieldRow", .glo "FieldRow", .mkr "Fields", .glo "Fields", .mkr "Name", .glo "Name", .mkr "Number", .glo "Number", .mkr "RowEnd", .glo "RowEnd", .mkr "Value", .glo "Value"]
def ex (K : PySem.W.Frag) : Bool := He.tupB K "END_NAMES" [.str "length", .str "pieces", .str "parts", .str "rest"] && baseB K "Exact" "__init__"
abbrev hk : PySem.W.Hook := hookY 4 fa fn ex
theorem facts {P : Program} {w : World} {K : PySem.W.Frag} {h : Heap} {mg : Str → Option Value} {base : Heap} (X : K.In h) (G : h.Ns mainGlobals mg) (c : SaysY fa fn ex K) : Tx P w K mg base := by
  have cd : He.SaysD fa fn K := c.d
  have ce : ex K = true := c.more
  unfold ex at ce
  simp only [Bool.and_eq_true] at ce
  obtain ⟨e_END_NAMES, e_Exact___init___base⟩ := ce
  exact {
    b_any := He.free_ok X G (cd.fact 0 (f := .free "any") rfl)
    b_bool := He.free_ok X G (cd.fact 1 (f := .free "bool") rfl)
    b_int := He.free_ok X G (cd.fact 2 (f := .free "int") rfl)
    b_isinstance := He.free_ok X G (cd.fact 3 (f := .free "isinstance") rfl)
    b_len := He.free_ok X G (cd.fact 4 (f := .free "len") rfl)
    b_range := He.free_ok X G (cd.fact 5 (f := .free "range") rfl)
    b_tuple := He.free_ok X G (cd.fact 6 (f := .free "tuple") rfl)
    g_END_NAMES := gld_tup (He.glo_ok X G (cd.fact 7 (f := .glo "END_NAMES") rfl)) e_END_NAMES (fun W => (rl_str (rl_str (rl_str (rl_str ⟨rfl, rfl⟩)))))
    g_FIGURES := gld_str (He.str_ok X G (cd.fact 8 (f := .str "FIGURES" "0123456789abcdef") rfl))
    g_ROW_END := gld_str (He.str_ok X G (cd.fact 9 (f := .str "ROW_END" ";\n") rfl))
    m__law_cell_at := He.glo_ok X G (cd.fact 10 (f := .glo "_law_cell_at") rfl)
    m__law_stream := He.glo_ok X G (cd.fact 11 (f := .glo "_law_stream") rfl)
    m__law_plan := He.glo_ok X G (cd.fact 12 (f := .glo "_law_plan") rfl)
    m__law_sign := He.glo_ok X G (cd.fact 13 (f := .glo "_law_sign") rfl)
    m__law_told := He.glo_ok X G (cd.fact 14 (f := .glo "_law_told") rfl)
    m_is_small := He.glo_ok X G (cd.fact 15 (f := .glo "is_small") rfl)
    m_is_plain := He.glo_ok X G (cd.fact 16 (f := .glo "is_plain") rfl)
    m__law_figures := He.glo_ok X G (cd.fact 17 (f := .glo "_law_figures") rfl)
    m__law_open_value := He.glo_ok X G (cd.fact 18 (f := .glo "_law_open_value") rfl)
    m__law_good_name := He.glo_ok X G (cd.fact 19 (f := .glo "_law_good_name") rfl)
    m__law_open_name := He.glo_ok X G (cd.fact 20 (f := .glo "_law_open_name") rfl)
    m__law_open_row := He.glo_ok X G (cd.fact 21 (f := .glo "_law_open_row") rfl)
    m__law_good_value := He.glo_ok X G (cd.fact 22 (f := .glo "_law_good_value") rfl)
    m__law_whole_row := He.glo_ok X G (cd.fact 23 (f := .glo "_law_whole_row") rfl)
    m__law_hopeful := He.glo_ok X G (cd.fact 24 (f := .glo "_law_hopeful") rfl)
    m__law_finished := He.glo_ok X G (cd.fact 25 (f := .glo "_law_finished") rfl)
    m_law := He.glo_ok X G (cd.fact 26 (f := .glo "law") rfl)
    c_Exact := He.cls_ok (cd.fact 27 (f := .cls "Exact") rfl)
    c_RowEnd := He.cls_ok (cd.fact 28 (f := .cls "RowEnd") rfl)
    c_Number := He.cls_ok (cd.fact 29 (f := .cls "Number") rfl)
    c_Name := He.cls_ok (cd.fact 30 (f := .cls "Name") rfl)
    c_Value := He.cls_ok (cd.fact 31 (f := .cls "Value") rfl)
    c_FieldRow := He.cls_ok (cd.fact 32 (f := .cls "FieldRow") rfl)
    c_Fields := He.cls_ok (cd.fact 33 (f := .cls "Fields") rfl)
    n_Exact_many := He.noat_ok (cd.fact 34 (f := .noat "Exact" "many") rfl)
    n_Exact_text := He.noat_ok (cd.fact 35 (f := .noat "Exact" "text") rfl)
    n_RowEnd_many := He.noat_ok (cd.fact 36 (f := .noat "RowEnd" "many") rfl)
    n_RowEnd_text := He.noat_ok (cd.fact 37 (f := .noat "RowEnd" "text") rfl)
    n_Number_base := He.noat_ok (cd.fact 38 (f := .noat "Number" "base") rfl)
    n_Number_figures := He.noat_ok (cd.fact 39 (f := .noat "Number" "figures") rfl)
    n_Number_most := He.noat_ok (cd.fact 40 (f := .noat "Number" "most") rfl)
    n_Number_number := He.noat_ok (cd.fact 41 (f := .noat "Number" "number") rfl)
    n_Name_ends := He.noat_ok (cd.fact 42 (f := .noat "Name" "ends") rfl)
    n_Name_most := He.noat_ok (cd.fact 43 (f := .noat "Name" "most") rfl)
    n_Name_room := He.noat_ok (cd.fact 44 (f := .noat "Name" "room") rfl)
    n_Name_text := He.noat_ok (cd.fact 45 (f := .noat "Name" "text") rfl)
    n_Value_most := He.noat_ok (cd.fact 46 (f := .noat "Value" "most") rfl)
    n_Value_text := He.noat_ok (cd.fact 47 (f := .noat "Value" "text") rfl)
    n_FieldRow_book := He.noat_ok (cd.fact 48 (f := .noat "FieldRow" "book") rfl)
    n_FieldRow_ends := He.noat_ok (cd.fact 49 (f := .noat "FieldRow" "ends") rfl)
    n_FieldRow_filled := He.noat_ok (cd.fact 50 (f := .noat "FieldRow" "filled") rfl)
    n_FieldRow_gap := He.noat_ok (cd.fact 51 (f := .noat "FieldRow" "gap") rfl)
    n_FieldRow_label := He.noat_ok (cd.fact 52 (f := .noat "FieldRow" "label") rfl)
    n_FieldRow_tail := He.noat_ok (cd.fact 53 (f := .noat "FieldRow" "tail") rfl)
    n_Fields_book := He.noat_ok (cd.fact 54 (f := .noat "Fields" "book") rfl)
    n_Fields_closing := He.noat_ok (cd.fact 55 (f := .noat "Fields" "closing") rfl)
    n_Fields_ends := He.noat_ok (cd.fact 56 (f := .noat "Fields" "ends") rfl)
    n_Fields_kept := He.noat_ok (cd.fact 57 (f := .noat "Fields" "kept") rfl)
    n_Fields_ready := He.noat_ok (cd.fact 58 (f := .noat "Fields" "ready") rfl)
    n_Fields_room := He.noat_ok (cd.fact 59 (f := .noat "Fields" "room") rfl)
    n_Fields_row := He.noat_ok (cd.fact 60 (f := .noat "Fields" "row") rfl)
    h_Name_is_good := He.meth_ok (cd.fact 61 (f := .meth "Name" "is_good") rfl)
    h_Name_good := He.meth_ok (cd.fact 62 (f := .meth "Name" "good") rfl)
    h_Value_good := He.meth_ok (cd.fact 63 (f := .meth "Value" "good") rfl)
    h_Name_told := He.meth_ok (cd.fact 64 (f := .meth "Name" "told") rfl)
    h_FieldRow_is_end := He.meth_ok (cd.fact 65 (f := .meth "FieldRow" "is_end") rfl)
    h_RowEnd_awaited := He.meth_ok (cd.fact 66 (f := .meth "RowEnd" "awaited") rfl)
    h_Exact_awaited := He.meth_ok (cd.fact 67 (f := .meth "Exact" "awaited") rfl)
    h_Number_awaited := He.meth_ok (cd.fact 68 (f := .meth "Number" "awaited") rfl)
    h_Value_awaited := He.meth_ok (cd.fact 69 (f := .meth "Value" "awaited") rfl)
    h_Name_awaited := He.meth_ok (cd.fact 70 (f := .meth "Name" "awaited") rfl)
    h_FieldRow_value_for := He.meth_ok (cd.fact 71 (f := .meth "FieldRow" "value_for") rfl)
    h_FieldRow_awaited := He.meth_ok (cd.fact 72 (f := .meth "FieldRow" "awaited") rfl)
    h_Fields_awaited := He.meth_ok (cd.fact 73 (f := .meth "Fields" "awaited") rfl)
    h_Fields_room_left := He.meth_ok (cd.fact 74 (f := .meth "Fields" "room_left") rfl)
    h_Fields_told_end := He.meth_ok (cd.fact 75 (f := .meth "Fields" "told_end") rfl)
    h_Fields_told := He.meth_ok (cd.fact 76 (f := .meth "Fields" "told") rfl)
    h_Fields_whole := He.meth_ok (cd.fact 77 (f := .meth "Fields" "whole") rfl)
    h_RowEnd_good := He.meth_ok (cd.fact 78 (f := .meth "RowEnd" "good") rfl)
    h_Exact_told := He.meth_ok (cd.fact 79 (f := .meth "Exact" "told") rfl)
    h_Number_told := He.meth_ok (cd.fact 80 (f := .meth "Number" "told") rfl)
    h_Value_told := He.meth_ok (cd.fact 81 (f := .meth "Value" "told") rfl)
    h_FieldRow_told := He.meth_ok (cd.fact 82 (f := .meth "FieldRow" "told") rfl)
    h_FieldRow_number_begun := He.meth_ok (cd.fact 83 (f := .meth "FieldRow" "number_begun") rfl)
    h_Name_is_hopeful := He.meth_ok (cd.fact 84 (f := .meth "Name" "is_hopeful") rfl)
    h_RowEnd_fed := He.meth_ok (cd.fact 85 (f := .meth "RowEnd" "fed") rfl)
    h_Exact_good := He.meth_ok (cd.fact 86 (f := .meth "Exact" "good") rfl)
    h_Number_good := He.meth_ok (cd.fact 87 (f := .meth "Number" "good") rfl)
    h_Exact_fed := He.meth_ok (cd.fact 88 (f := .meth "Exact" "fed") rfl)
    h_Number_fed := He.meth_ok (cd.fact 89 (f := .meth "Number" "fed") rfl)
    h_Value_fed := He.meth_ok (cd.fact 90 (f := .meth "Value" "fed") rfl)
    h_Name_fed := He.meth_ok (cd.fact 91 (f := .meth "Name" "fed") rfl)
    h_FieldRow_fed := He.meth_ok (cd.fact 92 (f := .meth "FieldRow" "fed") rfl)
    h_FieldRow_whole := He.meth_ok (cd.fact 93 (f := .meth "FieldRow" "whole") rfl)
    h_Fields_next_row := He.meth_ok (cd.fact 94 (f := .meth "Fields" "next_row") rfl)
    h_Fields_fed := He.meth_ok (cd.fact 95 (f := .meth "Fields" "fed") rfl)
    b_Exact___init___base := e_Exact___init___base
    k_Exact := He.mkr_ok (cd.fact 96 (f := .mkr "Exact") rfl)
    m_Exact := He.glo_ok X G (cd.fact 97 (f := .glo "Exact") rfl)
    k_FieldRow := He.mkr_ok (cd.fact 98 (f := .mkr "FieldRow") rfl)
    m_FieldRow := He.glo_ok X G (cd.fact 99 (f := .glo "FieldRow") rfl)
    k_Fields := He.mkr_ok (cd.fact 100 (f := .mkr "Fields") rfl)
    m_Fields := He.glo_ok X G (cd.fact 101 (f := .glo "Fields") rfl)
    k_Name := He.mkr_ok (cd.fact 102 (f := .mkr "Name") rfl)
    m_Name := He.glo_ok X G (cd.fact 103 (f := .glo "Name") rfl)
    k_Number := He.mkr_ok (cd.fact 104 (f := .mkr "Number") rfl)
    m_Number := He.glo_ok X G (cd.fact 105 (f := .glo "Number") rfl)
    k_RowEnd := He.mkr_ok (cd.fact 106 (f := .mkr "RowEnd") rfl)
    m_RowEnd := He.glo_ok X G (cd.fact 107 (f := .glo "RowEnd") rfl)
    k_Value := He.mkr_ok (cd.fact 108 (f := .mkr "Value") rfl)
    m_Value := He.glo_ok X G (cd.fact 109 (f := .glo "Value") rfl)
    d__law_cell_at := cd.def_ 0 (d := D__law_cell_at) rfl
    d__law_stream := cd.def_ 1 (d := D__law_stream) rfl
    d__law_plan := cd.def_ 2 (d := D__law_plan) rfl
    d__law_sign := cd.def_ 3 (d := D__law_sign) rfl
    d__law_told := cd.def_ 4 (d := D__law_told) rfl
    d_is_small := cd.def_ 5 (d := D_is_small) rfl
    d_is_plain := cd.def_ 6 (d := D_is_plain) rfl
    d__law_figures := cd.def_ 7 (d := D__law_figures) rfl
    d__law_open_value := cd.def_ 8 (d := D__law_open_value) rfl
    d__law_good_name := cd.def_ 9 (d := D__law_good_name) rfl
    d__law_open_name := cd.def_ 10 (d := D__law_open_name) rfl
    d__law_open_row := cd.def_ 11 (d := D__law_open_row) rfl
    d__law_good_value := cd.def_ 12 (d := D__law_good_value) rfl
    d__law_whole_row := cd.def_ 13 (d := D__law_whole_row) rfl
    d__law_hopeful := cd.def_ 14 (d := D__law_hopeful) rfl
    d__law_finished := cd.def_ 15 (d := D__law_finished) rfl
    d_law := cd.def_ 16 (d := D_law) rfl
    d_Name_is_good := cd.def_ 17 (d := DM_Name_is_good) rfl
    d_Name_good := cd.def_ 18 (d := DM_Name_good) rfl
    d_Value_good := cd.def_ 19 (d := DM_Value_good) rfl
    d_Name_told := cd.def_ 20 (d := DM_Name_told) rfl
    d_FieldRow_is_end := cd.def_ 21 (d := DM_FieldRow_is_end) rfl
    d_RowEnd_awaited := cd.def_ 22 (d := DM_RowEnd_awaited) rfl
    d_Exact_awaited := cd.def_ 23 (d := DM_Exact_awaited) rfl
    d_Number_awaited := cd.def_ 24 (d := DM_Number_awaited) rfl
    d_Value_awaited := cd.def_ 25 (d := DM_Value_awaited) rfl
    d_Name_awaited := cd.def_ 26 (d := DM_Name_awaited) rfl
    d_FieldRow_value_for := cd.def_ 27 (d := DM_FieldRow_value_for) rfl
    d_FieldRow_awaited := cd.def_ 28 (d := DM_FieldRow_awaited) rfl
    d_Fields_awaited := cd.def_ 29 (d := DM_Fields_awaited) rfl
    d_Fields_room_left := cd.def_ 30 (d := DM_Fields_room_left) rfl
    d_Fields_told_end := cd.def_ 31 (d := DM_Fields_told_end) rfl
    d_Fields_told := cd.def_ 32 (d := DM_Fields_told) rfl
    d_Fields_whole := cd.def_ 33 (d := DM_Fields_whole) rfl
    d_RowEnd_good := cd.def_ 34 (d := DM_RowEnd_good) rfl
    d_Exact_told := cd.def_ 35 (d := DM_Exact_told) rfl
    d_Number_told := cd.def_ 36 (d := DM_Number_told) rfl
    d_Value_told := cd.def_ 37 (d := DM_Value_told) rfl
    d_FieldRow_told := cd.def_ 38 (d := DM_FieldRow_told) rfl
    d_FieldRow_number_begun := cd.def_ 39 (d := DM_FieldRow_number_begun) rfl
    d_Name_is_hopeful := cd.def_ 40 (d := DM_Name_is_hopeful) rfl
    d_RowEnd_fed := cd.def_ 41 (d := DM_RowEnd_fed) rfl
    d_Exact_good := cd.def_ 42 (d := DM_Exact_good) rfl
    d_Number_good := cd.def_ 43 (d := DM_Number_good) rfl
    d_Exact_fed := cd.def_ 44 (d := DM_Exact_fed) rfl
    d_Number_fed := cd.def_ 45 (d := DM_Number_fed) rfl
    d_Value_fed := cd.def_ 46 (d := DM_Value_fed) rfl
    d_Name_fed := cd.def_ 47 (d := DM_Name_fed) rfl
    d_FieldRow_fed := cd.def_ 48 (d := DM_FieldRow_fed) rfl
    d_FieldRow_whole := cd.def_ 49 (d := DM_FieldRow_whole) rfl
    d_Fields_next_row := cd.def_ 50 (d := DM_Fields_next_row) rfl
    d_Fields_fed := cd.def_ 51 (d := DM_Fields_fed) rfl
    d_Exact___init__ := cd.def_ 52 (d := DM_Exact___init__) rfl
    d_FieldRow___init__ := cd.def_ 53 (d := DM_FieldRow___init__) rfl
    d_Fields___init__ := cd.def_ 54 (d := DM_Fields___init__) rfl
    d_Name___init__ := cd.def_ 55 (d := DM_Name___init__) rfl
    d_Number___init__ := cd.def_ 56 (d := DM_Number___init__) rfl
    d_RowEnd___init__ := cd.def_ 57 (d := DM_RowEnd___init__) rfl
    d_Value___init__ := cd.def_ 58 (d := DM_Value___init__) rfl
  }
abbrev R : PySem.W.OpenRow := PySem.W.OpenLaw.row PySem.Challenge.rw_framepost_k32_what_may_come_in_rows
def ob (s : PySem.W.SharedT) : AlY := obsY 4 fa fn ex (HandSHeadRun.getT s)
theorem ob_eq (s : PySem.W.SharedT) : ob s = hk.obs s.abs := obsY_eq (HandSHeadRun.getT_eq s)
end G
namespace G
open PySem PySem.Spec PyProof.Rows L2 Fw
local macro_rules | `(tactic| walk_at "d") => `(tactic| first | assumption | omega | (simp -implicitDefEqProofs only [List.length_append, List.length_cons, List.length_nil, List.length_map, List.length_take, List.length_drop, List.length_replicate, List.length_range, strsL_cons, strsL_nil, strsL_map, intsL_cons, intsL_nil, Nat.reduceAdd, klaw] ; omega) | decide | (simp -implicitDefEqProofs only [plset, allStr_cons, allStr_nil, allStr_map, allInt_cons, allInt_nil, dataL_strs, dataL_ints, dataL_cons, dataL_nil, dataL_append, data_str, data_int, data_tup, data_lst, data_bl, data_non, Bool.and_self, Bool.and_true, *] ; done) | (apply List.ne_nil_of_length_pos ; omega))
local macro_rules | `(tactic| walk_at "k") => `(tactic| simp (disch := walk_at "d") only [kset, kset2, kset5, kset6, kset10, klaw, Option.bind_some, Option.map_some, Option.bind_none, Option.map_none, List.getElem?_cons_zero, List.getElem?_cons_succ, List.set_cons_zero, List.set_cons_succ, List.cons_append, List.nil_append, List.append_nil, List.length_cons, List.length_nil, List.length_map, List.replicate_zero, List.replicate_succ, Bool.and_true, Bool.true_and, Bool.not_true, Bool.not_false, Bool.false_eq_true, Bool.not_eq_true', decide_eq_true_eq, decide_eq_false_iff_not, Bool.and_eq_true, Bool.or_eq_true, Nat.reduceAdd, Nat.reduceSub, Nat.reduceLeDiff, Nat.reduceLT, Nat.reduceEqDiff, List.take_succ_cons, Bool.or_false, Bool.or_true, Bool.false_or, Bool.true_or, Bool.and_false, Bool.false_and, List.take_zero, List.take_nil, Int.reduceLT, Int.reduceLE, Int.reduceNeg, Int.reduceAdd, Int.reduceSub, Int.reduceMul, Int.reduceEq, Int.reduceToNat, Int.reducePow, and_true, true_and, and_false, false_and, or_true, true_or, or_false, false_or, not_true_eq_false, not_false_eq_true, eq_self, if_true, if_false, ite_self, decide_true, decide_false, ite_not, List.map_cons, List.map_nil, List.cons.injEq, reduceCtorEq, List.isEmpty_cons, Int.natCast_one, Int.cast_ofNat_Int, Int.natCast_zero, Int.toNat_natCast, *])
/-! ### signs -/
def sm (c : Nat) : Bool := decide (97 ≤ c) && decide (c ≤ 122)
theorem is_small_eq (c : Nat) : r_is_small [.str [c]] = some (.bl (sm c)) := by
  unfold r_is_small f_is_small sm
  walk_at "k"
def pln (c : Nat) : Bool := decide (c = 10) || (decide (32 ≤ c) && decide (c ≤ 126))
theorem is_plain_eq (c : Nat) : r_is_plain [.str [c]] = some (.bl (pln c)) := by
  unfold r_is_plain f_is_plain pln
  walk_at "k"
abbrev lengthN : List Nat := [108, 101, 110, 103, 116, 104]
abbrev piecesN : List Nat := [112, 105, 101, 99, 101, 115]
abbrev partsN : List Nat := [112, 97, 114, 116, 115]
abbrev restN : List Nat := [114, 101, 115, 116]
abbrev yesN : List Nat := [121, 101, 115]
abbrev EN : List (List Nat) := [lengthN, piecesN, partsN, restN]
abbrev FIG : List Nat := [48, 49, 50, 51, 52, 53, 54, 55, 56, 57, 97, 98, 99, 100, 101, 102]
def figv (c : Nat) : Nat := if c < 97 then c - 48 else c - 87
theorem index_fig {c : Nat} (h : c ∈ FIG) : oIndex FIG [.str [c]] = some (.int (figv c : Nat)) := by
  have e : ∀ c ∈ FIG, (match Builtin.Str.occurrences (tr FIG) (tr [c]) 0 (tr FIG).length 1 with
      | i :: _ => some i
      | [] => none) = some (figv c) := by decide +kernel
  have := e c h
  show (match Builtin.Str.occurrences (tr FIG) (tr [c]) 0 (tr FIG).length 1 with
      | i :: _ => some (D.int (i : Nat))
      | [] => none) = _
  revert this
  cases Builtin.Str.occurrences (tr FIG) (tr [c]) 0 (tr FIG).length 1 with
  | nil => intro h; cases h
  | cons i r => intro h; cases h; rfl
theorem figv_lt {c : Nat} (h : c ∈ FIG) : figv c < 16 := by
  revert c
  decide
/-! ### Exact, RowEnd -/
section
variable {t : List Nat} {m c : Nat} {μ : List D}
theorem Exact_fed_eq (h : t.length ≤ 1000) : r_Exact_fed [.obj "Exact" sh_Exact [.str t, .int m], .str [c]] μ = some (.ok (.bl (decide (t[m]? = some c))) [.obj "Exact" sh_Exact [.str t, .int (if t[m]? = some c then (m + 1 : Nat) else m)], .str [c]] μ) := by
  have e : t[m]? = some c ↔ ((m : Int) < t.length ∧ c = t.getD m 0) := by
    rw [List.getD_eq_getElem?_getD]
    constructor
    · intro z
      rw [z]
      exact ⟨by have := (List.getElem?_eq_some_iff.mp z).1; omega, rfl⟩
    · rintro ⟨z1, z2⟩
      rw [List.getElem?_eq_getElem (by omega)] at z2 ⊢
      rw [z2]
      rfl
  simp only [e]
  clear e
  unfold r_Exact_fed f_Exact_fed
  walk_at "k"
  split <;> simp_all
theorem RowEnd_fed_eq : r_Exact_fed [.obj "RowEnd" sh_RowEnd [.str [59, 10], .int m], .str [c]] μ = some (.ok (.bl (decide (([59, 10] : List Nat)[m]? = some c))) [.obj "RowEnd" sh_RowEnd [.str [59, 10], .int (if ([59, 10] : List Nat)[m]? = some c then (m + 1 : Nat) else m)], .str [c]] μ) := by
  have e : ([59, 10] : List Nat)[m]? = some c ↔ ((m : Int) < 2 ∧ c = ([59, 10] : List Nat).getD m 0) := by
    rw [List.getD_eq_getElem?_getD]
    constructor
    · intro z
      rw [z]
      exact ⟨by have := (List.getElem?_eq_some_iff.mp z).1; simp at this; omega, rfl⟩
    · rintro ⟨z1, z2⟩
      rw [List.getElem?_eq_getElem (by simp; omega)] at z2 ⊢
      rw [z2]
      rfl
  simp only [e]
  clear e
  unfold r_Exact_fed f_Exact_fed
  walk_at "k"
  split <;> simp_all
theorem Exact_good_eq (h : t.length ≤ 1000) : r_Exact_good [.fo "Exact" sh_Exact [.str t, .int m]] μ = some (.bl (decide (m = t.length))) := by
  unfold r_Exact_good f_Exact_good
  walk_at "k"
  congr 3
  simp only [eq_iff_iff]
  omega
theorem RowEnd_good_eq : r_Exact_good [.fo "RowEnd" sh_RowEnd [.str [59, 10], .int m]] μ = some (.bl (decide (m = 2))) := by
  unfold r_Exact_good f_Exact_good
  walk_at "k"
  congr 3
  simp only [eq_iff_iff]
  omega
theorem Exact_awaited_eq (h : t.length ≤ 1000) : r_Exact_awaited [.fo "Exact" sh_Exact [.str t, .int m]] μ = some (.str (t.drop m)) := by
  unfold r_Exact_awaited f_Exact_awaited
  walk_at "k"
theorem RowEnd_awaited_eq : r_Exact_awaited [.fo "RowEnd" sh_RowEnd [.str [59, 10], .int m]] μ = some (.str (([59, 10] : List Nat).drop m)) := by
  unfold r_Exact_awaited f_Exact_awaited
  walk_at "k"
theorem Exact_told_eq : r_Exact_told [.fo "Exact" sh_Exact [.str t, .int m]] μ = some (.str t) := by
  unfold r_Exact_told f_Exact_told
  walk_at "k"
end
/-! ### Number -/
def numF (base most : Int) (f : List Nat) (n : Int) (c : Nat) : Option (List Nat × Int) := if c ∈ FIG.take base.toNat ∧ f ≠ [48] ∧ n * base + figv c ≤ most then some (f ++ [c], n * base + figv c) else none
section
variable {f : List Nat} {base most n : Int} {c : Nat} {μ : List D}
theorem take_mem {α : Type} {l : List α} {k : Nat} {x : α} (h : x ∈ l.take k) : x ∈ l := List.mem_of_mem_take h
def fedR (o : Option D) (d : D) (c : Nat) (μ : List D) : EO := match o with
  | some d' => .ok (.bl true) [d', .str [c]] μ
  | none => .ok (.bl false) [d, .str [c]] μ
theorem Number_fed_eq (hb : base = 10 ∨ base = 16) (hf : f.length ≤ 1000) : r_Number_fed [.obj "Number" sh_Number [.int base, .int most, .str f, .int n], .str [c]] μ =
    some (fedR ((numF base most f n c).map fun z => .obj "Number" sh_Number [.int base, .int most, .str z.1, .int z.2]) (.obj "Number" sh_Number [.int base, .int most, .str f, .int n]) c μ) := by
  have e : c ∈ FIG → oIndex FIG [.str [c]] = some (.int (figv c : Nat)) := index_fig
  have e2 : 0 ≤ base := by omega
  have e3 : -18446744073709551616 < base ∧ base < 18446744073709551616 := by omega
  unfold r_Number_fed f_Number_fed numF fedR
  clear hb
  by_cases z : c ∈ FIG.take base.toNat
  · have e1 := e (take_mem z)
    clear e
    walk_at "k"
    by_cases y : f = [48]
    · simp [y]
    · by_cases x : most < n * base + figv c
      · simp [y, x, Int.not_le.mpr x]
      · simp [y, x, Int.not_lt.mp x]
  · clear e
    walk_at "k"
theorem Number_good_eq : r_Number_good [.fo "Number" sh_Number [.int base, .int most, .str f, .int n]] μ = some (.bl (decide (f ≠ []))) := by
  unfold r_Number_good f_Number_good
  walk_at "k"
  simp
theorem Number_awaited_eq : r_Number_awaited [.fo "Number" sh_Number [.int base, .int most, .str f, .int n]] μ = some (.str (if f = [] then [48] else [])) := by
  unfold r_Number_awaited f_Number_awaited
  walk_at "k"
  split <;> rfl
theorem Number_told_eq : r_Number_told [.fo "Number" sh_Number [.int base, .int most, .str f, .int n]] μ = some (.int n) := by
  unfold r_Number_told f_Number_told
  walk_at "k"
end
/-! ### Value -/
def vOk (most : Int) (t : List Nat) (c : Nat) : Bool := pln c && !decide (c = 10 ∨ c = 59 ∨ (t.length : Int) = most) && !decide (c = 32 ∧ (t = [] ∨ (t.length : Int) + 1 = most))
def vGood (t : List Nat) : Bool := decide (t ≠ [] ∧ t.getLastD 0 ≠ 32)
section
variable {most : Int} {t : List Nat} {c : Nat} {μ : List D}
theorem Value_fed_eq (hl : t.length ≤ 100000) : r_Value_fed [.obj "Value" sh_Value [.int most, .str t], .str [c]] μ = some (fedR (if vOk most t c = true then some (.obj "Value" sh_Value [.int most, .str (t ++ [c])]) else none) (.obj "Value" sh_Value [.int most, .str t]) c μ) := by
  have e1 := is_plain_eq
  unfold r_Value_fed f_Value_fed vOk fedR
  cases z : pln c
  · walk_at "k"
  · walk_at "k"
    by_cases y : c = 10 ∨ c = 59 ∨ (t.length : Int) = most
    · simp [y]
    · by_cases x : c = 32 ∧ (t = [] ∨ (t.length : Int) + 1 = most)
      · simp [y, x]
      · simp [y, x]
theorem Value_good_eq (hl : t.length ≤ 100000) : r_Value_good [.fo "Value" sh_Value [.int most, .str t]] μ = some (.bl (vGood t)) := by
  unfold r_Value_good f_Value_good vGood
  walk_at "k"
  simp
theorem Value_awaited_eq (hl : t.length ≤ 100000) : r_Value_awaited [.fo "Value" sh_Value [.int most, .str t]] μ = some (.str (if vGood t = true then [] else [97])) := by
  have e2 : ∀ μ : List D, r_Value_good [.fo "Value" sh_Value [.int most, .str t]] μ = some (.bl (vGood t)) := fun μ => Value_good_eq hl
  unfold r_Value_awaited f_Value_awaited
  walk_at "k"
  split <;> rfl
theorem Value_told_eq : r_Value_told [.fo "Value" sh_Value [.int most, .str t]] μ = some (.str t) := by
  unfold r_Value_told f_Value_told
  walk_at "k"
end
/-! ### Name -/
def gd (most room : Int) (ends : List (List Nat)) (t : List Nat) : Bool := decide (t ∈ ends) || (decide (0 < room) && (decide (t ≠ [] ∧ (t.length : Int) ≤ most) && !decide (t ∈ EN)))
def hp (most room : Int) (ends : List (List Nat)) (t : List Nat) : Bool := gd most room ends t || (ends.any (fun e => decide (t <+: e)) || (decide (0 < room) && decide ((t.length : Int) < most)))
def aw (most room : Int) (ends : List (List Nat)) (t : List Nat) : List Nat :=
  if gd most room ends t = true then [] else if 0 < room ∧ (t.length : Int) < most then [97] else match ends.find? (fun e => decide (t <+: e)) with
    | some e => e.drop t.length
    | none => []
section
variable {most room : Int} {ends : List (List Nat)} {t t' : List Nat} {c : Nat} {μ : List D}
theorem Name_is_good_eq (hl : t.length ≤ 100000) : r_Name_is_good [.fo "Name" sh_Name [.int most, .int room, .tup (ends.map D.str), .str t'], .str t] μ = some (.bl (gd most room ends t)) := by
  have e : (t ≠ [] ∧ (t.length : Int) ≤ most) ↔ ((0 : Int) < t.length ∧ (t.length : Int) ≤ most) := by
    cases t with
    | nil => simp
    | cons a t => simp
  unfold r_Name_is_good f_Name_is_good gd
  simp only [e]
  clear e
  walk_at "k"
theorem starts_pre (e t : List Nat) : Txt.startswith (tr e) (tr t) = decide (t <+: e) := by
  rw [starts_take, Bool.eq_iff_iff]
  simp only [decide_eq_true_eq]
  rw [List.prefix_iff_eq_take]
  exact eq_comm
theorem Name_is_hopeful_eq (hl : t.length ≤ 100000) (he : ends.length ≤ 100) : r_Name_is_hopeful [.fo "Name" sh_Name [.int most, .int room, .tup (ends.map D.str), .str t'], .str t] μ = some (.bl (hp most room ends t)) := by
  have e1 : ∀ μ : List D, r_Name_is_good [.fo "Name" sh_Name [.int most, .int room, .tup (ends.map D.str), .str t'], .str t] μ = some (.bl (gd most room ends t)) := fun μ => Name_is_good_eq hl
  have e2 := starts_pre
  have lc : lcL (tgN 2) bYes ce1_Name_is_hopeful [.fo "Name" sh_Name [.int most, .int room, .tup (ends.map D.str), .str t'], .str t, .un] μ (ends.map D.str) = some (ends.map fun e => .bl (decide (t <+: e))) := by
    refine lc_all D.str (fun e => .bl (decide (t <+: e))) ends fun e _ => ⟨_, rfl, ?_, rfl⟩
    unfold ce1_Name_is_hopeful
    clear e1
    walk_at "k"
  have e4 : (ends.map fun e => decide (t <+: e)).any id = ends.any fun e => decide (t <+: e) := by rw [List.any_map]; rfl
  unfold r_Name_is_hopeful f_Name_is_hopeful hp
  walk_at "k"
  rw [Bool.decide_or, Bool.decide_eq_true, Bool.decide_eq_true, Bool.or_assoc]
theorem Name_fed_eq (hl : t.length ≤ 10000) (he : ends.length ≤ 100) : r_Name_fed [.obj "Name" sh_Name [.int most, .int room, .tup (ends.map D.str), .str t], .str [c]] μ = some (fedR (if (sm c && hp most room ends (t ++ [c])) = true then some (.obj "Name" sh_Name [.int most, .int room, .tup (ends.map D.str), .str (t ++ [c])]) else none) (.obj "Name" sh_Name [.int most, .int room, .tup (ends.map D.str), .str t]) c μ) := by
  have e1 := is_small_eq
  have e2 : ∀ μ : List D, r_Name_is_hopeful [.fo "Name" sh_Name [.int most, .int room, .tup (ends.map D.str), .str t], .str (t ++ [c])] μ = some (.bl (hp most room ends (t ++ [c]))) := fun μ => Name_is_hopeful_eq (by simp; omega) he
  unfold r_Name_fed f_Name_fed fedR
  cases z : sm c
  · walk_at "k"
  · cases y : hp most room ends (t ++ [c]) <;> walk_at "k"
theorem Name_good_eq (hl : t.length ≤ 10000) : r_Name_good [.fo "Name" sh_Name [.int most, .int room, .tup (ends.map D.str), .str t]] μ = some (.bl (gd most room ends t)) := by
  have e2 : ∀ μ : List D, r_Name_is_good [.fo "Name" sh_Name [.int most, .int room, .tup (ends.map D.str), .str t], .str t] μ = some (.bl (gd most room ends t)) := fun μ => Name_is_good_eq (by omega)
  unfold r_Name_good f_Name_good
  walk_at "k"
theorem Name_told_eq : r_Name_told [.fo "Name" sh_Name [.int most, .int room, .tup (ends.map D.str), .str t]] μ = some (.str t) := by
  unfold r_Name_told f_Name_told
  walk_at "k"
theorem aw_loop (hl : t.length ≤ 10000) : ∀ es : List (List Nat), (∀ e ∈ es, e.length ≤ 1000) → forL (tgN 1) lb1_Name_awaited [.fo "Name" sh_Name [.int most, .int room, .tup (ends.map D.str), .str t], .un] μ (es.map D.str) =
    match es.find? (fun e => decide (t <+: e)) with
    | some e => some (.rt (.str (e.drop t.length)) [.fo "Name" sh_Name [.int most, .int room, .tup (ends.map D.str), .str t], .str e] μ)
    | none => some (.nx [.fo "Name" sh_Name [.int most, .int room, .tup (ends.map D.str), .str t], .un] μ)
  | [], _ => rfl
  | e :: es, h => by
    have ih := aw_loop hl es fun x hx => h x (List.mem_cons_of_mem _ hx)
    have h3 := starts_pre e t
    have h4 := h e (List.mem_cons_self ..)
    rw [List.map_cons, forL_cons]
    by_cases z : t <+: e
    · rw [decide_eq_true z] at h3
      rw [List.find?_cons_of_pos (by simpa using z)]
      clear ih
      unfold lb1_Name_awaited
      walk_at "k"
    · rw [decide_eq_false z] at h3
      rw [List.find?_cons_of_neg (by simpa using z), ← ih]
      clear ih
      show (some _).bind _ = _
      rw [Option.bind_some]
      have : lb1_Name_awaited [.fo "Name" sh_Name [.int most, .int room, .tup (ends.map D.str), .str t], .str e] μ = some (.nx [.fo "Name" sh_Name [.int most, .int room, .tup (ends.map D.str), .str t], .un] μ) := by
        unfold lb1_Name_awaited
        walk_at "k"
      show turnK _ _ _ (lb1_Name_awaited [.fo "Name" sh_Name [.int most, .int room, .tup (ends.map D.str), .str t], .str e] μ) = _
      rw [this]
      rfl
theorem Name_awaited_eq (hl : t.length ≤ 10000) (he : ∀ e ∈ ends, e.length ≤ 1000) : r_Name_awaited [.fo "Name" sh_Name [.int most, .int room, .tup (ends.map D.str), .str t]] μ = some (.str (aw most room ends t)) := by
  have e2 : ∀ μ : List D, r_Name_good [.fo "Name" sh_Name [.int most, .int room, .tup (ends.map D.str), .str t]] μ = some (.bl (gd most room ends t)) := fun μ => Name_good_eq hl
  have e3 := aw_loop (most := most) (room := room) (ends := ends) (μ := μ) hl ends he
  unfold r_Name_awaited f_Name_awaited aw
  cases g : gd most room ends t
  · cases z : ends.find? (fun e => decide (t <+: e)) with
    | none =>
      rw [z] at e3
      simp only at e3
      clear z
      walk_at "k"
      (repeat' split) <;> simp_all
    | some e =>
      rw [z] at e3
      simp only at e3
      clear z
      walk_at "k"
      (repeat' split) <;> simp_all
  · clear e3
    walk_at "k"
end
/-! ### a book -/
structure Bk where
  w : Int
  n : Int
  v : Int
  f : Int
  b : Int
  p : Int
  d : Int
abbrev Bk.l (b : Bk) : List D := [.int b.w, .int b.n, .int b.v, .int b.f, .int b.b, .int b.p, .int b.d]
/-! ### FieldRow -/
inductive Fil where
  | no | val (t : List Nat) | num (f : List Nat) (n : Int) | yes (m : Nat)
structure RowS where
  room : Int
  ends : List (List Nat)
  lab : List Nat
  gap : Nat
  fil : Fil
  tail : Nat
def Fil.d (b : Bk) : Fil → D
  | .no => .non
  | .val t => .obj "Value" sh_Value [.int b.v, .str t]
  | .num f n => .obj "Number" sh_Number [.int 10, .int b.b, .str f, .int n]
  | .yes m => .obj "Exact" sh_Exact [.str yesN, .int m]
def RowS.l (b : Bk) (r : RowS) : List D := [.tup b.l, .tup (r.ends.map D.str), .obj "Name" sh_Name [.int b.n, .int r.room, .tup (r.ends.map D.str), .str r.lab], .obj "Exact" sh_Exact [.str [58, 32], .int r.gap], r.fil.d b, .obj "RowEnd" sh_RowEnd [.str [59, 10], .int r.tail]]
abbrev RowS.d (b : Bk) (r : RowS) : D := .obj "FieldRow" sh_FieldRow (r.l b)
def RowS.new (room : Int) (ends : List (List Nat)) : RowS := ⟨room, ends, [], 0, .no, 0⟩
/-- the sizes at hand -/
structure RowOk (b : Bk) (r : RowS) : Prop where
  lab : r.lab.length ≤ 1000
  labc : ∀ c ∈ r.lab, c < 128
  fvc : ∀ t, r.fil = .val t → ∀ c ∈ t, c < 128
  el : r.ends.length ≤ 10
  ee : ∀ e ∈ r.ends, e.length ≤ 10
  fv : ∀ t, r.fil = .val t → t.length ≤ 1000
  fn : ∀ f n, r.fil = .num f n → f.length ≤ 100
def Fil.good : Fil → Bool
  | .no => false
  | .val t => vGood t
  | .num f _ => decide (f ≠ [])
  | .yes m => decide (m = 3)
def Fil.fed (b : Bk) (c : Nat) : Fil → Option Fil
  | .no => none
  | .val t => if vOk b.v t c = true then some (.val (t ++ [c])) else none
  | .num f n => (numF 10 b.b f n c).map fun z => .num z.1 z.2
  | .yes m => if yesN[m]? = some c then some (.yes (m + 1)) else none
def Fil.aw : Fil → List Nat
  | .no => []
  | .val t => if vGood t = true then [] else [97]
  | .num f _ => if f = [] then [48] else []
  | .yes m => yesN.drop m
def valueFor (ends : List (List Nat)) (lab : List Nat) : Fil := if lab ∈ ends then (if lab = lengthN then .num [] 0 else .yes 0) else .val []
def RowS.gd (b : Bk) (r : RowS) : Bool := G.gd b.n r.room r.ends r.lab
def endF (tail c : Nat) : Option Nat := if ([59, 10] : List Nat)[tail]? = some c then some (tail + 1) else none
def RowS.fed (b : Bk) (r : RowS) (c : Nat) : Option RowS :=
  if 0 < r.tail then (endF r.tail c).map fun z => { r with tail := z }
  else match r.fil with
    | .no =>
      if 0 < r.gap then (if ([58, 32] : List Nat)[r.gap]? = some c then some { r with gap := r.gap + 1, fil := valueFor r.ends r.lab } else none)
      else if c = 59 ∧ r.lab = [] then some { r with tail := 1 }
      else if c = 58 ∧ r.gd b = true then some { r with gap := 1 }
      else if (sm c && hp b.n r.room r.ends (r.lab ++ [c])) = true then some { r with lab := r.lab ++ [c] } else none
    | _ => if r.fil.good = true ∧ c = 59 then some { r with tail := 1 } else (r.fil.fed b c).map fun z => { r with fil := z }
theorem rowset : (∀ (b : Bk) (r : RowS), (r.l b)[0]? = some (.tup b.l)) ∧ (∀ (b : Bk) (r : RowS), (r.l b)[1]? = some (.tup (r.ends.map D.str))) ∧
    (∀ (b : Bk) (r : RowS), (r.l b)[2]? = some (.obj "Name" sh_Name [.int b.n, .int r.room, .tup (r.ends.map D.str), .str r.lab])) ∧ (∀ (b : Bk) (r : RowS), (r.l b)[3]? = some (.obj "Exact" sh_Exact [.str [58, 32], .int r.gap])) ∧
    (∀ (b : Bk) (r : RowS), (r.l b)[4]? = some (r.fil.d b)) ∧ (∀ (b : Bk) (r : RowS), (r.l b)[5]? = some (.obj "RowEnd" sh_RowEnd [.str [59, 10], .int r.tail])) ∧
    (∀ (b : Bk) (r : RowS), (fzL (r.l b))[0]? = some (.tup b.l)) ∧ (∀ (b : Bk) (r : RowS), (fzL (r.l b))[1]? = some (.tup (r.ends.map D.str))) ∧
    (∀ (b : Bk) (r : RowS), (fzL (r.l b))[2]? = some (.fo "Name" sh_Name [.int b.n, .int r.room, .tup (r.ends.map D.str), .str r.lab])) ∧ (∀ (b : Bk) (r : RowS), (fzL (r.l b))[3]? = some (.fo "Exact" sh_Exact [.str [58, 32], .int r.gap])) ∧
    (∀ (b : Bk) (r : RowS), (fzL (r.l b))[4]? = some (fz (r.fil.d b))) ∧ (∀ (b : Bk) (r : RowS), (fzL (r.l b))[5]? = some (.fo "RowEnd" sh_RowEnd [.str [59, 10], .int r.tail])) ∧
    (∀ (b : Bk) (r : RowS) (t : List Nat), (r.l b).set 2 (.obj "Name" sh_Name [.int b.n, .int r.room, .tup (r.ends.map D.str), .str t]) = ({ r with lab := t } : RowS).l b) ∧
    (∀ (b : Bk) (r : RowS) (m : Nat), (r.l b).set 3 (.obj "Exact" sh_Exact [.str [58, 32], .int m]) = ({ r with gap := m } : RowS).l b) ∧
    (∀ (b : Bk) (r : RowS) (z : Fil), (r.l b).set 4 (z.d b) = ({ r with fil := z } : RowS).l b) ∧
    (∀ (b : Bk) (r : RowS) (m : Nat), (r.l b).set 5 (.obj "RowEnd" sh_RowEnd [.str [59, 10], .int m]) = ({ r with tail := m } : RowS).l b) ∧
    (∀ (b : Bk) (r : RowS) (m : Nat), (r.l b).set 3 (.obj "Exact" sh_Exact [.str [58, 32], .int ((m : Int) + 1)]) = ({ r with gap := m + 1 } : RowS).l b) ∧
    (∀ (b : Bk) (r : RowS) (m : Nat), (r.l b).set 5 (.obj "RowEnd" sh_RowEnd [.str [59, 10], .int ((m : Int) + 1)]) = ({ r with tail := m + 1 } : RowS).l b) := by
  have h : ∀ es : List (List Nat), D.tup (fzL (es.map D.str)) = .tup (es.map D.str) := fun es => by rw [fzL_strs]
  refine ⟨fun _ _ => rfl, fun _ _ => rfl, fun _ _ => rfl, fun _ _ => rfl, fun _ _ => rfl, fun _ _ => rfl, fun _ _ => rfl, fun b r => ?_, fun b r => ?_, fun _ _ => rfl, fun _ _ => rfl, fun _ _ => rfl, fun _ _ _ => rfl, fun _ _ _ => rfl, fun _ _ _ => rfl, fun _ _ _ => rfl, fun _ _ _ => rfl, fun _ _ _ => rfl⟩
  · show some (D.tup (fzL (r.ends.map D.str))) = _
    rw [h]
  · show some (D.fo "Name" sh_Name [.int b.n, .int r.room, D.tup (fzL (r.ends.map D.str)), .str r.lab]) = _
    rw [h]
theorem filset : (∀ b, Fil.d b .no = .non) ∧ (∀ b t, Fil.d b (.val t) = .obj "Value" sh_Value [.int b.v, .str t]) ∧ (∀ b f n, Fil.d b (.num f n) = .obj "Number" sh_Number [.int 10, .int b.b, .str f, .int n]) ∧ (∀ b (m : Nat), Fil.d b (.yes m) = .obj "Exact" sh_Exact [.str yesN, .int m]) :=
  ⟨fun _ => rfl, fun _ _ => rfl, fun _ _ _ => rfl, fun _ _ => rfl⟩
local macro_rules | `(tactic| walk_at "kr") => `(tactic| simp (disch := walk_at "d") only [rowset, filset, kset, kset2, kset5, kset6, kset10, klaw, Option.bind_some, Option.map_some, Option.bind_none, Option.map_none, List.getElem?_cons_zero, List.getElem?_cons_succ, List.set_cons_zero, List.set_cons_succ, List.cons_append, List.nil_append, List.append_nil, List.length_cons, List.length_nil, List.length_map, List.replicate_zero, List.replicate_succ, Bool.and_true, Bool.true_and, Bool.not_true, Bool.not_false, Bool.false_eq_true, Bool.not_eq_true', decide_eq_true_eq, decide_eq_false_iff_not, Bool.and_eq_true, Bool.or_eq_true, Nat.reduceAdd, Nat.reduceSub, Nat.reduceLeDiff, Nat.reduceLT, Nat.reduceEqDiff, List.take_succ_cons, Bool.or_false, Bool.or_true, Bool.false_or, Bool.true_or, Bool.and_false, Bool.false_and, List.take_zero, List.take_nil, Int.reduceLT, Int.reduceLE, Int.reduceNeg, Int.reduceAdd, Int.reduceSub, Int.reduceMul, Int.reduceEq, Int.reduceToNat, Int.reducePow, and_true, true_and, and_false, false_and, or_true, true_or, or_false, false_or, not_true_eq_false, not_false_eq_true, eq_self, if_true, if_false, ite_self, decide_true, decide_false, ite_not, List.map_cons, List.map_nil, List.cons.injEq, reduceCtorEq, List.isEmpty_cons, Int.natCast_one, Int.cast_ofNat_Int, Int.natCast_zero, Int.toNat_natCast, *])
section
variable {b : Bk} {r : RowS} {c : Nat} {μ : List D}
theorem is_end_eq : r_FieldRow_is_end [.fo "FieldRow" sh_FieldRow (fzL (r.l b))] μ = some (.bl (decide (r.lab ∈ r.ends))) := by
  have e := @Name_told_eq b.n r.room r.ends r.lab
  unfold r_FieldRow_is_end f_FieldRow_is_end
  walk_at "kr"
theorem value_for_eq : r_FieldRow_value_for [.fo "FieldRow" sh_FieldRow (fzL (r.l b))] μ = some ((valueFor r.ends r.lab).d b) := by
  have e := @Name_told_eq b.n r.room r.ends r.lab
  have e2 := @is_end_eq b r
  unfold r_FieldRow_value_for f_FieldRow_value_for valueFor r_Value___init__ f_Value___init__ r_Number___init__ f_Number___init__ r_Exact___init__ f_Exact___init__
  walk_at "kr"
  (repeat' split) <;> rfl
theorem row_whole_eq : r_FieldRow_whole [.fo "FieldRow" sh_FieldRow (fzL (r.l b))] μ = some (.bl (decide (r.tail = 2))) := by
  have e := @RowEnd_good_eq r.tail
  unfold r_FieldRow_whole f_FieldRow_whole
  walk_at "kr"
theorem row_fed_eq (ok : RowOk b r) : r_FieldRow_fed [.obj "FieldRow" sh_FieldRow (r.l b), .str [c]] μ = some (fedR ((r.fed b c).map (RowS.d b)) (r.d b) c μ) := by
  obtain ⟨k1, _, _, k2, k3, k4, k5⟩ := ok
  obtain ⟨room, ends, lab, gap, fil, tail⟩ := r
  simp only at k1 k2 k3 k4 k5
  unfold r_FieldRow_fed f_FieldRow_fed RowS.fed RowS.gd
  simp only
  by_cases h1 : 0 < tail
  · have h1' : (0 : Int) < tail := by omega
    have e1 := @RowEnd_fed_eq tail c
    clear k1 k2 k3 k4 k5
    unfold endF
    by_cases h2 : ([59, 10] : List Nat)[tail]? = some c
    · simp only [h2, decide_true, if_true] at e1
      simp only [h1, h2, if_true, fedR, Option.map_some]
      walk_at "kr"
    · simp only [h2, decide_false, if_false] at e1
      simp only [h1, h2, if_true, if_false, fedR, Option.map_none]
      walk_at "kr"
  · have h1' : ¬ (0 : Int) < tail := by omega
    rw [if_neg h1]
    have e1 := @RowEnd_fed_eq tail c
    cases hf : fil with
    | no =>
      subst hf
      simp only
      by_cases h2 : 0 < gap
      · have h2' : (0 : Int) < gap := by omega
        have e2 := fun μ => @Exact_fed_eq [58, 32] gap c μ (by decide)
        have e6 := @value_for_eq b
        rw [if_pos h2]
        clear e1
        by_cases h3 : ([58, 32] : List Nat)[gap]? = some c
        · simp only [h3, decide_true, if_true] at e2
          simp only [h3, if_true, fedR, Option.map_some]
          have e7 : noO μ.length ((valueFor ends lab).d b) = true := by
            unfold valueFor
            (repeat' split) <;> rfl
          walk_at "kr"
        · simp only [h3, decide_false, if_false] at e2
          simp only [h3, if_false, fedR, Option.map_none]
          walk_at "kr"
      · have h2' : ¬ (0 : Int) < gap := by omega
        have e4 := @Name_told_eq b.n room ends lab
        have e5 := fun μ => @Name_good_eq b.n room ends lab μ (by omega)
        have e3 := fun μ => @Name_fed_eq b.n room ends lab c μ (by omega) (by omega)
        have e2 := fun μ => @Exact_fed_eq [58, 32] gap c μ (by decide)
        rw [if_neg h2]
        by_cases h3 : c = 59 ∧ lab = []
        · obtain ⟨rfl, rfl⟩ := h3
          have e8 : tail = 0 := by omega
          subst e8
          simp only [and_self, if_true, fedR, Option.map_some]
          clear e1 e2 e3 e5
          have e1 : ∀ μ, r_Exact_fed [.obj "RowEnd" sh_RowEnd [.str [59, 10], .int 0], .str [59]] μ = some (.ok (.bl true) [.obj "RowEnd" sh_RowEnd [.str [59, 10], .int (0 + 1)], .str [59]] μ) := fun μ => (RowEnd_fed_eq (m := 0) (c := 59)).trans rfl
          walk_at "kr"
          rfl
        · rw [if_neg h3]
          by_cases h4 : c = 58 ∧ G.gd b.n room ends lab = true
          · have e8 : gap = 0 := by omega
            subst e8
            simp only [h4, and_self, if_true, fedR, Option.map_some]
            clear e1 e2 e3
            have e2 : ∀ μ, r_Exact_fed [.obj "Exact" sh_Exact [.str [58, 32], .int 0], .str [58]] μ = some (.ok (.bl true) [.obj "Exact" sh_Exact [.str [58, 32], .int (0 + 1)], .str [58]] μ) := fun μ => (Exact_fed_eq (t := [58, 32]) (m := 0) (c := 58) (by decide)).trans rfl
            obtain ⟨rfl, h4⟩ := h4
            walk_at "kr"
            rfl
          · rw [if_neg h4]
            clear e1 e2
            cases h5 : (sm c && hp b.n room ends (lab ++ [c]))
            · simp only [h5, Bool.false_eq_true, if_false, fedR] at e3
              simp only [Bool.false_eq_true, if_false, fedR, Option.map_none]
              walk_at "kr"
              rfl
            · simp only [h5, if_true, fedR] at e3
              simp only [if_true, fedR, Option.map_some]
              walk_at "kr"
              rfl
    | val t =>
      subst hf
      simp only
      have e8 : tail = 0 := by omega
      subst e8
      have e1 : ∀ μ, r_Exact_fed [.obj "RowEnd" sh_RowEnd [.str [59, 10], .int 0], .str [59]] μ = some (.ok (.bl true) [.obj "RowEnd" sh_RowEnd [.str [59, 10], .int (0 + 1)], .str [59]] μ) := fun μ => (RowEnd_fed_eq (m := 0) (c := 59)).trans rfl
      have e2 := fun μ => @Value_good_eq b.v t μ (by have := k4 t rfl; omega)
      have e3 := fun μ => @Value_fed_eq b.v t c μ (by have := k4 t rfl; omega)
      unfold Fil.good
      simp only
      by_cases h2 : vGood t = true ∧ c = 59
      · obtain ⟨h2, rfl⟩ := h2
        simp only [h2, and_self, if_true, fedR, Option.map_some]
        simp only [h2] at e2
        clear e3
        walk_at "kr"
        rfl
      · rw [if_neg h2]
        unfold Fil.fed
        simp only
        generalize vGood t = g at e2 h2
        clear e1
        cases h3 : vOk b.v t c
        · simp only [h3, Bool.false_eq_true, if_false, fedR] at e3
          simp only [Bool.false_eq_true, if_false, fedR, Option.map_none]
          walk_at "kr"
          rfl
        · simp only [h3, if_true, fedR] at e3
          simp only [if_true, fedR, Option.map_some]
          walk_at "kr"
          rfl
    | num f n =>
      subst hf
      simp only
      have e8 : tail = 0 := by omega
      subst e8
      have e1 : ∀ μ, r_Exact_fed [.obj "RowEnd" sh_RowEnd [.str [59, 10], .int 0], .str [59]] μ = some (.ok (.bl true) [.obj "RowEnd" sh_RowEnd [.str [59, 10], .int (0 + 1)], .str [59]] μ) := fun μ => (RowEnd_fed_eq (m := 0) (c := 59)).trans rfl
      have e2 := @Number_good_eq f 10 b.b n
      have e3 := fun μ => @Number_fed_eq f 10 b.b n c μ (.inl rfl) (by have := k5 f n rfl; omega)
      unfold Fil.good
      simp only
      by_cases h2 : decide (f ≠ []) = true ∧ c = 59
      · obtain ⟨h2, rfl⟩ := h2
        simp only [h2, and_self, if_true, fedR, Option.map_some]
        simp only [h2] at e2
        clear e3
        walk_at "kr"
        rfl
      · rw [if_neg h2]
        unfold Fil.fed
        simp only
        generalize decide (f ≠ []) = g at e2 h2
        clear e1
        cases h3 : numF 10 b.b f n c
        · simp only [h3, fedR, Option.map_none] at e3
          simp only [fedR, Option.map_none]
          walk_at "kr"
          rfl
        · simp only [h3, fedR, Option.map_some] at e3
          simp only [fedR, Option.map_some]
          walk_at "kr"
          rfl
    | yes m =>
      subst hf
      simp only
      have e8 : tail = 0 := by omega
      subst e8
      have e1 : ∀ μ, r_Exact_fed [.obj "RowEnd" sh_RowEnd [.str [59, 10], .int 0], .str [59]] μ = some (.ok (.bl true) [.obj "RowEnd" sh_RowEnd [.str [59, 10], .int (0 + 1)], .str [59]] μ) := fun μ => (RowEnd_fed_eq (m := 0) (c := 59)).trans rfl
      have e2 := fun μ => (@Exact_good_eq yesN m μ (by decide))
      simp only [List.length_cons, List.length_nil, Nat.reduceAdd] at e2
      have e3 := fun μ => @Exact_fed_eq yesN m c μ (by decide)
      unfold Fil.good
      simp only
      by_cases h2 : decide (m = 3) = true ∧ c = 59
      · obtain ⟨h2, rfl⟩ := h2
        simp only [h2, and_self, if_true, fedR, Option.map_some]
        simp only [h2] at e2
        clear e3
        walk_at "kr"
        rfl
      · rw [if_neg h2]
        unfold Fil.fed
        simp only
        generalize decide (m = 3) = g at e2 h2
        clear e1
        by_cases h3 : yesN[m]? = some c
        · simp only [h3, decide_true, if_true] at e3
          simp only [h3, if_true, fedR, Option.map_some]
          walk_at "kr"
          rfl
        · simp only [h3, decide_false, if_false] at e3
          simp only [h3, if_false, fedR, Option.map_none]
          walk_at "kr"
          rfl
end
local macro_rules | `(tactic| walk_at "kr") => `(tactic| simp (disch := walk_at "d") only [rowset, filset, kset, kset2, kset5, kset6, kset10, klaw, Option.bind_some, Option.map_some, Option.bind_none, Option.map_none, List.getElem?_cons_zero, List.getElem?_cons_succ, List.set_cons_zero, List.set_cons_succ, List.cons_append, List.nil_append, List.append_nil, List.length_cons, List.length_nil, List.length_map, List.replicate_zero, List.replicate_succ, Bool.and_true, Bool.true_and, Bool.not_true, Bool.not_false, Bool.false_eq_true, Bool.not_eq_true', decide_eq_true_eq, decide_eq_false_iff_not, Bool.and_eq_true, Bool.or_eq_true, Nat.reduceAdd, Nat.reduceSub, Nat.reduceLeDiff, Nat.reduceLT, Nat.reduceEqDiff, List.take_succ_cons, Bool.or_false, Bool.or_true, Bool.false_or, Bool.true_or, Bool.and_false, Bool.false_and, List.take_zero, List.take_nil, Int.reduceLT, Int.reduceLE, Int.reduceNeg, Int.reduceAdd, Int.reduceSub, Int.reduceMul, Int.reduceEq, Int.reduceToNat, Int.reducePow, and_true, true_and, and_false, false_and, or_true, true_or, or_false, false_or, not_true_eq_false, not_false_eq_true, eq_self, if_true, if_false, ite_self, decide_true, decide_false, ite_not, List.map_cons, List.map_nil, List.cons.injEq, reduceCtorEq, List.isEmpty_cons, Int.natCast_one, Int.cast_ofNat_Int, Int.natCast_zero, Int.toNat_natCast, *])
section
variable {b : Bk} {r : RowS} {c : Nat} {μ : List D}
theorem row_init_eq {room : Int} {ends : List (List Nat)} : r_FieldRow___init__ [.obj "FieldRow" [] [], .tup b.l, .int room, .tup (ends.map D.str)] μ = some (.ok .non [(RowS.new room ends).d b, .tup b.l, .int room, .tup (ends.map D.str)] μ) := by
  unfold r_FieldRow___init__ f_FieldRow___init__ r_Name___init__ f_Name___init__ r_Exact___init__ f_Exact___init__ r_RowEnd___init__ f_RowEnd___init__ r_Exact___init__ f_Exact___init__
  walk_at "kr"
  rfl
def RowS.aw (b : Bk) (r : RowS) : List Nat :=
  if 0 < r.tail then ([59, 10] : List Nat).drop r.tail
  else match r.fil with
    | .no =>
      if r.lab = [] then [59, 10]
      else if 0 < r.gap then 32 :: ((valueFor r.ends r.lab).aw ++ [59, 10])
      else G.aw b.n r.room r.ends r.lab ++ ([58, 32] ++ ((valueFor r.ends (r.lab ++ G.aw b.n r.room r.ends r.lab)).aw ++ [59, 10]))
    | z => z.aw ++ [59, 10]
theorem aw_len {most room : Int} {ends : List (List Nat)} {t : List Nat} (he : ∀ e ∈ ends, e.length ≤ 10) : (G.aw most room ends t).length ≤ 10 := by
  unfold G.aw
  split
  · decide
  · split
    · decide
    · split
      · rename_i e h
        have := he e (List.mem_of_find?_eq_some h)
        rw [List.length_drop]
        omega
      · decide
theorem row_told_eq (ok : RowOk b r) : r_FieldRow_told [.fo "FieldRow" sh_FieldRow (fzL (r.l b))] μ = some (match r.fil with
    | .no => .tup []
    | .val t => .tup [.str r.lab, .str t]
    | .num _ n => .tup [.str r.lab, .int n]
    | .yes _ => .tup [.str r.lab, .str yesN]) := by
  have e1 := @Name_told_eq b.n r.room r.ends r.lab
  have e2 := @Value_told_eq b.v
  have e3 := fun f n => @Number_told_eq f 10 b.b n
  have e4 := fun (m : Nat) => @Exact_told_eq yesN m
  unfold r_FieldRow_told f_FieldRow_told
  cases h : r.fil <;> walk_at "kr"
theorem number_begun_eq : r_FieldRow_number_begun [.fo "FieldRow" sh_FieldRow (fzL (r.l b))] μ = some (match r.fil with
    | .no => .int 0
    | .val t => if r.lab = lengthN ∧ r.lab ∈ r.ends then .str t else .int 0
    | .num _ n => if r.lab = lengthN ∧ r.lab ∈ r.ends then .int n else .int 0
    | .yes _ => if r.lab = lengthN ∧ r.lab ∈ r.ends then .str yesN else .int 0) := by
  have e1 := @Name_told_eq b.n r.room r.ends r.lab
  have e2 := @Value_told_eq b.v
  have e3 := fun f n => @Number_told_eq f 10 b.b n
  have e4 := fun (m : Nat) => @Exact_told_eq yesN m
  have e5 := @is_end_eq b r
  unfold r_FieldRow_number_begun f_FieldRow_number_begun
  cases h : r.fil <;> walk_at "kr" <;> (repeat' split) <;> first | rfl | grind
theorem fil_aw_eq (ok : RowOk b r) (z : Fil) (hz : z = r.fil ∨ z = valueFor r.ends r.lab ∨ ∃ l, z = valueFor r.ends l) (hn : z ≠ .no) : ∃ c ns ds run, z.d b = .obj c ns ds ∧ fidx "awaited" ns = none ∧ mt_awaited_Exact_Number_Value c = some run ∧ ∀ μ, run [.fo c ns (fzL ds)] μ = some (.str z.aw) := by
  have hv : ∀ ends l t, valueFor ends l = .val t → t = [] := by
    intro ends l t h
    unfold valueFor at h
    split at h
    · split at h <;> cases h
    · cases h; rfl
  have hm : ∀ ends l f n, valueFor ends l = .num f n → f = [] := by
    intro ends l f n h
    unfold valueFor at h
    split at h
    · split at h <;> cases h; rfl
    · cases h
  cases z with
  | no => exact absurd rfl hn
  | val t =>
    have hl : t.length ≤ 1000 := by
      rcases hz with h | h | ⟨l, h⟩
      · exact ok.fv t h.symm
      · rw [hv _ _ t h.symm]; decide
      · rw [hv _ _ t h.symm]; decide
    exact ⟨_, _, _, _, rfl, by decide +kernel, rfl, fun μ => Value_awaited_eq (by omega)⟩
  | num f n => exact ⟨_, _, _, _, rfl, by decide +kernel, rfl, fun μ => Number_awaited_eq⟩
  | yes m => exact ⟨_, _, _, _, rfl, by decide +kernel, rfl, fun μ => Exact_awaited_eq (by decide)⟩
theorem vf_no (ends : List (List Nat)) (l : List Nat) : valueFor ends l ≠ .no := by
  unfold valueFor
  (repeat' split) <;> exact fun h => nomatch h
theorem vf_noO (n : Nat) (ends : List (List Nat)) (l : List Nat) : noO n ((valueFor ends l).d b) = true := by
  unfold valueFor
  (repeat' split) <;> rfl
theorem fil_aw_len (ok : RowOk b r) (z : Fil) (hz : z.aw.length ≤ 3 ∨ True) : z.aw.length ≤ 3 := by
  unfold Fil.aw
  split
  · decide
  · split <;> decide
  · split <;> decide
  · rw [List.length_drop]
    exact Nat.le_trans (Nat.sub_le _ _) (by decide)
theorem row_aw_eq (ok : RowOk b r) : r_FieldRow_awaited [.fo "FieldRow" sh_FieldRow (fzL (r.l b))] μ = some (.str (r.aw b)) := by
  have e1 := fun (m : Nat) μ => @RowEnd_awaited_eq m μ
  have e2 := @Name_told_eq b.n r.room r.ends r.lab
  have e3 := fun μ => @Name_awaited_eq b.n r.room r.ends r.lab μ (by have := ok.lab; omega) (fun e he => by have := ok.ee e he; omega)
  have e4 := @value_for_eq b
  have e5 := @row_init_eq b
  have l1 := @aw_len b.n r.room r.ends r.lab ok.ee
  have l2 := ok.lab
  unfold r_FieldRow_awaited f_FieldRow_awaited RowS.aw
  by_cases h1 : 0 < r.tail
  · have h1' : (0 : Int) < r.tail := by omega
    clear e2 e3 e4 e5 l1 l2 ok
    walk_at "kr"
  · have h1' : ¬ (0 : Int) < r.tail := by omega
    have h0 : r.tail = 0 := by omega
    rw [if_neg h1]
    cases hf : r.fil with
    | no =>
      simp only
      by_cases h2 : r.lab = []
      · rw [if_pos h2]
        clear e3 e4 e5 l1 ok
        rw [h2] at e2
        clear e1
        have e1 : ∀ μ, r_Exact_awaited [.fo "RowEnd" sh_RowEnd [.str [59, 10], .int 0]] μ = some (.str [59, 10]) := fun μ => RowEnd_awaited_eq (m := 0)
        walk_at "kr"
      · rw [if_neg h2]
        by_cases h3 : 0 < r.gap
        · have h3' : (0 : Int) < r.gap := by omega
          rw [if_pos h3]
          obtain ⟨cn, ns, ds, run, f1, f2, f3, f4⟩ := fil_aw_eq ok (valueFor r.ends r.lab) (.inr (.inl rfl)) (vf_no _ _)
          have f5 := vf_noO (b := b) μ.length r.ends r.lab
          have f6 := fil_aw_len ok (valueFor r.ends r.lab) (.inr trivial)
          rw [f1] at f5
          clear ok e5 e1
          have e1 : ∀ μ, r_Exact_awaited [.fo "RowEnd" sh_RowEnd [.str [59, 10], .int 0]] μ = some (.str [59, 10]) := fun μ => RowEnd_awaited_eq (m := 0)
          walk_at "kr"
        · have h3' : ¬ (0 : Int) < r.gap := by omega
          rw [if_neg h3]
          obtain ⟨cn, ns, ds, run, f1, f2, f3, f4⟩ := fil_aw_eq ok (valueFor r.ends (r.lab ++ G.aw b.n r.room r.ends r.lab)) (.inr (.inr ⟨_, rfl⟩)) (vf_no _ _)
          have f5 := vf_noO (b := b) μ.length r.ends (r.lab ++ G.aw b.n r.room r.ends r.lab)
          have f6 := fil_aw_len ok (valueFor r.ends (r.lab ++ G.aw b.n r.room r.ends r.lab)) (.inr trivial)
          rw [f1] at f5
          clear ok e1
          have e1 : ∀ μ, r_Exact_awaited [.fo "RowEnd" sh_RowEnd [.str [59, 10], .int 0]] μ = some (.str [59, 10]) := fun μ => RowEnd_awaited_eq (m := 0)
          have n1 : (RowS.new 1 r.ends).ends = r.ends := rfl
          have n2 : (RowS.new 1 r.ends).room = 1 := rfl
          have n3 : ∀ t, (RowS.l b (RowS.new 1 r.ends)).set 2 (.obj "Name" sh_Name [.int b.n, .int 1, .tup (r.ends.map D.str), .str t]) = RowS.l b ⟨1, r.ends, t, 0, .no, 0⟩ := fun _ => rfl
          walk_at "kr"
          simp only [List.append_assoc, List.cons_append, List.nil_append]
    | _ =>
      obtain ⟨cn, ns, ds, run, f1, f2, f3, f4⟩ := fil_aw_eq ok r.fil (.inl rfl) (by rw [hf]; exact fun h => nomatch h)
      have f6 := fil_aw_len ok r.fil (.inr trivial)
      simp only [← hf]
      have hn : isNonD (r.fil.d b) = false := by rw [f1]; rfl
      clear ok e1 e2 e3 e4 e5 hf
      have e1 : ∀ μ, r_Exact_awaited [.fo "RowEnd" sh_RowEnd [.str [59, 10], .int 0]] μ = some (.str [59, 10]) := fun μ => RowEnd_awaited_eq (m := 0)
      walk_at "kr"
end

/-! ### Fields -/
structure FldS where
  room : Int
  ends : List (List Nat)
  kept : List (List Nat × List Nat)
  closing : Option (List Nat × Int)
  ready : Bool
  row : RowS
def pairD (z : List Nat × List Nat) : D := .tup [.str z.1, .str z.2]
def closD : Option (List Nat × Int) → D
  | none => .non
  | some z => .tup [.str z.1, .int z.2]
def FldS.l (b : Bk) (s : FldS) : List D := [.tup b.l, .int s.room, .tup (s.ends.map D.str), .ml (s.kept.map pairD), closD s.closing, .bl s.ready, s.row.d b]
abbrev FldS.d (b : Bk) (s : FldS) : D := .obj "Fields" sh_Fields (s.l b)
def FldS.new (room : Int) (ends : List (List Nat)) : FldS := ⟨room, ends, [], none, false, RowS.new room ends⟩
theorem kept_data : ∀ l : List (List Nat × List Nat), dataL (l.map pairD) = true := dataL_map fun _ => rfl
theorem kept_noLL : ∀ l : List (List Nat × List Nat), noLL (l.map pairD) = true
  | [] => rfl
  | _ :: l => kept_noLL l
theorem kept_fz : ∀ l : List (List Nat × List Nat), fzL (l.map pairD) = l.map pairD := fun l => fzL_data _ (kept_data l)
theorem clos_data (o : Option (List Nat × Int)) : data (closD o) = true := by cases o <;> rfl
theorem clos_fz (o : Option (List Nat × Int)) : fz (closD o) = closD o := by cases o <;> rfl
theorem clos_noL (o : Option (List Nat × Int)) : noL (closD o) = true := by cases o <;> rfl
theorem fldset : (∀ (b : Bk) (s : FldS), (s.l b)[0]? = some (.tup b.l)) ∧ (∀ (b : Bk) (s : FldS), (s.l b)[1]? = some (.int s.room)) ∧ (∀ (b : Bk) (s : FldS), (s.l b)[2]? = some (.tup (s.ends.map D.str))) ∧
    (∀ (b : Bk) (s : FldS), (s.l b)[3]? = some (.ml (s.kept.map pairD))) ∧ (∀ (b : Bk) (s : FldS), (s.l b)[4]? = some (closD s.closing)) ∧ (∀ (b : Bk) (s : FldS), (s.l b)[5]? = some (.bl s.ready)) ∧ (∀ (b : Bk) (s : FldS), (s.l b)[6]? = some (s.row.d b)) ∧
    (∀ (b : Bk) (s : FldS), (fzL (s.l b))[0]? = some (.tup b.l)) ∧ (∀ (b : Bk) (s : FldS), (fzL (s.l b))[1]? = some (.int s.room)) ∧ (∀ (b : Bk) (s : FldS), (fzL (s.l b))[2]? = some (.tup (s.ends.map D.str))) ∧
    (∀ (b : Bk) (s : FldS), (fzL (s.l b))[3]? = some (.lst (s.kept.map pairD))) ∧ (∀ (b : Bk) (s : FldS), (fzL (s.l b))[4]? = some (closD s.closing)) ∧ (∀ (b : Bk) (s : FldS), (fzL (s.l b))[5]? = some (.bl s.ready)) ∧ (∀ (b : Bk) (s : FldS), (fzL (s.l b))[6]? = some (.fo "FieldRow" sh_FieldRow (fzL (s.row.l b)))) ∧
    (∀ (b : Bk) (s : FldS) (i : Int), (s.l b).set 1 (.int i) = ({ s with room := i } : FldS).l b) ∧ (∀ (b : Bk) (s : FldS) (k : List (List Nat × List Nat)), (s.l b).set 3 (.ml (k.map pairD)) = ({ s with kept := k } : FldS).l b) ∧
    (∀ (b : Bk) (s : FldS) (t : List Nat) (i : Int), (s.l b).set 4 (.tup [.str t, .int i]) = ({ s with closing := some (t, i) } : FldS).l b) ∧ (∀ (b : Bk) (s : FldS) (x : Bool), (s.l b).set 5 (.bl x) = ({ s with ready := x } : FldS).l b) ∧
    (∀ (b : Bk) (s : FldS) (r : RowS), (s.l b).set 6 (r.d b) = ({ s with row := r } : FldS).l b) ∧
    (∀ l : List (List Nat × List Nat), dataL (l.map pairD) = true) ∧ (∀ l : List (List Nat × List Nat), noLL (l.map pairD) = true) ∧ (∀ l : List (List Nat × List Nat), fzL (l.map pairD) = l.map pairD) ∧ (∀ o, data (closD o) = true) ∧ (∀ o, fz (closD o) = closD o) ∧ (∀ o, noL (closD o) = true) ∧
    (∀ (l : List (List Nat × List Nat)) (a v : List Nat), l.map pairD ++ [.tup [.str a, .str v]] = (l ++ [(a, v)]).map pairD) := by
  refine ⟨fun _ _ => rfl, fun _ _ => rfl, fun _ _ => rfl, fun _ _ => rfl, fun _ _ => rfl, fun _ _ => rfl, fun _ _ => rfl, fun _ _ => rfl, fun _ _ => rfl, fun b s => ?_, fun b s => ?_, fun b s => ?_, fun _ _ => rfl, fun _ _ => rfl, fun _ _ _ => rfl, fun _ _ _ => rfl, fun _ _ _ _ => rfl, fun _ _ _ => rfl, fun _ _ _ => rfl, kept_data, kept_noLL, kept_fz, clos_data, clos_fz, clos_noL, fun l a v => ?_⟩
  · show some (D.tup (fzL (s.ends.map D.str))) = _
    rw [fzL_strs]
  · show some (D.lst (fzL (s.kept.map pairD))) = _
    rw [kept_fz]
  · show some (fz (closD s.closing)) = _
    rw [clos_fz]
  · rw [List.map_append]; rfl
local macro_rules | `(tactic| walk_at "kf") => `(tactic| simp (disch := walk_at "d") only [fldset, kset, kset2, kset5, kset6, kset10, klaw, Option.bind_some, Option.map_some, Option.bind_none, Option.map_none, List.getElem?_cons_zero, List.getElem?_cons_succ, List.set_cons_zero, List.set_cons_succ, List.cons_append, List.nil_append, List.append_nil, List.length_cons, List.length_nil, List.length_map, List.replicate_zero, List.replicate_succ, Bool.and_true, Bool.true_and, Bool.not_true, Bool.not_false, Bool.false_eq_true, Bool.not_eq_true', decide_eq_true_eq, decide_eq_false_iff_not, Bool.and_eq_true, Bool.or_eq_true, Nat.reduceAdd, Nat.reduceSub, Nat.reduceLeDiff, Nat.reduceLT, Nat.reduceEqDiff, List.take_succ_cons, Bool.or_false, Bool.or_true, Bool.false_or, Bool.true_or, Bool.and_false, Bool.false_and, List.take_zero, List.take_nil, Int.reduceLT, Int.reduceLE, Int.reduceNeg, Int.reduceAdd, Int.reduceSub, Int.reduceMul, Int.reduceEq, Int.reduceToNat, Int.reducePow, and_true, true_and, and_false, false_and, or_true, true_or, or_false, false_or, not_true_eq_false, not_false_eq_true, eq_self, if_true, if_false, ite_self, decide_true, decide_false, ite_not, List.map_cons, List.map_nil, List.cons.injEq, reduceCtorEq, List.isEmpty_cons, Int.natCast_one, Int.cast_ofNat_Int, Int.natCast_zero, Int.toNat_natCast, *])
section
variable {b : Bk} {s : FldS} {c : Nat} {μ : List D}
theorem fields_init_eq {room : Int} {ends : List (List Nat)} : r_Fields___init__ [.obj "Fields" [] [], .tup b.l, .int room, .tup (ends.map D.str)] μ = some (.ok .non [(FldS.new room ends).d b, .tup b.l, .int room, .tup (ends.map D.str)] μ) := by
  have e := @row_init_eq b
  unfold r_Fields___init__ f_Fields___init__
  walk_at "kf"
  rfl
theorem fields_whole_eq : r_Fields_whole [.fo "Fields" sh_Fields (fzL (s.l b))] μ = some (.bl s.ready) := by
  unfold r_Fields_whole f_Fields_whole
  walk_at "kf"
theorem fields_told_eq : r_Fields_told [.fo "Fields" sh_Fields (fzL (s.l b))] μ = some (.tup (s.kept.map pairD)) := by
  unfold r_Fields_told f_Fields_told
  walk_at "kf"
theorem fields_told_end_eq : r_Fields_told_end [.fo "Fields" sh_Fields (fzL (s.l b))] μ = some (closD s.closing) := by
  unfold r_Fields_told_end f_Fields_told_end
  walk_at "kf"
theorem fields_room_left_eq : r_Fields_room_left [.fo "Fields" sh_Fields (fzL (s.l b))] μ = some (.int s.room) := by
  unfold r_Fields_room_left f_Fields_room_left
  walk_at "kf"
end
local macro_rules | `(tactic| walk_at "kr") => `(tactic| simp (disch := walk_at "d") only [rowset, filset, kset, kset2, kset5, kset6, kset10, klaw, Option.bind_some, Option.map_some, Option.bind_none, Option.map_none, List.getElem?_cons_zero, List.getElem?_cons_succ, List.set_cons_zero, List.set_cons_succ, List.cons_append, List.nil_append, List.append_nil, List.length_cons, List.length_nil, List.length_map, List.replicate_zero, List.replicate_succ, Bool.and_true, Bool.true_and, Bool.not_true, Bool.not_false, Bool.false_eq_true, Bool.not_eq_true', decide_eq_true_eq, decide_eq_false_iff_not, Bool.and_eq_true, Bool.or_eq_true, Nat.reduceAdd, Nat.reduceSub, Nat.reduceLeDiff, Nat.reduceLT, Nat.reduceEqDiff, List.take_succ_cons, Bool.or_false, Bool.or_true, Bool.false_or, Bool.true_or, Bool.and_false, Bool.false_and, List.take_zero, List.take_nil, Int.reduceLT, Int.reduceLE, Int.reduceNeg, Int.reduceAdd, Int.reduceSub, Int.reduceMul, Int.reduceEq, Int.reduceToNat, Int.reducePow, and_true, true_and, and_false, false_and, or_true, true_or, or_false, false_or, not_true_eq_false, not_false_eq_true, eq_self, if_true, if_false, ite_self, decide_true, decide_false, ite_not, List.map_cons, List.map_nil, List.cons.injEq, reduceCtorEq, List.isEmpty_cons, Int.natCast_one, Int.cast_ofNat_Int, Int.natCast_zero, Int.toNat_natCast, *])
local macro_rules | `(tactic| walk_at "kf") => `(tactic| simp (disch := walk_at "d") only [fldset, kset, kset2, kset5, kset6, kset10, klaw, Option.bind_some, Option.map_some, Option.bind_none, Option.map_none, List.getElem?_cons_zero, List.getElem?_cons_succ, List.set_cons_zero, List.set_cons_succ, List.cons_append, List.nil_append, List.append_nil, List.length_cons, List.length_nil, List.length_map, List.replicate_zero, List.replicate_succ, Bool.and_true, Bool.true_and, Bool.not_true, Bool.not_false, Bool.false_eq_true, Bool.not_eq_true', decide_eq_true_eq, decide_eq_false_iff_not, Bool.and_eq_true, Bool.or_eq_true, Nat.reduceAdd, Nat.reduceSub, Nat.reduceLeDiff, Nat.reduceLT, Nat.reduceEqDiff, List.take_succ_cons, Bool.or_false, Bool.or_true, Bool.false_or, Bool.true_or, Bool.and_false, Bool.false_and, List.take_zero, List.take_nil, Int.reduceLT, Int.reduceLE, Int.reduceNeg, Int.reduceAdd, Int.reduceSub, Int.reduceMul, Int.reduceEq, Int.reduceToNat, Int.reducePow, and_true, true_and, and_false, false_and, or_true, true_or, or_false, false_or, not_true_eq_false, not_false_eq_true, eq_self, if_true, if_false, ite_self, decide_true, decide_false, ite_not, List.map_cons, List.map_nil, List.cons.injEq, reduceCtorEq, List.isEmpty_cons, Int.natCast_one, Int.cast_ofNat_Int, Int.natCast_zero, Int.toNat_natCast, *])
local macro_rules | `(tactic| walk_at "kfr") => `(tactic| simp (disch := walk_at "d") only [fldset, rowset, kset, kset2, kset5, kset6, kset10, klaw, Option.bind_some, Option.map_some, Option.bind_none, Option.map_none, List.getElem?_cons_zero, List.getElem?_cons_succ, List.set_cons_zero, List.set_cons_succ, List.cons_append, List.nil_append, List.append_nil, List.length_cons, List.length_nil, List.length_map, List.replicate_zero, List.replicate_succ, Bool.and_true, Bool.true_and, Bool.not_true, Bool.not_false, Bool.false_eq_true, Bool.not_eq_true', decide_eq_true_eq, decide_eq_false_iff_not, Bool.and_eq_true, Bool.or_eq_true, Nat.reduceAdd, Nat.reduceSub, Nat.reduceLeDiff, Nat.reduceLT, Nat.reduceEqDiff, List.take_succ_cons, Bool.or_false, Bool.or_true, Bool.false_or, Bool.true_or, Bool.and_false, Bool.false_and, List.take_zero, List.take_nil, Int.reduceLT, Int.reduceLE, Int.reduceNeg, Int.reduceAdd, Int.reduceSub, Int.reduceMul, Int.reduceEq, Int.reduceToNat, Int.reducePow, and_true, true_and, and_false, false_and, or_true, true_or, or_false, false_or, not_true_eq_false, not_false_eq_true, eq_self, if_true, if_false, ite_self, decide_true, decide_false, ite_not, List.map_cons, List.map_nil, List.cons.injEq, reduceCtorEq, List.isEmpty_cons, Int.natCast_one, Int.cast_ofNat_Int, Int.natCast_zero, Int.toNat_natCast, *])
structure KindOk (r : RowS) : Prop where
  v : ∀ t, r.fil = .val t → r.lab ∉ r.ends
  n : ∀ f n, r.fil = .num f n → r.lab = lengthN ∧ r.lab ∈ r.ends
  y : ∀ m, r.fil = .yes m → r.lab ≠ lengthN ∧ r.lab ∈ r.ends
def Fil.vt : Fil → List Nat
  | .val t => t
  | _ => []
def Fil.nm : Fil → Int
  | .num _ n => n
  | _ => 0
def FldS.next (s : FldS) : FldS := match s.row.fil with
  | .no => { s with ready := true }
  | z => if s.row.lab ∈ s.row.ends then { s with closing := some (s.row.lab, z.nm), row := RowS.new 0 [] } else { s with kept := s.kept ++ [(s.row.lab, z.vt)], room := s.room - 1, row := RowS.new (s.room - 1) s.ends }
def FldS.fed (b : Bk) (s : FldS) (c : Nat) : Option FldS := if s.ready = true then none else (s.row.fed b c).map fun r => if r.tail = 2 then ({ s with row := r } : FldS).next else { s with row := r }
def FldS.aw (b : Bk) (s : FldS) : List Nat := if s.ready = true then [] else if s.row.lab = [] then s.row.aw b else s.row.aw b ++ [59, 10]
section
variable {b : Bk} {s : FldS} {c : Nat} {μ : List D}
theorem next_row_eq (ok : RowOk b s.row) (kd : KindOk s.row) (kl : s.kept.length ≤ 1000) : r_Fields_next_row [.obj "Fields" sh_Fields (s.l b)] μ = some (.ok .non [s.next.d b] μ) := by
  have e1 := fun μ => @row_told_eq b s.row μ ok
  have e2 := @is_end_eq b s.row
  have e3 := @number_begun_eq b s.row
  have e4 := @row_init_eq b
  have e5 : ∀ ends : List (List Nat), RowS.d b (RowS.new 0 []) = .obj "FieldRow" sh_FieldRow ((RowS.new 0 []).l b) := fun _ => rfl
  obtain ⟨k1, k2, k3⟩ := kd
  have c1 : cok s.row.lab = true := cok_of fun c hc => Nat.lt_trans (ok.labc c hc) (by decide)
  have c2 : ∀ t, s.row.fil = .val t → cok t = true := fun t ht => cok_of fun c hc => Nat.lt_trans (ok.fvc t ht c hc) (by decide)
  have c3 : cok yesN = true := by decide
  have e6 := e4 (μ := μ) (room := 0) (ends := [])
  rw [List.map_nil] at e6
  clear e5
  unfold r_Fields_next_row f_Fields_next_row FldS.next
  cases hf : s.row.fil with
  | no =>
    simp only [hf] at e1
    clear e2 e3 e4 e6 k1 k2 k3 c1 c2 c3 ok
    walk_at "kf"
  | val t =>
    have k1 := k1 t hf
    have c2 := c2 t hf
    simp only [hf] at e1
    clear e3 e6 k2 k3 c3 ok
    simp only [k1, decide_false, if_false] at e2 ⊢
    walk_at "kf"
    rfl
  | num f n =>
    obtain ⟨k2, k3⟩ := k2 f n hf
    simp only [hf, k2, and_self, if_true, decide_true] at e1 e3 k3
    rw [k2] at e2
    simp only [k3, and_self, if_true, decide_true] at e2 e3
    clear k1 ok c1 c2 c3
    have c4 : cok lengthN = true := by decide
    rw [k2]
    simp only [if_pos k3]
    walk_at "kf"
    rfl
  | yes m =>
    obtain ⟨k2, k3⟩ := k3 m hf
    simp only [hf, k2, false_and, if_false] at e1 e3
    simp only [k3, decide_true] at e2
    simp only [if_pos k3]
    clear k1 ok c2
    walk_at "kf"
    rfl
theorem fields_fed_eq (ok : RowOk b s.row) (ok2 : ∀ r, s.row.fed b c = some r → RowOk b r ∧ KindOk r) (kl : s.kept.length ≤ 1000) : r_Fields_fed [.obj "Fields" sh_Fields (s.l b), .str [c]] μ = some (fedR ((s.fed b c).map (FldS.d b)) (s.d b) c μ) := by
  have e1 := fun μ => @row_fed_eq b s.row c μ ok
  have e2 := @row_whole_eq b
  obtain ⟨room, ends, kept, closing, ready, row⟩ := s
  simp only at ok ok2 kl e1
  unfold r_Fields_fed f_Fields_fed FldS.fed
  simp only
  cases ready
  · cases hf : row.fed b c with
    | none =>
      simp only [hf, fedR, Option.map_none] at e1
      clear ok ok2 e2
      simp only [Bool.false_eq_true, if_false, fedR, Option.map_none]
      walk_at "kf"
    | some r =>
      simp only [hf, fedR, Option.map_some] at e1
      obtain ⟨o1, o2⟩ := ok2 r hf
      have e3 := fun μ => @next_row_eq b ⟨room, ends, kept, closing, false, r⟩ μ o1 o2 kl
      have e4 := @e2 r
      clear ok ok2 e2 o1 o2
      simp only [Bool.false_eq_true, if_false, fedR, Option.map_some]
      by_cases h : r.tail = 2
      · simp only [if_pos h]
        walk_at "kf"
      · simp only [if_neg h]
        walk_at "kf"
  · clear ok ok2 e1 e2
    simp only [if_true, fedR, Option.map_none]
    walk_at "kf"
theorem row_aw_len (ok : RowOk b s.row) : (s.row.aw b).length ≤ 1000 := by
  have l1 := @aw_len b.n s.row.room s.row.ends s.row.lab ok.ee
  have l2 := fun z => fil_aw_len ok z (.inr trivial)
  unfold RowS.aw
  split
  · rw [List.length_drop]
    exact Nat.le_trans (Nat.sub_le _ _) (by decide)
  · split
    · split
      · decide
      · split
        · have := l2 (valueFor s.row.ends s.row.lab)
          simp only [List.length_cons, List.length_append, List.length_nil]
          omega
        · have := l2 (valueFor s.row.ends (s.row.lab ++ aw b.n s.row.room s.row.ends s.row.lab))
          simp only [List.length_cons, List.length_append, List.length_nil]
          omega
    · have := l2 s.row.fil
      simp only [List.length_cons, List.length_append, List.length_nil]
      omega
theorem fields_aw_eq (ok : RowOk b s.row) : r_Fields_awaited [.fo "Fields" sh_Fields (fzL (s.l b))] μ = some (.str (s.aw b)) := by
  have e1 := fun μ => @row_aw_eq b s.row μ ok
  have e2 := @Name_told_eq b.n s.row.room s.row.ends s.row.lab
  have l1 := row_aw_len ok
  clear ok
  unfold r_Fields_awaited f_Fields_awaited FldS.aw
  cases hr : s.ready
  · by_cases h : s.row.lab = []
    · rw [h] at e2
      simp only [h, Bool.false_eq_true, if_false, if_true]
      walk_at "kfr"
    · simp only [h, Bool.false_eq_true, if_false]
      walk_at "kfr"
  · walk_at "kf"
end
/-! ### what a good field is -/
def lbl (b : Bk) (n : List Nat) : Prop := n ≠ [] ∧ (n.length : Int) ≤ b.n ∧ (∀ c ∈ n, sm c = true) ∧ n ∉ EN
def vlu (b : Bk) (v : List Nat) : Prop := v ≠ [] ∧ (v.length : Int) ≤ b.v ∧ (∀ c ∈ v, pln c = true ∧ c ≠ 10 ∧ c ≠ 59) ∧ v.headD 0 ≠ 32 ∧ v.getLastD 0 ≠ 32
/-! ### a row fed on, within -/
def rrun (b : Bk) : RowS → List Nat → Option RowS
  | r, [] => some r
  | r, c :: t => (r.fed b c).bind fun r' => if r'.tail = 2 then none else rrun b r' t
theorem rrun_app {b : Bk} : ∀ (t u : List Nat) (r : RowS), rrun b r (t ++ u) = (rrun b r t).bind fun r' => rrun b r' u
  | [], u, r => rfl
  | c :: t, u, r => by
    rw [List.cons_append]
    simp only [rrun]
    cases r.fed b c with
    | none => rfl
    | some r' =>
      simp only [Option.bind_some]
      split
      · rfl
      · exact rrun_app t u r'
def feed (b : Bk) : FldS → List Nat → Option FldS
  | s, [] => some s
  | s, c :: t => (s.fed b c).bind fun s' => feed b s' t
theorem feed_app {b : Bk} : ∀ (t u : List Nat) (s : FldS), feed b s (t ++ u) = (feed b s t).bind fun s' => feed b s' u
  | [], u, r => rfl
  | c :: t, u, s => by
    rw [List.cons_append]
    simp only [feed]
    cases s.fed b c with
    | none => rfl
    | some s' =>
      simp only [Option.bind_some]
      exact feed_app t u s'
theorem feed_run {b : Bk} {room : Int} {ends : List (List Nat)} {kept : List (List Nat × List Nat)} {cl : Option (List Nat × Int)} : ∀ (t : List Nat) (r r' : RowS), rrun b r t = some r' → feed b ⟨room, ends, kept, cl, false, r⟩ t = some ⟨room, ends, kept, cl, false, r'⟩
  | [], r, r', h => by cases h; rfl
  | c :: t, r, r', h => by
    simp only [rrun] at h
    simp only [feed, FldS.fed, Bool.false_eq_true, if_false]
    cases e : r.fed b c with
    | none => rw [e] at h; cases h
    | some r1 =>
      rw [e] at h
      simp only [Option.bind_some] at h
      split at h
      · cases h
      · rename_i ht
        simp only [Option.map_some, if_neg ht, Option.bind_some]
        exact feed_run t r1 r' h
/-! ### a name -/
theorem sm_ne {c : Nat} (h : sm c = true) : c ≠ 59 ∧ c ≠ 58 := by
  unfold sm at h
  simp at h
  omega
theorem name_run {b : Bk} {room : Int} {ends : List (List Nat)} : ∀ (q p : List Nat), (∀ c ∈ q, sm c = true) → (∀ u c, u ++ [c] <+: p ++ q → p.length ≤ u.length → hp b.n room ends (u ++ [c]) = true) → rrun b ⟨room, ends, p, 0, .no, 0⟩ q = some ⟨room, ends, p ++ q, 0, .no, 0⟩
  | [], p, _, _ => by simp [rrun]
  | c :: q, p, hs, hh => by
    have h1 := hs c (List.mem_cons_self ..)
    obtain ⟨n1, n2⟩ := sm_ne h1
    have h2 := hh p c ⟨q, by simp⟩ (Nat.le_refl _)
    simp only [rrun, RowS.fed, Nat.lt_irrefl, if_false, n1, n2, false_and, h1, h2, Bool.and_self, if_true, Option.bind_some]
    have e : p ++ c :: q = (p ++ [c]) ++ q := by simp
    rw [e]
    refine name_run q (p ++ [c]) (fun x hx => hs x (List.mem_cons_of_mem _ hx)) (fun u d hu hl => ?_)
    rw [← e] at hu
    exact hh u d hu (by simp at hl; omega)
theorem hp_pre {most room : Int} {ends : List (List Nat)} {n t : List Nat} (h : t <+: n) (g : gd most room ends n = true) (hn : n ∈ ends ∨ (0 < room ∧ (n.length : Int) ≤ most)) : hp most room ends t = true := by
  unfold hp
  rcases hn with hn | ⟨h1, h2⟩
  · have : ends.any (fun e => decide (t <+: e)) = true := List.any_eq_true.mpr ⟨n, hn, decide_eq_true h⟩
    rw [this]
    simp
  · by_cases e : t = n
    · rw [e, g]; rfl
    · have hl : t.length < n.length := by
        have := h.length_le
        rcases Nat.lt_or_ge t.length n.length with z | z
        · exact z
        · exact absurd (h.eq_of_length (by omega)) e
      rw [decide_eq_true h1, decide_eq_true (by omega)]
      simp
/-- a name, the colon, the blank -/
theorem label_run {b : Bk} {room : Int} {ends : List (List Nat)} {n : List Nat} (hs : ∀ c ∈ n, sm c = true) (g : gd b.n room ends n = true) : rrun b (RowS.new room ends) (n ++ [58, 32]) = some ⟨room, ends, n, 2, valueFor ends n, 0⟩ := by
  have hn : n ∈ ends ∨ (0 < room ∧ (n.length : Int) ≤ b.n) := by
    unfold gd at g
    simp at g
    rcases g with g | g
    · exact .inl g
    · exact .inr ⟨g.1, g.2.1.2⟩
  have h1 := name_run (b := b) (room := room) (ends := ends) n [] hs (fun u c hu _ => hp_pre (by rwa [List.nil_append] at hu) g hn)
  rw [rrun_app]
  show (rrun b ⟨room, ends, [], 0, .no, 0⟩ n).bind _ = _
  rw [h1, List.nil_append, Option.bind_some]
  simp [rrun, RowS.fed, RowS.gd, g]
/-! ### a value -/
theorem val_run {b : Bk} {room : Int} {ends : List (List Nat)} {n : List Nat} {k : Nat} : ∀ (q p : List Nat), vlu b (p ++ q) → rrun b ⟨room, ends, n, k, .val p, 0⟩ q = some ⟨room, ends, n, k, .val (p ++ q), 0⟩
  | [], p, _ => by simp [rrun]
  | c :: q, p, h => by
    obtain ⟨h1, h2, h3, h4, h5⟩ := id h
    obtain ⟨c1, c2, c3⟩ := h3 c (by simp)
    have hv : vOk b.v p c = true := by
      unfold vOk
      rw [c1]
      simp only [Bool.true_and, Bool.and_eq_true, Bool.not_eq_true', decide_eq_false_iff_not, not_or]
      rw [List.length_append, List.length_cons] at h2
      refine ⟨⟨c2, c3, by omega⟩, ?_⟩
      rintro ⟨rfl, z⟩
      rcases z with rfl | z
      · simp at h4
      · have : q = [] := by
          cases q with
          | nil => rfl
          | cons d q => simp at h2; omega
        subst this
        rw [List.getLastD_concat] at h5
        exact h5 rfl
    have hg : ¬ (vGood p = true ∧ c = 59) := fun z => c3 z.2
    simp only [rrun, RowS.fed, Nat.lt_irrefl, if_false, Fil.good, hg, Fil.fed, hv, if_true, Option.map_some, Option.bind_some]
    have e : p ++ c :: q = (p ++ [c]) ++ q := by simp
    rw [e] at h ⊢
    exact val_run q (p ++ [c]) h
/-! ### figures -/
theorem nrun (b : Bk) (room : Int) (ends : List (List Nat)) (l : List Nat) (k : Nat) : ∀ n : Nat, (n : Int) ≤ b.b → rrun b ⟨room, ends, l, k, .num [] 0, 0⟩ (TL.numL n) = some ⟨room, ends, l, k, .num (TL.numL n) n, 0⟩ := by
  intro n
  induction n using Nat.strongRecOn with
  | _ n ih =>
    intro h
    have dig : ∀ d < 10, 48 + d ∈ FIG.take 10 ∧ figv (48 + d) = d ∧ 48 + d ≠ 59 := by decide
    have step : ∀ (m : Nat) (f : List Nat) (d : Nat), d < 10 → f ≠ [48] → ((m * 10 + d : Nat) : Int) ≤ b.b → RowS.fed b ⟨room, ends, l, k, .num f m, 0⟩ (48 + d) = some ⟨room, ends, l, k, .num (f ++ [48 + d]) ((m * 10 + d : Nat) : Int), 0⟩ := by
      intro m f d hd hf hb
      obtain ⟨d1, d2, d3⟩ := dig d hd
      have hg : ¬ (decide (f ≠ []) = true ∧ 48 + d = 59) := fun z => d3 z.2
      have hn : numF 10 b.b f m (48 + d) = some (f ++ [48 + d], ((m * 10 + d : Nat) : Int)) := by
        unfold numF
        rw [d2, if_pos ⟨d1, hf, by omega⟩]
        congr 2
      simp only [RowS.fed, Nat.lt_irrefl, if_false, Fil.good, hg, Fil.fed, hn, Option.map_some]
    by_cases h10 : n < 10
    · rw [TL.numL_lt h10]
      have := step 0 [] n h10 (by simp) (by simpa using h)
      simp only [rrun]
      show (RowS.fed b ⟨room, ends, l, k, .num [] ((0 : Nat) : Int), 0⟩ (48 + n)).bind _ = _
      rw [this]
      simp
    · have i1 := ih (n / 10) (by omega) (by omega)
      rw [TL.numL_step (by omega), rrun_app, i1, Option.bind_some]
      have hne : TL.numL (n / 10) ≠ [48] := by
        intro z
        have : TL.numL (n / 10) = TL.numL 0 := by rw [z, TL.numL_lt (by decide)]
        have := TL.numL_inj this
        omega
      have := step (n / 10) (TL.numL (n / 10)) (n % 10) (by omega) hne (by omega)
      simp only [rrun]
      rw [this]
      have e : n / 10 * 10 + n % 10 = n := by omega
      rw [e]
      simp
/-! ### a whole row -/
theorem row_end {b : Bk} {room : Int} {ends : List (List Nat)} {n : List Nat} {k : Nat} {z : Fil} (g : z.good = true) : rrun b ⟨room, ends, n, k, z, 0⟩ [59] = some ⟨room, ends, n, k, z, 1⟩ := by
  cases z with
  | no => cases g
  | _ => simp [rrun, RowS.fed, g]
theorem row_nl {b : Bk} {r : RowS} (h : r.tail = 1) : r.fed b 10 = some { r with tail := 2 } := by
  simp [RowS.fed, h, endF]
/-- a field's row -/
theorem field_feed {b : Bk} {room : Int} {ends : List (List Nat)} {kept : List (List Nat × List Nat)} {n v : List Nat} (hr : 0 < room) (hn : lbl b n) (hv : vlu b v) (he : ∀ e ∈ ends, e ∈ EN) :
    feed b ⟨room, ends, kept, none, false, RowS.new room ends⟩ (n ++ ([58, 32] ++ (v ++ [59, 10]))) = some ⟨room - 1, ends, kept ++ [(n, v)], none, false, RowS.new (room - 1) ends⟩ := by
  obtain ⟨n1, n2, n3, n4⟩ := hn
  have nm : n ∉ ends := fun z => n4 (he n z)
  have g : gd b.n room ends n = true := by
    unfold gd
    rw [decide_eq_true hr, decide_eq_true (show n ≠ [] ∧ (n.length : Int) ≤ b.n from ⟨n1, n2⟩), decide_eq_false n4]
    simp
  have vg : vGood v = true := decide_eq_true ⟨hv.1, hv.2.2.2.2⟩
  have e0 : n ++ ([58, 32] ++ (v ++ [59, 10])) = ((n ++ [58, 32]) ++ v) ++ [59] ++ [10] := by simp
  have r1 := label_run (b := b) (room := room) (ends := ends) n3 g
  have vf : valueFor ends n = .val [] := by unfold valueFor; rw [if_neg nm]
  rw [vf] at r1
  have r2 := val_run (b := b) (room := room) (ends := ends) (n := n) (k := 2) v [] (by rwa [List.nil_append])
  rw [List.nil_append] at r2
  have r3 := row_end (b := b) (room := room) (ends := ends) (n := n) (k := 2) (z := .val v) vg
  have r4 : rrun b (RowS.new room ends) (((n ++ [58, 32]) ++ v) ++ [59]) = some ⟨room, ends, n, 2, .val v, 1⟩ := by
    rw [rrun_app, rrun_app, r1, Option.bind_some, r2, Option.bind_some, r3]
  rw [e0, feed_app, feed_run _ _ _ r4, Option.bind_some]
  simp only [feed, FldS.fed, Bool.false_eq_true, if_false]
  rw [row_nl rfl]
  simp [FldS.next, nm, Fil.vt]
/-- an end row -/
def endT : List Nat × Int → List Nat := fun z => if z.1 = lengthN then z.1 ++ ([58, 32] ++ (TL.numL z.2.toNat ++ [59, 10])) else z.1 ++ ([58, 32] ++ (yesN ++ [59, 10]))
theorem en_small : ∀ n ∈ EN, ∀ c ∈ n, sm c = true := by decide
theorem yes_run (b : Bk) (room : Int) (ends : List (List Nat)) (n : List Nat) (k : Nat) : rrun b ⟨room, ends, n, k, .yes 0, 0⟩ (yesN ++ [59]) = some ⟨room, ends, n, k, .yes 3, 1⟩ := by
  simp [rrun, RowS.fed, Fil.good, Fil.fed]
theorem num_good (n : Nat) (i : Int) : (Fil.num (TL.numL n) i).good = true := by
  unfold Fil.good
  simp only
  exact decide_eq_true (TL.numL_ne n)
theorem endrow_feed {b : Bk} {room : Int} {ends : List (List Nat)} {kept : List (List Nat × List Nat)} {n : List Nat} {i : Int} (hn : n ∈ ends) (he : ∀ e ∈ ends, e ∈ EN) (h0 : 0 ≤ i) (hi : i ≤ b.b) (hi2 : n ≠ lengthN → i = 0) :
    feed b ⟨room, ends, kept, none, false, RowS.new room ends⟩ (endT (n, i)) = some ⟨room, ends, kept, some (n, i), false, RowS.new 0 []⟩ := by
  have g : gd b.n room ends n = true := by
    unfold gd
    rw [decide_eq_true hn]
    rfl
  have r1 := label_run (b := b) (room := room) (ends := ends) (en_small n (he n hn)) g
  unfold endT
  simp only
  by_cases hl : n = lengthN
  · rw [if_pos hl]
    have vf : valueFor ends n = .num [] 0 := by unfold valueFor; rw [if_pos hn, if_pos hl]
    rw [vf] at r1
    have r2 := nrun b room ends n 2 i.toNat (by omega)
    have r3 := row_end (b := b) (room := room) (ends := ends) (n := n) (k := 2) (num_good i.toNat (i.toNat : Nat))
    have r4 : rrun b (RowS.new room ends) (((n ++ [58, 32]) ++ TL.numL i.toNat) ++ [59]) = some ⟨room, ends, n, 2, .num (TL.numL i.toNat) (i.toNat : Nat), 1⟩ := by
      rw [rrun_app, rrun_app, r1, Option.bind_some, r2, Option.bind_some, r3]
    have e0 : n ++ ([58, 32] ++ (TL.numL i.toNat ++ [59, 10])) = ((n ++ [58, 32]) ++ TL.numL i.toNat) ++ [59] ++ [10] := by simp
    rw [e0, feed_app, feed_run _ _ _ r4, Option.bind_some]
    simp only [feed, FldS.fed, Bool.false_eq_true, if_false]
    rw [row_nl rfl]
    simp [FldS.next, hn, Fil.nm]
    omega
  · rw [if_neg hl]
    have vf : valueFor ends n = .yes 0 := by unfold valueFor; rw [if_pos hn, if_neg hl]
    rw [vf] at r1
    have r2 := yes_run b room ends n 2
    have r4 : rrun b (RowS.new room ends) ((n ++ [58, 32]) ++ (yesN ++ [59])) = some ⟨room, ends, n, 2, .yes 3, 1⟩ := by
      rw [rrun_app, r1, Option.bind_some, r2]
    have e0 : n ++ ([58, 32] ++ (yesN ++ [59, 10])) = ((n ++ [58, 32]) ++ (yesN ++ [59])) ++ [10] := by simp
    rw [e0, feed_app, feed_run _ _ _ r4, Option.bind_some]
    simp only [feed, FldS.fed, Bool.false_eq_true, if_false]
    rw [row_nl rfl]
    simp [FldS.next, hn, Fil.nm, hi2 hl]
/-- the empty row -/
theorem empty_feed {b : Bk} {room r2 : Int} {ends e2 : List (List Nat)} {kept : List (List Nat × List Nat)} {cl : Option (List Nat × Int)} :
    feed b ⟨room, ends, kept, cl, false, RowS.new r2 e2⟩ [59, 10] = some ⟨room, ends, kept, cl, true, { RowS.new r2 e2 with tail := 2 }⟩ := by
  simp [feed, FldS.fed, RowS.new, RowS.fed, endF, FldS.next]
def fieldT (z : List Nat × List Nat) : List Nat := z.1 ++ ([58, 32] ++ (z.2 ++ [59, 10]))
def fieldsT (fs : List (List Nat × List Nat)) : List Nat := (fs.map fieldT).flatten
theorem fields_feed {b : Bk} {ends : List (List Nat)} (he : ∀ e ∈ ends, e ∈ EN) : ∀ (fs kept : List (List Nat × List Nat)) (room : Int), (fs.length : Int) ≤ room → (∀ z ∈ fs, lbl b z.1 ∧ vlu b z.2) →
    feed b ⟨room, ends, kept, none, false, RowS.new room ends⟩ (fieldsT fs) = some ⟨room - fs.length, ends, kept ++ fs, none, false, RowS.new (room - fs.length) ends⟩
  | [], kept, room, _, _ => by simp [fieldsT, feed]
  | z :: fs, kept, room, h, hz => by
    obtain ⟨h1, h2⟩ := hz z (List.mem_cons_self ..)
    rw [List.length_cons] at h
    have e : fieldsT (z :: fs) = fieldT z ++ fieldsT fs := rfl
    rw [e, feed_app, fieldT, field_feed (by omega) h1 h2 he, Option.bind_some, fields_feed he fs _ _ (by omega) (fun x hx => hz x (List.mem_cons_of_mem _ hx))]
    have e2 : room - 1 - (fs.length : Int) = room - ((fs.length + 1 : Nat) : Int) := by omega
    simp only [List.append_assoc, List.singleton_append, List.length_cons, e2]
def endsT : Option (List Nat × Int) → List Nat
  | none => []
  | some z => endT z
/-- all rows -/
theorem rows_feed {b : Bk} {ends : List (List Nat)} (he : ∀ e ∈ ends, e ∈ EN) {fs : List (List Nat × List Nat)} {room : Int} {cl : Option (List Nat × Int)} (h : (fs.length : Int) ≤ room) (hz : ∀ z ∈ fs, lbl b z.1 ∧ vlu b z.2)
    (hc : ∀ z, cl = some z → z.1 ∈ ends ∧ 0 ≤ z.2 ∧ z.2 ≤ b.b ∧ (z.1 ≠ lengthN → z.2 = 0)) :
    ∃ r, feed b (FldS.new room ends) (fieldsT fs ++ (endsT cl ++ [59, 10])) = some ⟨room - fs.length, ends, fs, cl, true, r⟩ ∧ r.lab = [] := by
  have h1 := fields_feed he fs [] room h hz
  rw [List.nil_append] at h1
  rw [feed_app]
  show ∃ r, (feed b ⟨room, ends, [], none, false, RowS.new room ends⟩ (fieldsT fs)).bind _ = _ ∧ _
  rw [h1, Option.bind_some, feed_app]
  cases cl with
  | none =>
    show ∃ r, (feed b _ []).bind _ = _ ∧ _
    rw [feed, Option.bind_some, empty_feed]
    exact ⟨_, rfl, rfl⟩
  | some z =>
    obtain ⟨c1, c2, c3, c4⟩ := hc z rfl
    show ∃ r, (feed b _ (endT z)).bind _ = _ ∧ _
    rw [endrow_feed (n := z.1) (i := z.2) c1 he c2 c3 c4, Option.bind_some, empty_feed]
    exact ⟨_, rfl, rfl⟩
/-! ### what holds of a row that is fed, and of rows -/
structure BkOk (b : Bk) : Prop where
  w0 : 1 ≤ b.w
  w1 : b.w ≤ 1000
  n0 : 1 ≤ b.n
  n1 : b.n ≤ 1000
  v0 : 1 ≤ b.v
  v1 : b.v ≤ 1000
  f0 : 0 ≤ b.f
  f1 : b.f ≤ 1000
  b0 : 0 ≤ b.b
  b1 : b.b ≤ 1000
  p0 : 0 ≤ b.p
  p1 : b.p ≤ 1000
  d0 : 0 ≤ b.d
  d1 : b.d ≤ 20
/-- a value's beginning -/
def vpre (b : Bk) (t : List Nat) : Prop := (t.length : Int) ≤ b.v ∧ (∀ c ∈ t, pln c = true ∧ c ≠ 10 ∧ c ≠ 59) ∧ (t ≠ [] → t.headD 0 ≠ 32) ∧ (t ≠ [] → t.getLastD 0 = 32 → (t.length : Int) < b.v)
def filOk (b : Bk) (r : RowS) : Fil → Prop
  | .no => r.gap ≤ 1 ∧ (r.gap = 1 → r.gd b = true) ∧ (r.lab = [] ∨ hp b.n r.room r.ends r.lab = true) ∧ (0 < r.tail → r.lab = [] ∧ r.gap = 0)
  | .val t => r.gap = 2 ∧ r.gd b = true ∧ r.lab ∉ r.ends ∧ vpre b t ∧ (0 < r.tail → vGood t = true)
  | .num f n => r.gap = 2 ∧ r.gd b = true ∧ r.lab = lengthN ∧ r.lab ∈ r.ends ∧ ((f = [] ∧ n = 0) ∨ (0 ≤ n ∧ n ≤ b.b ∧ f = TL.numL n.toNat)) ∧ (0 < r.tail → f ≠ [])
  | .yes m => r.gap = 2 ∧ r.gd b = true ∧ r.lab ≠ lengthN ∧ r.lab ∈ r.ends ∧ m ≤ 3 ∧ (0 < r.tail → m = 3)
structure RowInv (b : Bk) (r : RowS) : Prop where
  es : ∀ e ∈ r.ends, e ∈ EN
  el : r.ends.length ≤ 4
  lab : ∀ c ∈ r.lab, sm c = true
  tail : r.tail ≤ 2
  fil : filOk b r r.fil
theorem en_len : ∀ e ∈ EN, e.length ≤ 6 := by decide
theorem hp_len {b : Bk} (B : BkOk b) {room : Int} {ends : List (List Nat)} {t : List Nat} (he : ∀ e ∈ ends, e ∈ EN) (h : hp b.n room ends t = true) : t.length ≤ 1000 := by
  have := B.n1
  unfold hp gd at h
  simp only [Bool.or_eq_true, Bool.and_eq_true, decide_eq_true_eq, List.any_eq_true, Bool.not_eq_true', decide_eq_false_iff_not] at h
  rcases h with (h | ⟨_, ⟨_, h⟩, _⟩) | ⟨e, he2, h⟩ | ⟨_, h⟩
  · have := en_len t (he t h); omega
  · omega
  · have := h.length_le
    have := en_len e (he e he2)
    omega
  · omega
theorem gd_hp {most room : Int} {ends : List (List Nat)} {t : List Nat} (h : gd most room ends t = true) : hp most room ends t = true := by
  unfold hp
  rw [h]
  rfl
theorem sm_128 {c : Nat} (h : sm c = true) : c < 128 := by
  unfold sm at h
  simp at h
  omega
theorem pln_128 {c : Nat} (h : pln c = true) : c < 128 := by
  unfold pln at h
  simp at h
  omega
theorem RowInv.labl {b : Bk} {r : RowS} (B : BkOk b) (h : RowInv b r) : r.lab.length ≤ 1000 := by
  have hf := h.fil
  have key : hp b.n r.room r.ends r.lab = true → r.lab.length ≤ 1000 := hp_len B h.es
  cases e : r.fil <;> rw [e] at hf
  · rcases hf.2.2.1 with z | z
    · rw [z]; decide
    · exact key z
  · exact key (gd_hp hf.2.1)
  · exact key (gd_hp hf.2.1)
  · exact key (gd_hp hf.2.1)
theorem RowInv.ok {b : Bk} {r : RowS} (B : BkOk b) (h : RowInv b r) : RowOk b r := by
  have hf := h.fil
  refine ⟨h.labl B, fun c hc => sm_128 (h.lab c hc), fun t ht c hc => ?_, by have := h.el; omega, fun e he => by have := en_len e (h.es e he); omega, fun t ht => ?_, fun f n hn => ?_⟩
  · rw [ht] at hf
    exact pln_128 (hf.2.2.2.1.2.1 c hc).1
  · rw [ht] at hf
    have := hf.2.2.2.1.1
    have := B.v1
    omega
  · rw [hn] at hf
    rcases hf.2.2.2.2.1 with ⟨z, _⟩ | ⟨z1, z2, z3⟩
    · rw [z]; decide
    · rw [z3]
      have := B.b1
      exact Nat.le_trans (TL.numL_len (k := 4) (by decide) (by omega)) (by decide)
theorem RowInv.kind {b : Bk} {r : RowS} (h : RowInv b r) : KindOk r := by
  have hf := h.fil
  exact ⟨fun t ht => by rw [ht] at hf; exact hf.2.2.1, fun f n hn => by rw [hn] at hf; exact ⟨hf.2.2.1, hf.2.2.2.1⟩, fun m hm => by rw [hm] at hf; exact ⟨hf.2.2.1, hf.2.2.2.1⟩⟩
theorem RowInv.new {b : Bk} {room : Int} {ends : List (List Nat)} (he : ∀ e ∈ ends, e ∈ EN) (hl : ends.length ≤ 4) : RowInv b (RowS.new room ends) :=
  ⟨he, hl, (fun _ h => nomatch h), Nat.zero_le _, ⟨Nat.zero_le _, (fun h => nomatch h), .inl rfl, (fun h => nomatch h)⟩⟩
def Fil.txt : Fil → List Nat
  | .no => []
  | .val t => t
  | .num f _ => f
  | .yes m => yesN.take m
/-- what a row was fed -/
def RowS.txt (r : RowS) : List Nat := r.lab ++ (([58, 32] : List Nat).take r.gap ++ (r.fil.txt ++ ([59, 10] : List Nat).take r.tail))
theorem take_snoc {l : List Nat} {k c : Nat} (h : l[k]? = some c) : l.take (k + 1) = l.take k ++ [c] := by
  rw [List.take_add_one, h]
  rfl
theorem row_step {b : Bk} {r r' : RowS} {c : Nat} (B : BkOk b) (I : RowInv b r) (h : r.fed b c = some r') : RowInv b r' ∧ r'.txt = r.txt ++ [c] ∧ r'.room = r.room ∧ r'.ends = r.ends := by
  obtain ⟨i1, i2, i3, i4, i5⟩ := I
  obtain ⟨room, ends, lab, gap, fil, tail⟩ := r
  simp only at i1 i2 i3 i4 i5
  unfold RowS.fed at h
  simp only at h
  by_cases h1 : 0 < tail
  · rw [if_pos h1] at h
    unfold endF at h
    split at h
    · rename_i h2
      cases h
      have ht : tail + 1 ≤ 2 := by
        have := (List.getElem?_eq_some_iff.mp h2).1
        simp at this
        omega
      refine ⟨⟨i1, i2, i3, ht, ?_⟩, ?_, rfl, rfl⟩
      · cases fil with
        | no => exact ⟨i5.1, i5.2.1, i5.2.2.1, fun _ => i5.2.2.2 h1⟩
        | val t => exact ⟨i5.1, i5.2.1, i5.2.2.1, i5.2.2.2.1, fun _ => i5.2.2.2.2 h1⟩
        | num f n => exact ⟨i5.1, i5.2.1, i5.2.2.1, i5.2.2.2.1, i5.2.2.2.2.1, fun _ => i5.2.2.2.2.2 h1⟩
        | yes m => exact ⟨i5.1, i5.2.1, i5.2.2.1, i5.2.2.2.1, i5.2.2.2.2.1, fun _ => i5.2.2.2.2.2 h1⟩
      · simp only [RowS.txt, take_snoc h2, List.append_assoc]
    · cases h
  · have h0 : tail = 0 := by omega
    subst h0
    rw [if_neg h1] at h
    cases fil with
    | no =>
      simp only at h
      by_cases h2 : 0 < gap
      · rw [if_pos h2] at h
        have g1 : gap = 1 := by
          have := i5.1
          simp at this
          omega
        subst g1
        split at h
        · rename_i h3
          cases h
          have hg := i5.2.1 rfl
          refine ⟨⟨i1, i2, i3, i4, ?_⟩, ?_, rfl, rfl⟩
          · unfold valueFor
            by_cases z : lab ∈ ends
            · rw [if_pos z]
              by_cases y : lab = lengthN
              · rw [if_pos y]
                exact ⟨rfl, hg, y, z, .inl ⟨rfl, rfl⟩, (fun h => nomatch h)⟩
              · rw [if_neg y]
                exact ⟨rfl, hg, y, z, Nat.zero_le _, (fun h => nomatch h)⟩
            · rw [if_neg z]
              exact ⟨rfl, hg, z, ⟨by have := B.v0; simp; omega, (fun _ h => nomatch h), fun h => absurd rfl h, fun h => absurd rfl h⟩, (fun h => nomatch h)⟩
          · have hv : (valueFor ends lab).txt = [] := by
              unfold valueFor
              (repeat' split) <;> rfl
            simp only [RowS.txt, hv, take_snoc h3, List.append_assoc]
            simp [Fil.txt]
        · cases h
      · have g0 : gap = 0 := by omega
        subst g0
        rw [if_neg h2] at h
        by_cases h3 : c = 59 ∧ lab = []
        · rw [if_pos h3] at h
          obtain ⟨rfl, rfl⟩ := h3
          cases h
          refine ⟨⟨i1, i2, i3, show 1 ≤ 2 by decide, ⟨Nat.zero_le _, (fun h => nomatch h), .inl rfl, fun _ => ⟨rfl, rfl⟩⟩⟩, ?_, rfl, rfl⟩
          simp [RowS.txt, Fil.txt]
        · rw [if_neg h3] at h
          by_cases h4 : c = 58 ∧ RowS.gd b ⟨room, ends, lab, 0, .no, 0⟩ = true
          · rw [if_pos h4] at h
            obtain ⟨rfl, h4⟩ := h4
            cases h
            refine ⟨⟨i1, i2, i3, i4, ⟨Nat.le_refl _, fun _ => h4, .inr (gd_hp h4), (fun h => nomatch h)⟩⟩, ?_, rfl, rfl⟩
            simp [RowS.txt, Fil.txt]
          · rw [if_neg h4] at h
            split at h
            · rename_i h5
              cases h
              rw [Bool.and_eq_true] at h5
              refine ⟨⟨i1, i2, fun x hx => ?_, i4, ⟨Nat.zero_le _, (fun h => nomatch h), .inr h5.2, (fun h => nomatch h)⟩⟩, ?_, rfl, rfl⟩
              · rcases List.mem_append.mp hx with hx | hx
                · exact i3 x hx
                · rw [List.mem_singleton.mp hx]; exact h5.1
              · simp [RowS.txt, Fil.txt]
            · cases h
    | val t =>
      obtain ⟨j1, j2, j3, j4, j5⟩ := i5
      simp only at j1
      subst j1
      simp only at h
      by_cases h2 : (Fil.val t).good = true ∧ c = 59
      · rw [if_pos h2] at h
        cases h
        obtain ⟨h2, rfl⟩ := h2
        exact ⟨⟨i1, i2, i3, show 1 ≤ 2 by decide, ⟨rfl, j2, j3, j4, fun _ => h2⟩⟩, by simp [RowS.txt, Fil.txt], rfl, rfl⟩
      · rw [if_neg h2] at h
        simp only [Fil.fed] at h
        by_cases h3 : vOk b.v t c = true
        · rw [if_pos h3] at h
          cases h
          refine ⟨⟨i1, i2, i3, i4, ⟨rfl, j2, j3, ?_, (fun h => nomatch h)⟩⟩, by simp [RowS.txt, Fil.txt], rfl, rfl⟩
          obtain ⟨v1, v2, v3, v4⟩ := j4
          unfold vOk at h3
          simp only [Bool.and_eq_true, Bool.not_eq_true', decide_eq_false_iff_not, not_or] at h3
          obtain ⟨⟨w1, w2, w3, w4⟩, w5⟩ := h3
          refine ⟨by simp; omega, fun x hx => ?_, fun _ => ?_, fun _ hl => ?_⟩
          · rcases List.mem_append.mp hx with hx | hx
            · exact v2 x hx
            · rw [List.mem_singleton.mp hx]; exact ⟨w1, w2, w3⟩
          · cases t with
            | nil =>
              intro z
              have z : c = 32 := by simpa using z
              exact w5 ⟨z, .inl rfl⟩
            | cons a t => exact v3 (by simp)
          · rw [List.getLastD_concat] at hl
            have : ¬ ((t.length : Int) + 1 = b.v) := fun z => w5 ⟨hl, .inr z⟩
            simp
            omega
        · rw [if_neg h3] at h
          cases h
    | num f n =>
      obtain ⟨j1, j2, j3, j4, j5, j6⟩ := i5
      simp only at j1
      subst j1
      simp only at h
      by_cases h2 : (Fil.num f n).good = true ∧ c = 59
      · rw [if_pos h2] at h
        cases h
        obtain ⟨h2, rfl⟩ := h2
        exact ⟨⟨i1, i2, i3, show 1 ≤ 2 by decide, ⟨rfl, j2, j3, j4, j5, fun _ => of_decide_eq_true h2⟩⟩, by simp [RowS.txt, Fil.txt], rfl, rfl⟩
      · rw [if_neg h2] at h
        simp only [Fil.fed, numF] at h
        by_cases h3 : c ∈ FIG.take (10 : Int).toNat ∧ f ≠ [48] ∧ n * 10 + figv c ≤ b.b
        · rw [if_pos h3] at h
          cases h
          obtain ⟨k1, k2, k3⟩ := h3
          refine ⟨⟨i1, i2, i3, i4, ⟨rfl, j2, j3, j4, .inr ?_, (fun h => nomatch h)⟩⟩, by simp [RowS.txt, Fil.txt], rfl, rfl⟩
          have dig : ∀ c ∈ FIG.take 10, c = 48 + figv c ∧ figv c < 10 := by decide
          obtain ⟨d1, d2⟩ := dig c k1
          rcases j5 with ⟨rfl, rfl⟩ | ⟨n1, n2, rfl⟩
          · refine ⟨by simp, by simpa using k3, ?_⟩
            simp only [Int.zero_mul, Int.zero_add, Int.toNat_natCast, List.nil_append]
            rw [TL.numL_lt d2, ← d1]
          · have e : (n * 10 + figv c).toNat = n.toNat * 10 + figv c := by omega
            have n0 : n.toNat ≠ 0 := by
              intro z
              rw [z, TL.numL_lt (by decide)] at k2
              exact k2 rfl
            refine ⟨by omega, k3, ?_⟩
            simp only [e]
            rw [TL.numL_step (n := n.toNat * 10 + figv c) (by omega), show (n.toNat * 10 + figv c) / 10 = n.toNat by omega, show (n.toNat * 10 + figv c) % 10 = figv c by omega, ← d1]
        · rw [if_neg h3] at h
          cases h
    | yes m =>
      obtain ⟨j1, j2, j3, j4, j5, j6⟩ := i5
      simp only at j1
      subst j1
      simp only at h
      by_cases h2 : (Fil.yes m).good = true ∧ c = 59
      · rw [if_pos h2] at h
        cases h
        obtain ⟨h2, rfl⟩ := h2
        exact ⟨⟨i1, i2, i3, show 1 ≤ 2 by decide, ⟨rfl, j2, j3, j4, j5, fun _ => of_decide_eq_true h2⟩⟩, by simp [RowS.txt, Fil.txt], rfl, rfl⟩
      · rw [if_neg h2] at h
        simp only [Fil.fed] at h
        by_cases h3 : yesN[m]? = some c
        · rw [if_pos h3] at h
          cases h
          have hm : m + 1 ≤ 3 := by
            have := (List.getElem?_eq_some_iff.mp h3).1
            simp at this
            omega
          exact ⟨⟨i1, i2, i3, i4, ⟨rfl, j2, j3, j4, hm, (fun h => nomatch h)⟩⟩, by simp [RowS.txt, Fil.txt, take_snoc h3], rfl, rfl⟩
        · rw [if_neg h3] at h
          cases h
/-! ### what holds of rows that are fed -/
structure FldInv (K : Int) (b : Bk) (s : FldS) : Prop where
  row : RowInv b s.row
  es : ∀ e ∈ s.ends, e ∈ EN
  el : s.ends.length ≤ 4
  rr : (s.row.room = s.room ∧ s.row.ends = s.ends ∧ s.closing = none) ∨ (s.row.room = 0 ∧ s.row.ends = [] ∧ ∃ z, s.closing = some z ∧ z.1 ∈ s.ends ∧ 0 ≤ z.2 ∧ z.2 ≤ b.b ∧ (z.1 ≠ lengthN → z.2 = 0))
  r0 : 0 ≤ s.room
  rk : (s.kept.length : Int) + s.room = K
  good : ∀ z ∈ s.kept, lbl b z.1 ∧ vlu b z.2
  rd : s.ready = true → s.row.tail = 2 ∧ s.row.fil = .no ∧ s.row.lab = []
  nr : s.ready = false → s.row.tail ≤ 1
def FldS.txt (s : FldS) : List Nat := fieldsT s.kept ++ (endsT s.closing ++ s.row.txt)
theorem FldInv.new {b : Bk} {room : Int} {ends : List (List Nat)} (he : ∀ e ∈ ends, e ∈ EN) (hl : ends.length ≤ 4) (h0 : 0 ≤ room) : FldInv room b (FldS.new room ends) :=
  ⟨RowInv.new he hl, he, hl, .inl ⟨rfl, rfl, rfl⟩, h0, by show ((0 : Nat) : Int) + room = room; omega, (fun _ h => nomatch h), (fun h => nomatch h), fun _ => Nat.zero_le _⟩
theorem new_txt (room : Int) (ends : List (List Nat)) : (RowS.new room ends).txt = [] := rfl
theorem fieldsT_snoc (fs : List (List Nat × List Nat)) (z : List Nat × List Nat) : fieldsT (fs ++ [z]) = fieldsT fs ++ fieldT z := by
  simp [fieldsT]
theorem gd_in {most room : Int} {ends : List (List Nat)} {t : List Nat} (g : gd most room ends t = true) (h : t ∉ ends) : 0 < room ∧ t ≠ [] ∧ (t.length : Int) ≤ most ∧ t ∉ EN := by
  unfold gd at g
  rw [decide_eq_false h, Bool.false_or, Bool.and_eq_true, Bool.and_eq_true, Bool.not_eq_true'] at g
  exact ⟨of_decide_eq_true g.1, (of_decide_eq_true g.2.1).1, (of_decide_eq_true g.2.1).2, of_decide_eq_false g.2.2⟩
theorem fields_step {K : Int} {b : Bk} {s s' : FldS} {c : Nat} (B : BkOk b) (I : FldInv K b s) (h : s.fed b c = some s') : FldInv K b s' ∧ s'.txt = s.txt ++ [c] := by
  obtain ⟨i1, i2, i3, i4, i5, i6, i7, i8, i9⟩ := I
  obtain ⟨room, ends, kept, closing, ready, row⟩ := s
  simp only at i1 i2 i3 i4 i5 i6 i7 i8 i9
  unfold FldS.fed at h
  simp only at h
  cases ready with
  | true => simp at h
  | false =>
    simp only [Bool.false_eq_true, if_false] at h
    cases hr : row.fed b c with
    | none => rw [hr] at h; cases h
    | some r =>
      obtain ⟨j1, j2, j3, j4⟩ := row_step B i1 hr
      rw [hr, Option.map_some] at h
      have h := Option.some.inj h
      rw [← j3, ← j4] at i4
      have tx : fieldsT kept ++ (endsT closing ++ r.txt) = fieldsT kept ++ (endsT closing ++ row.txt) ++ [c] := by rw [j2]; simp only [List.append_assoc]
      by_cases ht : r.tail = 2
      · rw [if_pos ht] at h
        unfold FldS.next at h
        simp only at h
        obtain ⟨es1, el1, lab1, tail1, fil1⟩ := j1
        have rt : r.txt = r.lab ++ (([58, 32] : List Nat).take r.gap ++ (r.fil.txt ++ [59, 10])) := by unfold RowS.txt; rw [ht]; rfl
        cases hf : r.fil with
        | no =>
          rw [hf] at h fil1
          simp only at h
          subst h
          refine ⟨⟨⟨es1, el1, lab1, tail1, by rw [hf]; exact fil1⟩, i2, i3, i4, i5, i6, i7, fun _ => ⟨ht, hf, (fil1.2.2.2 (by omega)).1⟩, (fun h => nomatch h)⟩, tx⟩
        | val t =>
          rw [hf] at h fil1 rt
          obtain ⟨f1, f2, f3, f4, f5⟩ := fil1
          simp only [if_neg f3] at h
          subst h
          obtain ⟨g1, g2, g3, g4⟩ := gd_in f2 f3
          have cn : r.room = room ∧ r.ends = ends ∧ closing = none := by
            rcases i4 with z | ⟨z1, _⟩
            · exact z
            · exact absurd g1 (by rw [z1]; decide)
          obtain ⟨c1, c2, c3⟩ := cn
          have vg := f5 (by omega)
          unfold vGood at vg
          obtain ⟨v1, v2⟩ := of_decide_eq_true vg
          refine ⟨⟨RowInv.new i2 i3, i2, i3, .inl ⟨rfl, rfl, c3⟩, ?_, ?_, ?_, (fun h => nomatch h), fun _ => Nat.zero_le _⟩, ?_⟩
          · show 0 ≤ room - 1
            omega
          · show ((kept ++ [_]).length : Int) + (room - 1) = K
            rw [List.length_append, List.length_singleton]
            omega
          · intro z hz
            rcases List.mem_append.mp hz with hz | hz
            · exact i7 z hz
            · rw [List.mem_singleton.mp hz]
              exact ⟨⟨g2, g3, lab1, g4⟩, v1, f4.1, f4.2.1, f4.2.2.1 v1, v2⟩
          · show fieldsT (kept ++ [_]) ++ (endsT closing ++ []) = fieldsT kept ++ (endsT closing ++ row.txt) ++ [c]
            rw [← tx, c3, rt, f1, fieldsT_snoc]
            simp [endsT, fieldT, Fil.vt, Fil.txt]
        | num f n =>
          rw [hf] at h fil1 rt
          obtain ⟨f1, f2, f3, f4, f5, f6⟩ := fil1
          simp only [if_pos f4] at h
          subst h
          have cn : r.room = room ∧ r.ends = ends ∧ closing = none := by
            rcases i4 with z | ⟨_, z1, _⟩
            · exact z
            · rw [z1] at f4; cases f4
          obtain ⟨c1, c2, c3⟩ := cn
          have fne := f6 (by omega)
          obtain ⟨n1, n2, n3⟩ : 0 ≤ n ∧ n ≤ b.b ∧ f = TL.numL n.toNat := by
            rcases f5 with ⟨z, _⟩ | z
            · exact absurd z fne
            · exact z
          refine ⟨⟨RowInv.new (fun _ h => nomatch h) (Nat.zero_le _), i2, i3, .inr ⟨rfl, rfl, _, rfl, by rw [← c2]; exact f4, n1, n2, fun z => absurd f3 z⟩, i5, i6, i7, (fun h => nomatch h), fun _ => Nat.zero_le _⟩, ?_⟩
          show fieldsT kept ++ (endT (r.lab, n) ++ []) = fieldsT kept ++ (endsT closing ++ row.txt) ++ [c]
          rw [← tx, c3, rt, f1, n3]
          unfold endT
          simp only [if_pos f3]
          simp [endsT, Fil.txt]
        | yes m =>
          rw [hf] at h fil1 rt
          obtain ⟨f1, f2, f3, f4, f5, f6⟩ := fil1
          simp only [if_pos f4] at h
          subst h
          have cn : r.room = room ∧ r.ends = ends ∧ closing = none := by
            rcases i4 with z | ⟨_, z1, _⟩
            · exact z
            · rw [z1] at f4; cases f4
          obtain ⟨c1, c2, c3⟩ := cn
          have m3 := f6 (by omega)
          refine ⟨⟨RowInv.new (fun _ h => nomatch h) (Nat.zero_le _), i2, i3, .inr ⟨rfl, rfl, _, rfl, by rw [← c2]; exact f4, Int.le_refl 0, B.b0, fun _ => rfl⟩, i5, i6, i7, (fun h => nomatch h), fun _ => Nat.zero_le _⟩, ?_⟩
          show fieldsT kept ++ (endT (r.lab, 0) ++ []) = fieldsT kept ++ (endsT closing ++ row.txt) ++ [c]
          rw [← tx, c3, rt, f1, m3]
          unfold endT
          simp only [if_neg f3]
          simp [endsT, Fil.txt]
      · rw [if_neg ht] at h
        subst h
        exact ⟨⟨j1, i2, i3, i4, i5, i6, i7, (fun h => nomatch h), fun _ => by have := j1.tail; show r.tail ≤ 1; omega⟩, tx⟩
/-- a sign, fed -/
theorem fields_fed_inv {K : Int} {b : Bk} {s : FldS} {c : Nat} {μ : List D} (B : BkOk b) (I : FldInv K b s) (hk : K ≤ 1000) : r_Fields_fed [.obj "Fields" sh_Fields (s.l b), .str [c]] μ = some (fedR ((s.fed b c).map (FldS.d b)) (s.d b) c μ) :=
  fields_fed_eq (I.row.ok B) (fun r h => ⟨(row_step B I.row h).1.ok B, (row_step B I.row h).1.kind⟩) (by have := I.rk; have := I.r0; omega)
theorem fields_aw_inv {K : Int} {b : Bk} {s : FldS} {μ : List D} (B : BkOk b) (I : FldInv K b s) : r_Fields_awaited [.fo "Fields" sh_Fields (fzL (s.l b))] μ = some (.str (s.aw b)) :=
  fields_aw_eq (I.row.ok B)
theorem feed_inv {K : Int} {b : Bk} (B : BkOk b) : ∀ (t : List Nat) (s s' : FldS), FldInv K b s → feed b s t = some s' → FldInv K b s' ∧ s'.txt = s.txt ++ t
  | [], s, s', I, h => by cases h; exact ⟨I, by simp⟩
  | c :: t, s, s', I, h => by
    unfold feed at h
    cases e : s.fed b c with
    | none => rw [e] at h; cases h
    | some s1 =>
      rw [e] at h
      obtain ⟨k1, k2⟩ := fields_step B I e
      obtain ⟨k3, k4⟩ := feed_inv B t s1 s' k1 h
      exact ⟨k3, by rw [k4, k2]; simp⟩
/-- a loop over a text's places -/
theorem forL_ix {τ : Type} {g : D → List D → Option (List D)} {b : FS} {μ : List D} (t : List Nat) (S : τ → List D) (I : τ → List Nat → Prop)
    (h : ∀ s k c rest, t[k]? = some c → k < t.length → I s (c :: rest) → ∃ ρ1 s', g (.int (k : Nat)) (S s) = some ρ1 ∧ b ρ1 μ = some (.nx (S s') μ) ∧ I s' rest) :
    ∀ (rest : List Nat) (s : τ) (k : Nat), t.drop k = rest → I s rest → ∃ s', forL g b (S s) μ ((List.range' k rest.length).map fun (i : Nat) => D.int (i : Int)) = some (.nx (S s') μ) ∧ I s' []
  | [], s, k, _, hi => ⟨s, rfl, hi⟩
  | c :: rest, s, k, hd, hi => by
    have hk : k < t.length := by
      rcases Nat.lt_or_ge k t.length with z | z
      · exact z
      · rw [List.drop_eq_nil_of_le z] at hd; cases hd
    have hc : t[k]? = some c := by
      have : (t.drop k)[0]? = some c := by rw [hd]; rfl
      rwa [List.getElem?_drop, Nat.add_zero] at this
    obtain ⟨ρ1, s1, h1, h2, h3⟩ := h s k c rest hc hk hi
    have hd2 : t.drop (k + 1) = rest := by
      rw [← List.drop_drop, hd]
      rfl
    obtain ⟨s', h4, h5⟩ := forL_ix t S I h rest s1 (k + 1) hd2 h3
    refine ⟨s', ?_, h5⟩
    rw [List.length_cons, List.range'_succ, List.map_cons]
    exact (forL_turn h1 h2).trans h4
/-! ### what is awaited makes it whole -/
theorem rrun_inv {b : Bk} (B : BkOk b) : ∀ (t : List Nat) (r r' : RowS), RowInv b r → rrun b r t = some r' → RowInv b r'
  | [], r, r', I, h => by cases h; exact I
  | c :: t, r, r', I, h => by
    simp only [rrun] at h
    cases e : r.fed b c with
    | none => rw [e] at h; cases h
    | some r1 =>
      rw [e] at h
      simp only [Option.bind_some] at h
      split at h
      · cases h
      · exact rrun_inv B t r1 r' (row_step B I e).1 h
theorem fil_fin {b : Bk} {r : RowS} (B : BkOk b) (I : RowInv b r) (ht : r.tail = 0) (hf : r.fil ≠ .no) : ∃ z : Fil, rrun b r r.fil.aw = some { r with fil := z } ∧ z.good = true := by
  obtain ⟨room, ends, lab, gap, fil, tail⟩ := r
  have i5 := I.fil
  simp only at ht hf i5 ⊢
  subst ht
  cases fil with
  | no => exact absurd rfl hf
  | val t =>
    by_cases g : vGood t = true
    · refine ⟨.val t, ?_, g⟩
      unfold Fil.aw
      simp only [if_pos g]
      rfl
    · obtain ⟨j1, j2, j3, ⟨v1, v2, v3, v4⟩, j5⟩ := i5
      have hv : vOk b.v t 97 = true := by
        unfold vOk
        have h1 : (t.length : Int) ≠ b.v := by
          intro z
          cases t with
          | nil => have := B.v0; simp at z; omega
          | cons a t =>
            have hg : ¬ (a :: t ≠ [] ∧ (a :: t).getLastD 0 ≠ 32) := fun z => g (decide_eq_true z)
            have h2 : (a :: t).getLastD 0 = 32 := Classical.byContradiction fun z => hg ⟨List.cons_ne_nil _ _, z⟩
            have := v4 (List.cons_ne_nil _ _) h2
            omega
        simp [pln, h1]
      refine ⟨.val (t ++ [97]), ?_, ?_⟩
      · unfold Fil.aw
        simp only [if_neg g]
        simp [rrun, RowS.fed, Fil.good, Fil.fed, hv]
      · exact decide_eq_true ⟨by simp, by simp⟩
  | num f n =>
    by_cases g : f = []
    · obtain ⟨j1, j2, j3, j4, j5, j6⟩ := i5
      subst g
      have n0 : n = 0 := by
        rcases j5 with ⟨_, z⟩ | ⟨_, _, z⟩
        · exact z
        · exact absurd z.symm (TL.numL_ne _)
      subst n0
      refine ⟨.num [48] 0, ?_, rfl⟩
      have hn : numF 10 b.b [] 0 48 = some ([48], 0) := by
        unfold numF
        rw [if_pos ⟨by decide, by decide, by have := B.b0; simpa [figv] using this⟩]
        rfl
      show rrun b _ [48] = _
      simp [rrun, RowS.fed, Fil.good, Fil.fed, hn]
    · refine ⟨.num f n, ?_, decide_eq_true g⟩
      unfold Fil.aw
      simp only [if_neg g]
      rfl
  | yes m =>
    have hm := i5.2.2.2.2.1
    refine ⟨.yes 3, ?_, rfl⟩
    match m, hm with
    | 0, _ => simp [Fil.aw, rrun, RowS.fed, Fil.good, Fil.fed]
    | 1, _ => simp [Fil.aw, rrun, RowS.fed, Fil.good, Fil.fed]
    | 2, _ => simp [Fil.aw, rrun, RowS.fed, Fil.good, Fil.fed]
    | 3, _ => simp [Fil.aw, rrun]
theorem en_last : ∀ e ∈ EN, e.getLastD 0 ≠ 97 := by decide
theorem name_fin {b : Bk} {room : Int} {ends : List (List Nat)} {t : List Nat} (he : ∀ e ∈ ends, e ∈ EN) (h : hp b.n room ends t = true) : rrun b ⟨room, ends, t, 0, .no, 0⟩ (aw b.n room ends t) = some ⟨room, ends, t ++ aw b.n room ends t, 0, .no, 0⟩ ∧ gd b.n room ends (t ++ aw b.n room ends t) = true := by
  unfold aw
  by_cases g : gd b.n room ends t = true
  · simp only [if_pos g, List.append_nil]
    exact ⟨rfl, g⟩
  · simp only [if_neg g]
    by_cases g2 : 0 < room ∧ (t.length : Int) < b.n
    · simp only [if_pos g2]
      have g3 : gd b.n room ends (t ++ [97]) = true := by
        unfold gd
        have n1 : t ++ [97] ∉ EN := fun z => en_last _ z (by simp)
        have n2 : t ++ [97] ≠ [] ∧ ((t ++ [97]).length : Int) ≤ b.n := ⟨by simp, by simp; omega⟩
        rw [decide_eq_true g2.1, decide_eq_false n1, decide_eq_true n2]
        simp
      refine ⟨?_, g3⟩
      have := gd_hp g3
      simp [rrun, RowS.fed, this, sm]
    · simp only [if_neg g2]
      cases hf : ends.find? (fun e => decide (t <+: e)) with
      | none =>
        exfalso
        unfold hp at h
        rw [Bool.or_eq_true, Bool.or_eq_true, Bool.and_eq_true, decide_eq_true_eq, decide_eq_true_eq, List.any_eq_true] at h
        rcases h with h | ⟨e, h1, h2⟩ | h
        · exact g h
        · exact (List.find?_eq_none.mp hf e h1) h2
        · exact g2 h
      | some e =>
        have h1 := List.mem_of_find?_eq_some hf
        have h2 : t <+: e := by simpa using List.find?_some hf
        have h3 : t ++ e.drop t.length = e := by
          obtain ⟨u, hu⟩ := h2
          rw [← hu]
          simp
        have h4 : gd b.n room ends e = true := by
          unfold gd
          rw [decide_eq_true h1]
          rfl
        simp only
        rw [h3]
        refine ⟨?_, h4⟩
        have := name_run (b := b) (room := room) (ends := ends) (e.drop t.length) t (fun c hc => en_small e (he e h1) c (List.mem_of_mem_drop hc)) (fun u c hu _ => hp_pre (by rwa [h3] at hu) h4 (.inl h1))
        rw [this, h3]
theorem nil_gd {most room : Int} {ends : List (List Nat)} (he : ∀ e ∈ ends, e ∈ EN) : gd most room ends [] = false := by
  have h : ([] : List Nat) ∉ ends := fun z => absurd (he [] z) (by decide)
  unfold gd
  rw [decide_eq_false h]
  simp
theorem vf_ne (ends : List (List Nat)) (lab : List Nat) : valueFor ends lab ≠ .no := by
  unfold valueFor
  (repeat' split) <;> exact fun h => nomatch h
theorem row_fin {b : Bk} {r : RowS} (B : BkOk b) (I : RowInv b r) (ht : r.tail = 0) (hl : r.lab ≠ []) : ∃ (r1 : RowS) (t : List Nat), r.aw b = t ++ [59, 10] ∧ rrun b r t = some r1 ∧ r1.tail = 0 ∧ r1.fil.good = true := by
  have i5 := I.fil
  have hes := I.es
  by_cases hf : r.fil = .no
  · rw [hf] at i5
    obtain ⟨j1, j2, j3, j4⟩ := i5
    obtain ⟨room, ends, lab, gap, fil, tail⟩ := r
    simp only at hf ht hl j1 j2 j3 hes
    subst hf ht
    rcases (show gap = 0 ∨ gap = 1 by omega) with rfl | rfl
    · have h1 : hp b.n room ends lab = true := by
        rcases j3 with z | z
        · exact absurd z hl
        · exact z
      obtain ⟨n1, n2⟩ := name_fin hes h1
      generalize hn : lab ++ aw b.n room ends lab = n at n1 n2
      have n3 : rrun b ⟨room, ends, lab, 0, .no, 0⟩ (aw b.n room ends lab ++ [58, 32]) = some ⟨room, ends, n, 2, valueFor ends n, 0⟩ := by
        rw [rrun_app, n1, Option.bind_some]
        simp [rrun, RowS.fed, RowS.gd, n2]
      have I2 := rrun_inv B _ _ _ I n3
      obtain ⟨z, z1, z2⟩ := fil_fin B I2 rfl (vf_ne ends n)
      refine ⟨_, (aw b.n room ends lab ++ [58, 32]) ++ (valueFor ends n).aw, ?_, by rw [rrun_app, n3, Option.bind_some]; exact z1, rfl, z2⟩
      unfold RowS.aw
      simp [hl, hn]
    · have g := j2 rfl
      have n3 : rrun b ⟨room, ends, lab, 1, .no, 0⟩ [32] = some ⟨room, ends, lab, 2, valueFor ends lab, 0⟩ := by
        simp [rrun, RowS.fed]
      have I2 := rrun_inv B _ _ _ I n3
      obtain ⟨z, z1, z2⟩ := fil_fin B I2 rfl (vf_ne ends lab)
      refine ⟨_, [32] ++ (valueFor ends lab).aw, ?_, by rw [rrun_app, n3, Option.bind_some]; exact z1, rfl, z2⟩
      unfold RowS.aw
      simp [hl]
  · obtain ⟨z, z1, z2⟩ := fil_fin B I ht hf
    refine ⟨_, r.fil.aw, ?_, z1, ht, z2⟩
    unfold RowS.aw
    rw [ht]
    simp only [Nat.lt_irrefl, if_false]
theorem next_new {s : FldS} (h : s.row.fil ≠ .no) : ∃ room e2 cl k r2, s.next = ⟨room, s.ends, k, cl, s.ready, RowS.new r2 e2⟩ := by
  unfold FldS.next
  cases e : s.row.fil with
  | no => exact absurd e h
  | _ =>
    simp only
    split
    · exact ⟨_, _, _, _, _, rfl⟩
    · exact ⟨_, _, _, _, _, rfl⟩
theorem nl_feed {b : Bk} {s : FldS} (hr : s.ready = false) (ht : s.row.tail = 1) : s.fed b 10 = some ({ s with row := { s.row with tail := 2 } } : FldS).next := by
  unfold FldS.fed
  rw [hr, row_nl ht]
  simp
theorem aw_feed {K : Int} {b : Bk} {s : FldS} (B : BkOk b) (I : FldInv K b s) : ∃ fin, feed b s (s.aw b) = some fin ∧ fin.ready = true := by
  unfold FldS.aw
  cases hr : s.ready with
  | true => exact ⟨s, rfl, hr⟩
  | false =>
    simp only [Bool.false_eq_true, if_false]
    have h1 := I.nr hr
    have i5 := I.row.fil
    have es := I.row.es
    have I0 := I.row
    obtain ⟨room, ends, kept, closing, ready, row⟩ := s
    simp only at hr h1 i5 es I0 ⊢
    subst hr
    rcases (show row.tail = 0 ∨ row.tail = 1 by omega) with ht | ht
    · by_cases hl : row.lab = []
      · rw [if_pos hl]
        have hn : row = RowS.new row.room row.ends := by
          cases hf : row.fil with
          | no =>
            rw [hf] at i5
            have g : row.gap = 0 := by
              rcases (show row.gap = 0 ∨ row.gap = 1 by have := i5.1; omega) with z | z
              · exact z
              · have := i5.2.1 z
                unfold RowS.gd at this
                rw [hl, nil_gd es] at this
                cases this
            obtain ⟨r0, r1, r2, r3, r4, r5⟩ := row
            simp only at hl g hf ht
            subst hl g hf ht
            rfl
          | val t => rw [hf] at i5; have := i5.2.1; unfold RowS.gd at this; rw [hl, nil_gd es] at this; cases this
          | num f n => rw [hf] at i5; have := i5.2.1; unfold RowS.gd at this; rw [hl, nil_gd es] at this; cases this
          | yes m => rw [hf] at i5; have := i5.2.1; unfold RowS.gd at this; rw [hl, nil_gd es] at this; cases this
        have ha : row.aw b = [59, 10] := by rw [hn]; rfl
        rw [ha]
        refine ⟨⟨room, ends, kept, closing, true, { RowS.new row.room row.ends with tail := 2 }⟩, ?_, rfl⟩
        · have := empty_feed (b := b) (room := room) (r2 := row.room) (ends := ends) (e2 := row.ends) (kept := kept) (cl := closing)
          rw [hn]
          exact this
      · rw [if_neg hl]
        obtain ⟨r1, t, a1, a2, a3, a4⟩ := row_fin B I0 ht hl
        have a5 : r1 = ⟨r1.room, r1.ends, r1.lab, r1.gap, r1.fil, 0⟩ := by
          rw [← a3]
        have a6 := row_end (b := b) (room := r1.room) (ends := r1.ends) (n := r1.lab) (k := r1.gap) a4
        rw [← a5] at a6
        have a7 : rrun b row (t ++ [59]) = some ⟨r1.room, r1.ends, r1.lab, r1.gap, r1.fil, 1⟩ := by rw [rrun_app, a2, Option.bind_some, a6]
        have e0 : row.aw b ++ [59, 10] = (t ++ [59]) ++ ([10] ++ [59, 10]) := by rw [a1]; simp
        rw [e0, feed_app, feed_run _ _ _ a7, Option.bind_some, feed_app]
        have a8 := nl_feed (b := b) (s := ⟨room, ends, kept, closing, false, ⟨r1.room, r1.ends, r1.lab, r1.gap, r1.fil, 1⟩⟩) rfl rfl
        have a9 : feed b ⟨room, ends, kept, closing, false, ⟨r1.room, r1.ends, r1.lab, r1.gap, r1.fil, 1⟩⟩ [10] = some ((⟨room, ends, kept, closing, false, ⟨r1.room, r1.ends, r1.lab, r1.gap, r1.fil, 2⟩⟩ : FldS).next) := by
          simp only [feed]
          rw [a8]
          rfl
        have gn : r1.fil ≠ .no := fun z => by rw [z] at a4; cases a4
        obtain ⟨q1, q2, q3, q4, q5, q6⟩ := next_new (s := ⟨room, ends, kept, closing, false, ⟨r1.room, r1.ends, r1.lab, r1.gap, r1.fil, 2⟩⟩) gn
        rw [a9, Option.bind_some, q6, empty_feed]
        exact ⟨_, rfl, rfl⟩
    · have ha : row.aw b = [10] := by
        unfold RowS.aw
        rw [ht]
        rfl
      have a8 := nl_feed (b := b) (s := ⟨room, ends, kept, closing, false, row⟩) rfl ht
      have a9 : feed b ⟨room, ends, kept, closing, false, row⟩ [10] = some ((⟨room, ends, kept, closing, false, { row with tail := 2 }⟩ : FldS).next) := by
        simp only [feed]
        rw [a8]
        rfl
      rw [ha]
      by_cases hl : row.lab = []
      · rw [if_pos hl, a9]
        refine ⟨_, rfl, ?_⟩
        have hf : row.fil = .no := by
          cases hf : row.fil with
          | no => rfl
          | val t => rw [hf] at i5; have := i5.2.1; unfold RowS.gd at this; rw [hl, nil_gd es] at this; cases this
          | num f n => rw [hf] at i5; have := i5.2.1; unfold RowS.gd at this; rw [hl, nil_gd es] at this; cases this
          | yes m => rw [hf] at i5; have := i5.2.1; unfold RowS.gd at this; rw [hl, nil_gd es] at this; cases this
        unfold FldS.next
        simp only [hf]
      · rw [if_neg hl, feed_app, a9, Option.bind_some]
        have gn : row.fil ≠ .no := fun z => by
          rw [z] at i5
          exact hl (i5.2.2.2 (by omega)).1
        obtain ⟨q1, q2, q3, q4, q5, q6⟩ := next_new (s := ⟨room, ends, kept, closing, false, { row with tail := 2 }⟩) gn
        rw [q6, empty_feed]
        exact ⟨_, rfl, rfl⟩
/-! ### the stream -/
def stp (n k : Int) : Int := (n + 7919 * k + 1) * (n / 1009 + 69621) % 2147483647
theorem stp_lt (n k : Int) : 0 ≤ stp n k ∧ stp n k < 2147483647 := ⟨Int.emod_nonneg _ (by decide), Int.emod_lt_of_pos _ (by decide)⟩
def stq (s : List Int × Int) (k : Nat) : List Int × Int := (s.1 ++ [stp s.2 k], stp s.2 k)
def strm (c : Int) (m : Nat) : List Int := ((List.range m).foldl stq ([], (c + 1) * 48271 % 2147483647)).1
theorem strm_fold (ks : List Nat) : ∀ s : List Int × Int, 0 ≤ s.2 → s.2 < 2147483647 → (∀ x ∈ s.1, 0 ≤ x ∧ x < 2147483647) → let r := ks.foldl stq s; r.1.length = s.1.length + ks.length ∧ ∀ x ∈ r.1, 0 ≤ x ∧ x < 2147483647 := by
  induction ks with
  | nil => intro s _ _ h; exact ⟨rfl, h⟩
  | cons k ks ih =>
    intro s h0 h1 h
    obtain ⟨q0, q1⟩ := stp_lt s.2 k
    obtain ⟨e1, e2⟩ := ih (stq s k) q0 q1 (by
      intro x hx
      rcases List.mem_append.mp hx with hx | hx
      · exact h x hx
      · rw [List.mem_singleton.mp hx]; exact ⟨q0, q1⟩)
    refine ⟨?_, e2⟩
    rw [List.foldl_cons, e1]
    simp only [stq, List.length_append, List.length_cons, List.length_nil]
    omega
theorem strm_len (c : Int) (m : Nat) : (strm c m).length = m := by
  have := (strm_fold (List.range m) ([], (c + 1) * 48271 % 2147483647) (Int.emod_nonneg _ (by decide)) (Int.emod_lt_of_pos _ (by decide)) (by simp)).1
  unfold strm
  rw [this]
  simp
theorem strm_lt (c : Int) (m : Nat) : ∀ x ∈ strm c m, 0 ≤ x ∧ x < 2147483647 :=
  (strm_fold (List.range m) ([], (c + 1) * 48271 % 2147483647) (Int.emod_nonneg _ (by decide)) (Int.emod_lt_of_pos _ (by decide)) (by simp)).2
theorem stream_eq (c : Int) (m : Int) (h0 : 0 ≤ m) (hm : m ≤ 1000) : r__law_stream [.int c, .int m] = some (.lst ((strm c m.toNat).map D.int)) := by
  obtain ⟨h1, h2⟩ := forL_inv (g := tgN 4) (b := lb1__law_stream) (μ := []) (fun i : Nat => D.int (i : Int)) (fun s : List Int × Int => [.int c, .int m, .ml (s.1.map D.int), .int s.2, .un])
    (fun s rest => 0 ≤ s.2 ∧ s.2 < 2147483647 ∧ s.1.length + rest.length ≤ 1000) stq (by
      rintro ⟨acc, n⟩ k rest ⟨a0, a1, a2⟩
      simp only [List.length_cons] at a0 a1 a2
      refine ⟨_, rfl, ?_, (stp_lt n k).1, (stp_lt n k).2, ?_⟩
      · unfold lb1__law_stream
        walk_at "k"
        simp [stq, stp]
      · simp only [stq, List.length_append, List.length_cons, List.length_nil]; omega) (List.range m.toNat) ([], (c + 1) * 48271 % 2147483647)
    ⟨Int.emod_nonneg _ (by decide), Int.emod_lt_of_pos _ (by decide), by simp; omega⟩
  simp only [List.map_nil] at h1
  unfold r__law_stream f__law_stream
  walk_at "k"
  rfl

theorem cell_eq (ns : List Int) (k : Int) (h : 0 ≤ k) (hn : ns.length ≤ 63) : r__law_cell_at [.lst (ns.map D.int), .int k] = some (.int (if k < ns.length then ns.getD k.toNat 0 else 0)) := by
  unfold r__law_cell_at f__law_cell_at
  walk_at "k"
  split <;> rfl
/-! ### the law's own names -/
theorem sm_lc {g : D → List D → Option (List D)} {t : FB} {f : FQ} {ρ μ : List D} (s : List Nat) (h : ∀ c ∈ s, ∃ ρ', g (.str [c]) ρ = some ρ' ∧ t ρ' μ = some (!sm c) ∧ f ρ' μ = some (.str [c])) :
    lcL g t f ρ μ (s.map fun c => .str [c]) = some ((s.filter fun c => !sm c).map fun c => .str [c]) :=
  lcL_map (fun c : Nat => D.str [c]) (fun c => !sm c) (fun c => D.str [c]) s fun c hc => by
    obtain ⟨ρ', h1, h2, h3⟩ := h c hc
    exact ⟨ρ', h1, h2, fun _ => ⟨h3, rfl⟩⟩
theorem flt_pl {s : List Nat} (p : Nat → Bool) (h : ∀ c ∈ s, c < 128) : pl 50 (.lst ((s.filter p).map fun c => D.str [c])) = true := by
  rw [pl_lst, plL_all]
  simp only [List.mem_map, List.mem_filter]
  rintro d ⟨c, ⟨h1, _⟩, rfl⟩
  rw [pl_str]
  exact cok_of (by intro x hx; rw [List.mem_singleton.mp hx]; exact Nat.lt_trans (h c h1) (by decide))
theorem flt_eqT {s : List Nat} (p : Nat → Bool) : eqT (.lst ((s.filter p).map fun c => D.str [c])) (.lst []) = s.all fun c => !p c := by
  rw [Bool.eq_iff_iff, eqT_iff]
  simp
theorem all_nn (s : List Nat) : (s.all fun c => !!sm c) = s.all sm := by
  congr 1
  funext c
  simp
section
variable {b : Bk} {room : Int} {ends : List (List Nat)} {t : List Nat}
theorem good_name_eq (h0 : 0 ≤ room) (he : ∀ e ∈ ends, e ∈ EN) (hl : t.length ≤ 10000) (hc : ∀ c ∈ t, c < 128) : r__law_good_name [.str t, .tup b.l, .int room, .tup (ends.map D.str)] = some (.bl (gd b.n room ends t && t.all sm)) := by
  have lc : lcL (tgN 4) ct1__law_good_name (qVar 4) [.str t, .tup b.l, .int room, .tup (ends.map D.str), .un] [] (t.map fun c => .str [c]) = some ((t.filter fun c => !sm c).map fun c => .str [c]) := by
    refine sm_lc t fun c _ => ⟨_, rfl, ?_, rfl⟩
    unfold ct1__law_good_name sm
    walk_at "k"
  have hp := flt_pl (fun c => !sm c) hc
  have hs : eqT (.lst ((t.filter fun c => !sm c).map fun c => D.str [c])) (.lst []) = t.all sm := by rw [flt_eqT, all_nn]
  have r0 : (room = 0) = ¬ (0 < room) := by rw [eq_iff_iff]; omega
  have hem : t ∈ ends → t.all sm = true := fun z => List.all_eq_true.mpr (en_small t (he t z))
  have hne : ((0 : Int) < t.length) = (t ≠ []) := by
    cases t with
    | nil => simp
    | cons a t => simp
  clear he hc
  unfold r__law_good_name f__law_good_name gd
  by_cases z1 : t ∈ ends
  · have := hem z1
    rw [this]
    simp only [z1, decide_true, Bool.true_or, Bool.and_true]
    clear lc hp hs r0 hem hne this
    walk_at "k"
  · walk_at "k"
    show some (D.bl (!decide (¬0 < room ∨ (!decide (t = []) && decide ((t.length : Int) ≤ b.n)) = false ∨ t ∈ EN) && t.all sm)) = _
    generalize t.all sm = q
    by_cases a1 : 0 < room <;> by_cases a2 : t = [] <;> by_cases a3 : (t.length : Int) ≤ b.n <;> by_cases a4 : t ∈ EN <;> simp only [a1, a2, a3, a4, ne_eq, decide_true, decide_false, not_true_eq_false, not_false_eq_true, true_or, or_true, false_or, or_false, and_true, true_and, and_false, false_and, Bool.not_true, Bool.not_false, Bool.true_and, Bool.and_true, Bool.false_and, Bool.and_false, Bool.true_eq_false]
theorem pref_eq (h : ∀ e ∈ ends, e ∈ EN) : eqT (.lst ((ends.filter fun e => decide (e.take t.length = t)).map D.str)) (.lst []) = !(ends.any fun e => decide (t <+: e)) := by
  rw [Bool.eq_iff_iff, eqT_iff]
  simp only [D.lst.injEq, List.map_eq_nil_iff, List.filter_eq_nil_iff, Bool.not_eq_true', List.any_eq_false, decide_eq_true_eq, List.prefix_iff_eq_take]
  exact ⟨fun g e he z => g e he z.symm, fun g e he z => g e he z.symm⟩
theorem pref_small (he : ∀ e ∈ ends, e ∈ EN) (h : ends.any (fun e => decide (t <+: e)) = true) : t.all sm = true := by
  obtain ⟨e, h1, h2⟩ := List.any_eq_true.mp h
  exact List.all_eq_true.mpr fun c hc => en_small e (he e h1) c ((of_decide_eq_true h2).subset hc)
theorem open_name_eq (h0 : 0 ≤ room) (he : ∀ e ∈ ends, e ∈ EN) (hel : ends.length ≤ 4) (hl : t.length ≤ 10000) (hc : ∀ c ∈ t, c < 128) : r__law_open_name [.str t, .tup b.l, .int room, .tup (ends.map D.str)] = some (.bl (hp b.n room ends t && t.all sm)) := by
  have lc : lcL (tgN 4) ct1__law_open_name (qVar 4) [.str t, .tup b.l, .int room, .tup (ends.map D.str), .un, .un] [] (ends.map D.str) = some ((ends.filter fun e => decide (e.take t.length = t)).map D.str) := by
    refine lcL_map D.str (fun e => decide (e.take t.length = t)) D.str ends fun e hee => ⟨_, rfl, ?_, fun _ => ⟨rfl, rfl⟩⟩
    have := en_len e (he e hee)
    unfold ct1__law_open_name
    walk_at "k"
  have lc2 : lcL (tgN 5) ct2__law_open_name (qVar 5) [.str t, .tup b.l, .int room, .tup (ends.map D.str), .un, .un] [] (t.map fun c => .str [c]) = some ((t.filter fun c => !sm c).map fun c => .str [c]) := by
    refine sm_lc t fun c _ => ⟨_, rfl, ?_, rfl⟩
    unfold ct2__law_open_name sm
    walk_at "k"
  have g := good_name_eq (b := b) h0 he hl hc
  have hp1 := flt_pl (fun c => !sm c) hc
  have hs : eqT (.lst ((t.filter fun c => !sm c).map fun c => D.str [c])) (.lst []) = t.all sm := by rw [flt_eqT, all_nn]
  have hp2 : pl 50 (.lst ((ends.filter fun e => decide (e.take t.length = t)).map D.str)) = true := by
    rw [pl_lst, plL_all]
    intro d hd
    obtain ⟨e, h1, rfl⟩ := List.mem_map.mp hd
    rw [pl_str]
    exact cok_of fun x hx => Nat.lt_trans (sm_128 (en_small e (he e (List.mem_filter.mp h1).1) x hx)) (by decide)
  have hs2 := pref_eq (t := t) he
  have hs3 := pref_small (t := t) he
  clear he hc
  unfold r__law_open_name f__law_open_name hp
  generalize (ends.any fun e => decide (t <+: e)) = a at *
  generalize gd b.n room ends t = g1 at *
  walk_at "k"
  cases a
  · cases g1 <;> cases t.all sm <;> simp
  · rw [hs3 rfl]
    simp
end
/-! ### figures -/
def dg (c : Nat) : Bool := decide (c ∈ ([48, 49, 50, 51, 52, 53, 54, 55, 56, 57] : List Nat))
def valN (t : List Nat) : Nat := t.foldl (fun n c => n * 10 + (c - 48)) 0
def fg (most : Int) (t : List Nat) : Bool := t.all dg && (decide (t.length ≤ 9) && !decide (1 < t.length ∧ t.headD 0 = 48)) && (decide (t = []) || decide ((valN t : Int) ≤ most))
theorem valN_snoc (t : List Nat) (c : Nat) : valN (t ++ [c]) = valN t * 10 + (c - 48) := by
  unfold valN
  rw [List.foldl_append]
  rfl
theorem dg_b {c : Nat} (h : dg c = true) : 48 ≤ c ∧ c ≤ 57 := by
  unfold dg at h
  simp at h
  omega
theorem num_of : ∀ (k : Nat) (t : List Nat), t.length ≤ k → t.all dg = true → t ≠ [] → ¬ (1 < t.length ∧ t.headD 0 = 48) → t = TL.numL (valN t)
  | 0, t, h, _, hn, _ => absurd (List.length_eq_zero_iff.mp (Nat.le_zero.mp h)) hn
  | k + 1, t, h, hd, hn, hh => by
    rcases List.eq_nil_or_concat t with rfl | ⟨u, c, rfl⟩
    · exact absurd rfl hn
    · rw [List.concat_eq_append] at *
      rw [List.all_append, Bool.and_eq_true] at hd
      have hc := dg_b (List.all_eq_true.mp hd.2 c (List.mem_singleton.mpr rfl))
      rw [valN_snoc]
      by_cases hu : u = []
      · subst hu
        show [c] = TL.numL (0 * 10 + (c - 48))
        rw [TL.numL_lt (by omega), show 48 + (0 * 10 + (c - 48)) = c by omega]
      · have hl : 1 < (u ++ [c]).length := by
          cases u with
          | nil => exact absurd rfl hu
          | cons a u => simp
        have hhd : u.headD 0 ≠ 48 := by
          cases u with
          | nil => exact absurd rfl hu
          | cons a u => exact fun z => hh ⟨hl, z⟩
        have ih := num_of k u (by rw [List.length_append, List.length_singleton] at h; omega) hd.1 hu (fun z => hhd z.2)
        have h1 : valN u ≠ 0 := by
          intro z
          rw [z, TL.numL_lt (by decide)] at ih
          rw [ih] at hhd
          exact hhd rfl
        rw [TL.numL_step (n := valN u * 10 + (c - 48)) (by omega), show (valN u * 10 + (c - 48)) / 10 = valN u by omega, show (valN u * 10 + (c - 48)) % 10 = c - 48 by omega, ← ih, show 48 + (c - 48) = c by omega]
theorem valN_lt : ∀ (k : Nat) (t : List Nat), t.length ≤ k → t.all dg = true → valN t < 10 ^ k
  | 0, t, h, _ => by rw [List.length_eq_zero_iff.mp (Nat.le_zero.mp h)]; decide
  | k + 1, t, h, hd => by
    rcases List.eq_nil_or_concat t with rfl | ⟨u, c, rfl⟩
    · exact Nat.pow_pos (by decide)
    · rw [List.concat_eq_append] at *
      rw [List.all_append, Bool.and_eq_true] at hd
      have hc := dg_b (List.all_eq_true.mp hd.2 c (List.mem_singleton.mpr rfl))
      have ih := valN_lt k u (by rw [List.length_append, List.length_singleton] at h; omega) hd.1
      rw [valN_snoc, Nat.pow_succ]
      omega
theorem valN_num (n : Nat) : valN (TL.numL n) = n := by
  induction n using Nat.strongRecOn with
  | _ n ih =>
    by_cases h : n < 10
    · rw [TL.numL_lt h]
      show 0 * 10 + (48 + n - 48) = n
      omega
    · rw [TL.numL_step (by omega), valN_snoc, ih (n / 10) (by omega)]
      omega
section
variable {b : Bk} {room most : Int} {ends : List (List Nat)} {t n : List Nat}
theorem figures_eq (hl : t.length ≤ 10000) (hc : ∀ c ∈ t, c < 128) : r__law_figures [.str t, .int most] = some (.bl (fg most t)) := by
  have lc : lcL (tgN 2) ct1__law_figures (qVar 2) [.str t, .int most, .un] [] (t.map fun c => .str [c]) = some ((t.filter fun c => !dg c).map fun c => .str [c]) := by
    refine lcL_map (fun c : Nat => D.str [c]) (fun c => !dg c) (fun c => D.str [c]) t fun c _ => ⟨_, rfl, ?_, fun _ => ⟨rfl, rfl⟩⟩
    unfold ct1__law_figures dg
    walk_at "k"
  have hp := flt_pl (fun c => !dg c) hc
  have hs : eqT (.lst ((t.filter fun c => !dg c).map fun c => D.str [c])) (.lst []) = t.all dg := by
    rw [flt_eqT]
    congr 1
    funext c
    simp
  have hgd : t.headD 0 = t.getD 0 0 := by cases t <;> rfl
  clear hc
  unfold r__law_figures f__law_figures fg
  by_cases z0 : t = []
  · subst z0
    simp only [List.filter_nil, List.map_nil] at lc
    clear hs hp hgd
    walk_at "k"
    rfl
  · by_cases z1 : t.all dg = true
    · rw [z1] at hs ⊢
      by_cases z2 : t.length ≤ 9
      · have nn := List.length_pos_iff.mpr z0
        by_cases z3 : 1 < t.length ∧ t.headD 0 = 48
        · have z3a : (1 : Int) < t.length := by omega
          have z3b : t.getD 0 0 = 48 := hgd.symm.trans z3.2
          have z2i : ¬ (9 : Int) < t.length := by omega
          rw [decide_eq_true z3]
          clear hl z3 hgd
          walk_at "k"
        · have hI : oInt (.str t) = some (.int (valN t : Nat)) := by
            have e := num_of 9 t z2 z1 z0 z3
            have := oInt_num (n := valN t) (Nat.lt_of_lt_of_le (valN_lt 9 t z2 z1) (by decide))
            rwa [← e] at this
          have z3i : ¬ ((1 : Int) < t.length ∧ t.getD 0 0 = 48) := by rw [← hgd]; rintro ⟨y1, y2⟩; exact z3 ⟨by omega, y2⟩
          have z2i : ¬ (9 : Int) < t.length := by omega
          clear hl
          walk_at "k"
          rw [hgd] at z3
          simp only [z3, decide_false, Bool.not_false, Bool.true_and]
      · have z2i : (9 : Int) < t.length := by omega
        clear hgd
        walk_at "k"
    · have z1 : t.all dg = false := by simpa using z1
      rw [z1] at hs ⊢
      walk_at "k"
/-! ### values -/
def ovl (b : Bk) (ends : List (List Nat)) (n t : List Nat) : Bool :=
  if n ∈ ends ∧ n = lengthN then fg b.b t else if n ∈ ends then decide (yesN.take t.length = t)
  else !decide (b.v < t.length ∨ t.take 1 = [32] ∨ 10 ∈ t ∨ 59 ∈ t) && (!decide (t.drop (t.length - 1) = [32]) || decide ((t.length : Int) < b.v))
theorem open_value_eq (hl : t.length ≤ 10000) (hn : n.length ≤ 10000) (hc : ∀ c ∈ t, c < 128) : r__law_open_value [.str n, .str t, .tup b.l, .tup (ends.map D.str)] = some (.bl (ovl b ends n t)) := by
  have e := figures_eq (most := b.b) hl hc
  clear hc
  unfold r__law_open_value f__law_open_value ovl
  by_cases z1 : n ∈ ends
  · by_cases z2 : n = lengthN
    · subst z2
      simp only [z1, and_self, if_true]
      walk_at "k"
    · simp only [z1, z2, and_false, if_false, if_true]
      walk_at "k"
  · simp only [z1, false_and, if_false]
    clear e
    walk_at "k"
def gvl (b : Bk) (ends : List (List Nat)) (n t : List Nat) : Bool :=
  if t = [] ∨ ovl b ends n t = false then false else if n ∈ ends ∧ n ≠ lengthN then decide (t = yesN) else decide (t.getLastD 0 ≠ 32)
theorem good_value_eq (hl : t.length ≤ 10000) (hn : n.length ≤ 10000) (hc : ∀ c ∈ t, c < 128) : r__law_good_value [.str n, .str t, .tup b.l, .tup (ends.map D.str)] = some (.bl (gvl b ends n t)) := by
  have e := open_value_eq (b := b) (ends := ends) hl hn hc
  clear hc
  unfold r__law_good_value f__law_good_value gvl
  generalize ovl b ends n t = o at *
  by_cases z : t = []
  · subst z
    walk_at "k"
  · walk_at "k"
    (repeat' split) <;> simp_all
/-! ### rows -/
theorem par_c (n r : List Nat) (s : List Nat) (h : 58 ∉ n) : parL (n ++ (58 :: s ++ r)) (58 :: s) = (n, 58 :: s, r) := by
  unfold parL
  rw [TL.par_part1 h, List.nil_append]
theorem par_no (t s : List Nat) (h : 58 ∉ t) : parL t (58 :: s) = (t, [], []) := by
  unfold parL
  rw [TL.par_none1 h]
theorem open_row_no (h : 58 ∉ t) (h0 : 0 ≤ room) (he : ∀ e ∈ ends, e ∈ EN) (hel : ends.length ≤ 4) (hl : t.length ≤ 10000) (hc : ∀ c ∈ t, c < 128) :
    r__law_open_row [.str t, .tup b.l, .int room, .tup (ends.map D.str)] = some (.bl (decide (t = []) || (hp b.n room ends t && t.all sm))) := by
  have e := open_name_eq (b := b) h0 he hel hl hc
  have e2 := par_no t [] h
  clear he hc
  unfold r__law_open_row f__law_open_row
  generalize (hp b.n room ends t && t.all sm) = a at *
  walk_at "k"
theorem open_row_yes (h : 58 ∉ n) (h0 : 0 ≤ room) (he : ∀ e ∈ ends, e ∈ EN) (hln : n.length ≤ 5000) (hl : t.length ≤ 4000) (hcn : ∀ c ∈ n, c < 128) (hc : ∀ c ∈ t, c < 128) :
    r__law_open_row [.str (n ++ 58 :: t), .tup b.l, .int room, .tup (ends.map D.str)] = some (.bl ((gd b.n room ends n && n.all sm) && (decide (t.take 1 = [32].take t.length) && ovl b ends n (t.drop 1)))) := by
  have e := good_name_eq (b := b) h0 he (show n.length ≤ 10000 by omega) hcn
  have e2 := par_c n t [] h
  have e3 := open_value_eq (b := b) (ends := ends) (t := t.drop 1) (n := n) (by rw [List.length_drop]; omega) (by omega) (fun c hc2 => hc c (List.mem_of_mem_drop hc2))
  rw [List.singleton_append] at e2
  clear he hc hcn
  unfold r__law_open_row f__law_open_row
  generalize ovl b ends n (t.drop 1) = o at *
  generalize (gd b.n room ends n && n.all sm) = a at *
  walk_at "k"
  cases a
  · simp
  · by_cases z : List.take 1 t = List.take t.length [32] <;> simp [z]
theorem whole_row_no (e2 : parL t [58, 32] = (t, [], [])) (hl : t.length ≤ 10000) : r__law_whole_row [.str t, .tup b.l, .int room, .tup (ends.map D.str)] = some (.bl false) := by
  unfold r__law_whole_row f__law_whole_row
  walk_at "k"
theorem whole_row_yes (h : 58 ∉ n) (h0 : 0 ≤ room) (he : ∀ e ∈ ends, e ∈ EN) (hln : n.length ≤ 5000) (hl : t.length ≤ 4000) (hcn : ∀ c ∈ n, c < 128) (hc : ∀ c ∈ t, c < 128) :
    r__law_whole_row [.str (n ++ 58 :: 32 :: t), .tup b.l, .int room, .tup (ends.map D.str)] = some (.bl ((gd b.n room ends n && n.all sm) && gvl b ends n t)) := by
  have e := good_name_eq (b := b) h0 he (show n.length ≤ 10000 by omega) hcn
  have e2 := par_c n t [32] h
  have e3 := good_value_eq (b := b) (ends := ends) (t := t) (n := n) (by omega) (by omega) hc
  rw [List.cons_append, List.singleton_append] at e2
  clear he hc hcn
  unfold r__law_whole_row f__law_whole_row
  generalize gvl b ends n t = o at *
  generalize (gd b.n room ends n && n.all sm) = a at *
  walk_at "k"
  cases a <;> simp
theorem par_last (h : 58 ∉ n) : parL (n ++ [58]) [58, 32] = (n ++ [58], [], []) := by
  have e : TL.par [58, 32] [] (n ++ [58]) = none := by
    refine TL.par_none fun i hi => ?_
    rw [List.length_append, List.length_singleton] at hi
    by_cases z : i < n.length
    · rw [List.drop_append_of_le_length (by omega)]
      cases e : n.drop i with
      | nil => rw [List.drop_eq_nil_iff] at e; omega
      | cons c r =>
        have hc : c ≠ 58 := fun y => h (by rw [← y]; exact List.mem_of_mem_drop (by rw [e]; exact List.mem_cons_self ..))
        simp [TL.pre, hc]
    · have : i = n.length := by omega
      subst this
      rw [List.drop_left]
      rfl
  unfold parL
  rw [e]
end
/-! ### a row and the law's walk -/
section
variable {b : Bk} {r : RowS} {c : Nat}
theorem numL_dg (n : Nat) : (TL.numL n).all dg = true := by
  induction n using Nat.strongRecOn with
  | _ n ih =>
    have q : ∀ d < 10, dg (48 + d) = true := by decide
    by_cases h : n < 10
    · rw [TL.numL_lt h]
      simp [q n h]
    · rw [TL.numL_step (by omega), List.all_append, ih (n / 10) (by omega)]
      simp [q (n % 10) (by omega)]
theorem numL_head (n : Nat) (h : n ≠ 0) : (TL.numL n).headD 0 ≠ 48 := by
  induction n using Nat.strongRecOn with
  | _ n ih =>
    by_cases h1 : n < 10
    · rw [TL.numL_lt h1]
      show 48 + n ≠ 48
      omega
    · have := ih (n / 10) (by omega) (by omega)
      rw [TL.numL_step (by omega)]
      cases e : TL.numL (n / 10) with
      | nil => exact absurd e (TL.numL_ne _)
      | cons a l => rw [e] at this; exact this
theorem numL_last (n : Nat) : (TL.numL n).getLastD 0 ≠ 32 := by
  by_cases h1 : n < 10
  · rw [TL.numL_lt h1]
    show 48 + n ≠ 32
    omega
  · rw [TL.numL_step (by omega), List.getLastD_concat]
    omega
theorem fg_num {most : Int} (n : Nat) (h : (n : Int) ≤ most) (h2 : most ≤ 1000) : fg most (TL.numL n) = true := by
  have l1 : (TL.numL n).length ≤ 4 := TL.numL_len (k := 4) (by decide) (by omega)
  unfold fg
  rw [numL_dg, valN_num, decide_eq_true (show (TL.numL n).length ≤ 9 by omega), decide_eq_true h]
  have : ¬ (1 < (TL.numL n).length ∧ (TL.numL n).headD 0 = 48) := by
    rintro ⟨y1, y2⟩
    by_cases z : n = 0
    · subst z
      rw [TL.numL_lt (by decide)] at y1
      exact absurd y1 (by decide)
    · exact numL_head n z y2
  rw [decide_eq_false this]
  simp
theorem fg_step {most n : Int} {f : List Nat} (h : (f = [] ∧ n = 0) ∨ (0 ≤ n ∧ n ≤ most ∧ f = TL.numL n.toNat)) (hm : most ≤ 1000) : fg most (f ++ [c]) = (numF 10 most f n c).isSome := by
  have q : c ∈ FIG.take (10 : Int).toNat ↔ dg c = true := by
    unfold dg
    rw [decide_eq_true_eq]
    rfl
  have qv : dg c = true → figv c = c - 48 := fun h => by
    have := dg_b h
    unfold figv
    rw [if_pos (by omega)]
  have hv : (valN f : Int) = n := by
    rcases h with ⟨rfl, rfl⟩ | ⟨h1, h2, rfl⟩
    · rfl
    · rw [valN_num]; omega
  have hd : f.all dg = true := by
    rcases h with ⟨rfl, rfl⟩ | ⟨h1, h2, rfl⟩
    · rfl
    · exact numL_dg _
  have hl : f.length ≤ 4 := by
    rcases h with ⟨rfl, rfl⟩ | ⟨h1, h2, rfl⟩
    · decide
    · exact TL.numL_len (k := 4) (by decide) (by omega)
  have hh : (1 < (f ++ [c]).length ∧ (f ++ [c]).headD 0 = 48) ↔ f = [48] := by
    rcases h with ⟨rfl, rfl⟩ | ⟨h1, h2, e⟩
    · simp
    · cases f with
      | nil => exact absurd e.symm (TL.numL_ne _)
      | cons a l =>
        simp only [List.cons_append, List.length_cons, List.length_append, List.length_nil, List.headD_cons]
        constructor
        · rintro ⟨_, rfl⟩
          by_cases z : n.toNat = 0
          · rw [z, TL.numL_lt (by decide)] at e
            exact e
          · have := numL_head _ z
            rw [← e] at this
            exact absurd rfl this
        · intro z
          cases z
          exact ⟨by decide, rfl⟩
  unfold fg numF
  rw [valN_snoc, List.all_append, hd, decide_eq_true (show (f ++ [c]).length ≤ 9 by rw [List.length_append, List.length_singleton]; omega), decide_eq_false (show f ++ [c] ≠ [] by simp)]
  simp only [hh, q]
  by_cases d : dg c = true
  · have dc := dg_b d
    have e : ((valN f * 10 + (c - 48) : Nat) : Int) = n * 10 + (figv c : Nat) := by rw [qv d]; omega
    rw [e]
    by_cases f48 : f = [48]
    · simp [f48]
    · by_cases le : n * 10 + ((figv c : Nat) : Int) ≤ most
      · simp [f48, d, le]
      · simp [f48, d, le]
  · simp [d]
theorem open_ovl (B : BkOk b) (I : RowInv b r) (hf : r.fil ≠ .no) (hc : pln c = true) (h59 : c ≠ 59) : ovl b r.ends r.lab (r.fil.txt ++ [c]) = (r.fil.fed b c).isSome := by
  have i5 := I.fil
  cases e : r.fil with
  | no => exact absurd e hf
  | val t =>
    rw [e] at i5
    obtain ⟨j1, j2, j3, ⟨v1, v2, v3, v4⟩, j5⟩ := i5
    unfold ovl
    rw [if_neg (fun z => j3 z.1), if_neg j3]
    unfold Fil.fed Fil.txt
    have n10 : 10 ∉ t := fun z => (v2 10 z).2.1 rfl
    have n59 : 59 ∉ t := fun z => (v2 59 z).2.2 rfl
    have key : (!decide (b.v < ((t ++ [c]).length : Int) ∨ (t ++ [c]).take 1 = [32] ∨ 10 ∈ t ++ [c] ∨ 59 ∈ t ++ [c]) && (!decide ((t ++ [c]).drop ((t ++ [c]).length - 1) = [32]) || decide (((t ++ [c]).length : Int) < b.v))) = vOk b.v t c := by
      have d1 : (t ++ [c]).drop ((t ++ [c]).length - 1) = [c] := by simp
      have d2 : ((t ++ [c]).take 1 = [32]) ↔ (t = [] ∧ c = 32) := by
        cases t with
        | nil => simp
        | cons a t =>
          have := v3 (List.cons_ne_nil _ _)
          simpa using this
      unfold vOk
      rw [d1, hc, Bool.eq_iff_iff]
      simp only [d2, List.length_append, List.length_singleton, List.mem_append, n10, n59, List.mem_singleton, false_or, Bool.and_eq_true, Bool.not_eq_true', decide_eq_false_iff_not, Bool.or_eq_true, decide_eq_true_eq, not_or, true_and, List.cons.injEq, and_true]
      have := B.v1
      constructor
      · rintro ⟨⟨a1, a2, a3, a4⟩, a5⟩
        refine ⟨⟨fun z => a3 z.symm, h59, by omega⟩, ?_⟩
        rintro ⟨rfl, z | z⟩
        · exact a2 ⟨z, rfl⟩
        · rcases a5 with a5 | a5
          · exact a5 rfl
          · omega
      · rintro ⟨⟨a1, _, a3⟩, a4⟩
        refine ⟨⟨by omega, fun z => a4 ⟨z.2, .inl z.1⟩, fun z => a1 z.symm, fun z => h59 z.symm⟩, ?_⟩
        by_cases z : c = 32
        · exact .inr (by have : ¬ ((t.length : Int) + 1 = b.v) := fun y => a4 ⟨z, .inr y⟩; omega)
        · exact .inl z
    rw [key]
    show _ = (if vOk b.v t c = true then some (Fil.val (t ++ [c])) else none).isSome
    cases vOk b.v t c <;> rfl
  | num f n =>
    rw [e] at i5
    obtain ⟨j1, j2, j3, j4, j5, j6⟩ := i5
    unfold ovl
    rw [if_pos ⟨j4, j3⟩]
    show fg b.b (f ++ [c]) = ((numF 10 b.b f n c).map _).isSome
    rw [fg_step j5 B.b1, Option.isSome_map]
  | yes m =>
    rw [e] at i5
    obtain ⟨j1, j2, j3, j4, j5, j6⟩ := i5
    unfold ovl
    rw [if_neg (fun z => j3 z.2), if_pos j4]
    match m, j5 with
    | 0, _ => by_cases z : 121 = c <;> simp [Fil.txt, Fil.fed, z]
    | 1, _ => by_cases z : 101 = c <;> simp [Fil.txt, Fil.fed, z]
    | 2, _ => by_cases z : 115 = c <;> simp [Fil.txt, Fil.fed, z]
    | 3, _ => simp [Fil.txt, Fil.fed]
theorem good_gvl (B : BkOk b) (I : RowInv b r) (hf : r.fil ≠ .no) : gvl b r.ends r.lab r.fil.txt = r.fil.good := by
  have i5 := I.fil
  cases e : r.fil with
  | no => exact absurd e hf
  | val t =>
    rw [e] at i5
    obtain ⟨j1, j2, j3, ⟨v1, v2, v3, v4⟩, j5⟩ := i5
    unfold gvl Fil.txt Fil.good vGood
    simp only
    by_cases z : t = []
    · simp [z]
    · have n10 : 10 ∉ t := fun z => (v2 10 z).2.1 rfl
      have n59 : 59 ∉ t := fun z => (v2 59 z).2.2 rfl
      have o : ovl b r.ends r.lab t = true := by
        unfold ovl
        rw [if_neg (fun z => j3 z.1), if_neg j3]
        have d1 : t.take 1 ≠ [32] := by
          cases t with
          | nil => exact absurd rfl z
          | cons a t => have := v3 (List.cons_ne_nil _ _); simpa using this
        have d2 : t.drop (t.length - 1) = [32] → (t.length : Int) < b.v := by
          intro y
          refine v4 z ?_
          rcases List.eq_nil_or_concat t with rfl | ⟨u, x, rfl⟩
          · exact absurd rfl z
          · rw [List.concat_eq_append] at y ⊢
            rw [List.getLastD_concat]
            simpa using y
        rw [Bool.and_eq_true, Bool.not_eq_true', decide_eq_false_iff_not, Bool.or_eq_true, Bool.not_eq_true', decide_eq_false_iff_not, decide_eq_true_eq]
        refine ⟨?_, ?_⟩
        · rintro (y | y | y | y)
          · omega
          · exact d1 y
          · exact n10 y
          · exact n59 y
        · by_cases y : t.drop (t.length - 1) = [32]
          · exact .inr (d2 y)
          · exact .inl y
      rw [o, if_neg (by simp [z]), if_neg (fun y => j3 y.1)]
      simp [z]
  | num f n =>
    rw [e] at i5
    obtain ⟨j1, j2, j3, j4, j5, j6⟩ := i5
    unfold gvl Fil.txt Fil.good
    simp only
    by_cases z : f = []
    · simp [z]
    · rcases j5 with ⟨y, _⟩ | ⟨y1, y2, rfl⟩
      · exact absurd y z
      · have o : ovl b r.ends r.lab (TL.numL n.toNat) = true := by
          unfold ovl
          rw [if_pos ⟨j4, j3⟩]
          exact fg_num _ (by omega) B.b1
        have := numL_last n.toNat
        rw [o, if_neg (by simp [z]), if_neg (fun y => y.2 j3)]
        simp only [z, this, ne_eq, not_false_eq_true, decide_true]
  | yes m =>
    rw [e] at i5
    obtain ⟨j1, j2, j3, j4, j5, j6⟩ := i5
    have o : ovl b r.ends r.lab (yesN.take m) = true := by
      unfold ovl
      rw [if_neg (fun z => j3 z.2), if_pos j4]
      match m, j5 with
      | 0, _ => rfl
      | 1, _ => rfl
      | 2, _ => rfl
      | 3, _ => rfl
    unfold gvl Fil.txt Fil.good
    simp only
    rw [o]
    match m, j5 with
    | 0, _ => simp
    | 1, _ => simp [j3, j4]
    | 2, _ => simp [j3, j4]
    | 3, _ => simp [j3, j4]
end
section
variable {b : Bk} {r : RowS} {c : Nat}
theorem ovl_nil (B : BkOk b) (ends : List (List Nat)) (n : List Nat) : ovl b ends n [] = true := by
  have := B.v0
  unfold ovl
  split
  · rfl
  · split
    · rfl
    · simp; omega
theorem no58 {l : List Nat} (h : ∀ c ∈ l, sm c = true) : 58 ∉ l := fun z => absurd (h 58 z) (by decide)
theorem all_of {l : List Nat} (h : ∀ c ∈ l, sm c = true) : l.all sm = true := List.all_eq_true.mpr h
theorem fil_txt_ok (B : BkOk b) (I : RowInv b r) : (∀ x ∈ r.fil.txt, x < 128) ∧ r.fil.txt.length ≤ 1000 := by
  have ok := I.ok B
  cases e : r.fil with
  | no => exact ⟨(fun _ h => nomatch h), Nat.zero_le _⟩
  | val t => exact ⟨ok.fvc t e, ok.fv t e⟩
  | num f n =>
    have i5 := I.fil
    rw [e] at i5
    refine ⟨fun x hx => ?_, Nat.le_trans (ok.fn f n e) (by decide)⟩
    rcases i5.2.2.2.2.1 with ⟨rfl, _⟩ | ⟨_, _, rfl⟩
    · cases hx
    · have := dg_b (List.all_eq_true.mp (numL_dg _) x hx)
      omega
  | yes m =>
    refine ⟨fun x hx => ?_, by show (yesN.take m).length ≤ 1000; rw [List.length_take]; exact Nat.le_trans (Nat.min_le_right _ _) (by decide)⟩
    have : ∀ x ∈ yesN, x < 128 := by decide
    exact this x (List.mem_of_mem_take hx)
theorem open_row_r (B : BkOk b) (I : RowInv b r) (h0 : 0 ≤ r.room) (ht : r.tail = 0) (hc : pln c = true) (h59 : c ≠ 59) : r__law_open_row [.str (r.txt ++ [c]), .tup b.l, .int r.room, .tup (r.ends.map D.str)] = some (.bl (r.fed b c).isSome) := by
  have ok := I.ok B
  have c128 := pln_128 hc
  have lb := I.lab
  have l128 : ∀ x ∈ r.lab, x < 128 := ok.labc
  have ll := ok.lab
  have i5 := I.fil
  by_cases hf : r.fil = .no
  · rw [hf] at i5
    obtain ⟨j1, j2, j3, j4⟩ := i5
    rcases (show r.gap = 0 ∨ r.gap = 1 by omega) with g | g
    · have tx : r.txt = r.lab := by unfold RowS.txt; rw [g, hf, ht]; simp [Fil.txt]
      rw [tx]
      by_cases z : c = 58
      · subst z
        have := open_row_yes (b := b) (room := r.room) (ends := r.ends) (n := r.lab) (t := []) (no58 lb) h0 I.es (by omega) (by simp) l128 (fun _ h => nomatch h)
        rw [List.drop_nil] at this
        rw [this]
        unfold RowS.fed RowS.gd
        rw [ht, hf, g, ovl_nil B, all_of lb]
        cases hg : gd b.n r.room r.ends r.lab <;> simp [sm]
      · have h58 : 58 ∉ r.lab ++ [c] := by
          intro y
          rcases List.mem_append.mp y with y | y
          · exact no58 lb y
          · exact z (List.mem_singleton.mp y).symm
        have := open_row_no (b := b) (room := r.room) (ends := r.ends) (t := r.lab ++ [c]) h58 h0 I.es I.el (by rw [List.length_append, List.length_singleton]; omega) (fun x hx => by
          rcases List.mem_append.mp hx with hx | hx
          · exact l128 x hx
          · rw [List.mem_singleton.mp hx]; exact c128)
        rw [this]
        unfold RowS.fed
        rw [ht, hf, g, List.all_append, all_of lb]
        simp only [Nat.lt_irrefl, if_false, h59, z, false_and]
        rw [decide_eq_false (show r.lab ++ [c] ≠ [] by simp)]
        cases hp b.n r.room r.ends (r.lab ++ [c]) <;> cases hs : sm c <;> simp [hs]
    · have tx : r.txt = r.lab ++ [58] := by unfold RowS.txt; rw [g, hf, ht]; simp [Fil.txt]
      have := open_row_yes (b := b) (room := r.room) (ends := r.ends) (n := r.lab) (t := [c]) (no58 lb) h0 I.es (by omega) (by simp) l128 (fun x hx => by rw [List.mem_singleton.mp hx]; exact c128)
      have gdt := j2 g
      unfold RowS.gd at gdt
      rw [tx, List.append_assoc, List.singleton_append, this, gdt, all_of lb]
      have ov := ovl_nil B r.ends r.lab
      unfold RowS.fed
      rw [ht, hf, g]
      by_cases z : c = 32
      · subst z; simp [ov]
      · have z2 : ¬ 32 = c := fun y => z y.symm
        simp [z, z2]
  · have g2 : r.gap = 2 := by
      cases e : r.fil with
      | no => exact absurd e hf
      | val t => rw [e] at i5; exact i5.1
      | num f n => rw [e] at i5; exact i5.1
      | yes m => rw [e] at i5; exact i5.1
    have gdt : r.gd b = true := by
      cases e : r.fil with
      | no => exact absurd e hf
      | val t => rw [e] at i5; exact i5.2.1
      | num f n => rw [e] at i5; exact i5.2.1
      | yes m => rw [e] at i5; exact i5.2.1
    obtain ⟨f1, f2⟩ : (∀ x ∈ r.fil.txt, x < 128) ∧ r.fil.txt.length ≤ 1000 := fil_txt_ok B I
    have tx : r.txt ++ [c] = r.lab ++ 58 :: (32 :: (r.fil.txt ++ [c])) := by unfold RowS.txt; rw [g2, ht]; simp
    have := open_row_yes (b := b) (room := r.room) (ends := r.ends) (n := r.lab) (t := 32 :: (r.fil.txt ++ [c])) (no58 lb) h0 I.es (by omega) (by simp; omega) l128 (fun x hx => by
      rcases List.mem_cons.mp hx with rfl | hx
      · decide
      · rcases List.mem_append.mp hx with hx | hx
        · exact f1 x hx
        · rw [List.mem_singleton.mp hx]; exact c128)
    unfold RowS.gd at gdt
    rw [tx, this, gdt, all_of lb]
    show some (D.bl ((true && true) && (decide ([32] = ([32] : List Nat).take (r.fil.txt ++ [c]).length.succ) && ovl b r.ends r.lab (r.fil.txt ++ [c])))) = _
    rw [open_ovl B I hf hc h59]
    have : (r.fed b c).isSome = (r.fil.fed b c).isSome := by
      unfold RowS.fed
      rw [ht]
      cases e : r.fil with
      | no => exact absurd e hf
      | _ => simp [h59]
    rw [this]
    simp
theorem whole_row_r (B : BkOk b) (I : RowInv b r) (h0 : 0 ≤ r.room) (ht : r.tail = 0) (hn : r.txt ≠ []) : r__law_whole_row [.str r.txt, .tup b.l, .int r.room, .tup (r.ends.map D.str)] = some (.bl (r.fed b 59).isSome) := by
  have ok := I.ok B
  have lb := I.lab
  have l128 : ∀ x ∈ r.lab, x < 128 := ok.labc
  have ll := ok.lab
  have i5 := I.fil
  by_cases hf : r.fil = .no
  · rw [hf] at i5
    obtain ⟨j1, j2, j3, j4⟩ := i5
    rcases (show r.gap = 0 ∨ r.gap = 1 by omega) with g | g
    · have tx : r.txt = r.lab := by unfold RowS.txt; rw [g, hf, ht]; simp [Fil.txt]
      rw [tx] at hn ⊢
      rw [whole_row_no (par_no r.lab [32] (no58 lb)) (by omega)]
      unfold RowS.fed
      rw [ht, hf, g]
      simp [hn, sm]
    · have tx : r.txt = r.lab ++ [58] := by unfold RowS.txt; rw [g, hf, ht]; simp [Fil.txt]
      rw [tx, whole_row_no (par_last (no58 lb)) (by rw [List.length_append, List.length_singleton]; omega)]
      unfold RowS.fed
      rw [ht, hf, g]
      simp
  · have g2 : r.gap = 2 := by
      cases e : r.fil with
      | no => exact absurd e hf
      | val t => rw [e] at i5; exact i5.1
      | num f n => rw [e] at i5; exact i5.1
      | yes m => rw [e] at i5; exact i5.1
    have gdt : r.gd b = true := by
      cases e : r.fil with
      | no => exact absurd e hf
      | val t => rw [e] at i5; exact i5.2.1
      | num f n => rw [e] at i5; exact i5.2.1
      | yes m => rw [e] at i5; exact i5.2.1
    obtain ⟨f1, f2⟩ : (∀ x ∈ r.fil.txt, x < 128) ∧ r.fil.txt.length ≤ 1000 := fil_txt_ok B I
    have tx : r.txt = r.lab ++ 58 :: 32 :: r.fil.txt := by unfold RowS.txt; rw [g2, ht]; simp
    unfold RowS.gd at gdt
    rw [tx, whole_row_yes (no58 lb) h0 I.es (by omega) (by omega) l128 f1, gdt, all_of lb, good_gvl B I hf]
    have : (r.fed b 59).isSome = r.fil.good := by
      unfold RowS.fed
      rw [ht]
      cases e : r.fil with
      | no => exact absurd e hf
      | val t =>
        rw [e] at i5
        cases hg : (Fil.val t).good
        · have v : vOk b.v t 59 = false := by unfold vOk; simp
          simp [Fil.fed, v]
        · simp
      | num f n =>
        cases hg : (Fil.num f n).good
        · have v : numF 10 b.b f n 59 = none := by unfold numF; rw [if_neg (fun z => absurd z.1 (by decide))]
          simp [Fil.fed, v]
        · simp
      | yes m =>
        cases hg : (Fil.yes m).good
        · have v : yesN[m]? ≠ some 59 := by
            intro z
            exact absurd (List.mem_of_getElem? z) (by decide)
          simp [Fil.fed, v]
        · simp
    rw [this]
    simp
end
/-! ### the law's walk over rows -/
theorem drop1c (a : Nat) (l : List Nat) : (a :: l).drop 1 = l := rfl
local macro_rules | `(tactic| walk_at "kd") => `(tactic| simp (disch := walk_at "d") only [drop1c, kset, kset2, kset5, kset6, kset10, klaw, Option.bind_some, Option.map_some, Option.bind_none, Option.map_none, List.getElem?_cons_zero, List.getElem?_cons_succ, List.set_cons_zero, List.set_cons_succ, List.cons_append, List.nil_append, List.append_nil, List.length_cons, List.length_nil, List.length_map, List.replicate_zero, List.replicate_succ, Bool.and_true, Bool.true_and, Bool.not_true, Bool.not_false, Bool.false_eq_true, Bool.not_eq_true', decide_eq_true_eq, decide_eq_false_iff_not, Bool.and_eq_true, Bool.or_eq_true, Nat.reduceAdd, Nat.reduceSub, Nat.reduceLeDiff, Nat.reduceLT, Nat.reduceEqDiff, List.take_succ_cons, Bool.or_false, Bool.or_true, Bool.false_or, Bool.true_or, Bool.and_false, Bool.false_and, List.take_zero, List.take_nil, Int.reduceLT, Int.reduceLE, Int.reduceNeg, Int.reduceAdd, Int.reduceSub, Int.reduceMul, Int.reduceEq, Int.reduceToNat, Int.reducePow, and_true, true_and, and_false, false_and, or_true, true_or, or_false, false_or, not_true_eq_false, not_false_eq_true, eq_self, if_true, if_false, ite_self, decide_true, decide_false, ite_not, List.map_cons, List.map_nil, List.cons.injEq, reduceCtorEq, List.isEmpty_cons, Int.natCast_one, Int.cast_ofNat_Int, Int.natCast_zero, Int.toNat_natCast, *])
section
variable {b : Bk} {r : RowS} {c : Nat}
def qn (k : Nat) : List Nat := if k = 0 then [] else [10]
def upd2 (ends : List (List Nat)) (room : Int) (n : List Nat) : Int × List (List Nat) := if n ∈ ends then (0, []) else (room - 1, ends)
theorem whole_of (B : BkOk b) (I : RowInv b r) (h0 : 0 ≤ r.room) (ht : r.tail = 0) (hg : r.fil.good = true) : r__law_whole_row [.str r.txt, .tup b.l, .int r.room, .tup (r.ends.map D.str)] = some (.bl true) ∧ r.gap = 2 := by
  have i5 := I.fil
  have g2 : r.gap = 2 := by
    cases e : r.fil with
    | no => rw [e] at hg; cases hg
    | val t => rw [e] at i5; exact i5.1
    | num f n => rw [e] at i5; exact i5.1
    | yes m => rw [e] at i5; exact i5.1
  have hn : r.txt ≠ [] := by unfold RowS.txt; rw [g2]; simp
  refine ⟨?_, g2⟩
  rw [whole_row_r B I h0 ht hn]
  congr 2
  unfold RowS.fed
  rw [ht]
  cases e : r.fil with
  | no => rw [e] at hg; cases hg
  | _ => rw [e] at hg; simp [hg]
/-- one whole row -/
theorem body_w {text : List Nat} {room : Int} {ends : List (List Nat)} {rows : List (List Nat)} {k : Nat} {n v : List Nat} (hk : rows[k]? = some (qn k ++ (n ++ 58 :: 32 :: v))) (hl : rows.length ≤ 100000) (h58 : 58 ∉ n)
    (hn : n.length ≤ 5000) (hv : v.length ≤ 4000)
    (hw : r__law_whole_row [.str (n ++ 58 :: 32 :: v), .tup b.l, .int room, .tup (ends.map D.str)] = some (.bl true)) :
    lb1__law_hopeful [.str text, .tup b.l, .int room, .tup (ends.map D.str), .lst (rows.map D.str), .int (k : Nat), .un] [] = some (.nx [.str text, .tup b.l, .int (upd2 ends room n).1, .tup ((upd2 ends room n).2.map D.str), .lst (rows.map D.str), .un, .un] []) := by
  have e1 : (rows.map D.str)[k]? = some (.str (qn k ++ (n ++ 58 :: 32 :: v))) := by rw [List.getElem?_map, hk]; rfl
  have e2 := par_c n (32 :: v) [] h58
  rw [List.singleton_append] at e2
  have e3 : n ++ 58 :: 32 :: v ≠ [] := by simp
  clear hk
  unfold lb1__law_hopeful upd2
  by_cases z : k = 0
  · subst z
    have q0 : qn 0 = [] := rfl
    rw [q0, List.nil_append] at e1
    by_cases y : n ∈ ends
    · simp only [if_pos y]
      walk_at "kd"
    · simp only [if_neg y]
      walk_at "kd"
  · have q0 : qn k = [10] := if_neg z
    rw [q0, List.singleton_append] at e1
    have kp : (0 : Int) < (k : Nat) := by omega
    by_cases y : n ∈ ends
    · simp only [if_pos y]
      walk_at "kd"
    · simp only [if_neg y]
      walk_at "kd"
theorem whole_parts (h : r.gap = 2) (ht : r.tail = 0) : r.txt = r.lab ++ 58 :: 32 :: r.fil.txt := by unfold RowS.txt; rw [h, ht]; simp
/-- a row that is whole, walked -/
theorem body_r (B : BkOk b) (I : RowInv b r) (h0 : 0 ≤ r.room) (ht : r.tail = 0) (hg : r.fil.good = true) {text : List Nat} {rows : List (List Nat)} {k : Nat} (hk : rows[k]? = some (qn k ++ r.txt)) (hl : rows.length ≤ 100000) :
    lb1__law_hopeful [.str text, .tup b.l, .int r.room, .tup (r.ends.map D.str), .lst (rows.map D.str), .int (k : Nat), .un] [] = some (.nx [.str text, .tup b.l, .int (upd2 r.ends r.room r.lab).1, .tup ((upd2 r.ends r.room r.lab).2.map D.str), .lst (rows.map D.str), .un, .un] []) := by
  obtain ⟨w1, w2⟩ := whole_of B I h0 ht hg
  have tx := whole_parts w2 ht
  have ok := I.ok B
  have f := (fil_txt_ok B I).2
  have ll := ok.lab
  rw [tx] at hk w1
  exact body_w hk hl (no58 I.lab) (by omega) (by omega) w1
def fldR (z : List Nat × List Nat) : List Nat := z.1 ++ 58 :: 32 :: z.2
def endR (z : List Nat × Int) : List Nat := z.1 ++ 58 :: 32 :: (if z.1 = lengthN then TL.numL z.2.toNat else yesN)
def preK : Nat → List (List Nat) → List (List Nat)
  | _, [] => []
  | k, w :: ws => (qn k ++ w) :: preK (k + 1) ws
theorem preK_len : ∀ (ws : List (List Nat)) (k : Nat), (preK k ws).length = ws.length
  | [], _ => rfl
  | w :: ws, k => by rw [preK, List.length_cons, preK_len ws, List.length_cons]
theorem drop_get {rows l : List (List Nat)} {k : Nat} {x : List Nat} (h : rows.drop k = x :: l) : rows[k]? = some x ∧ rows.drop (k + 1) = l := by
  constructor
  · have : (rows.drop k)[0]? = some x := by rw [h]; rfl
    rwa [List.getElem?_drop, Nat.add_zero] at this
  · rw [← List.drop_drop, h]
    rfl
theorem hope_kept (ys : List D) (B : BkOk b) {ends : List (List Nat)} (he : ∀ e ∈ ends, e ∈ EN) (hel : ends.length ≤ 4) {text : List Nat} {rows : List (List Nat)} (hl : rows.length ≤ 100000) : ∀ (fs : List (List Nat × List Nat)) (k : Nat) (room : Int) (rest : List (List Nat)), rows.drop k = preK k (fs.map fldR) ++ rest → (∀ z ∈ fs, lbl b z.1 ∧ vlu b z.2) → (fs.length : Int) ≤ room →
    forL (tgN 5) lb1__law_hopeful [.str text, .tup b.l, .int room, .tup (ends.map D.str), .lst (rows.map D.str), .un, .un] [] (((List.range' k fs.length).map fun (i : Nat) => D.int (i : Int)) ++ ys) =
      forL (tgN 5) lb1__law_hopeful [.str text, .tup b.l, .int (room - fs.length), .tup (ends.map D.str), .lst (rows.map D.str), .un, .un] [] ys
  | [], k, room, rest, _, _, _ => by simp
  | z :: fs, k, room, rest, hd, hg, hr => by
    rw [List.length_cons] at hr
    obtain ⟨⟨n1, n2, n3, n4⟩, v1, v2, v3, v4, v5⟩ := hg z (List.mem_cons_self ..)
    obtain ⟨d1, d2⟩ := drop_get (show rows.drop k = (qn k ++ fldR z) :: (preK (k + 1) (fs.map fldR) ++ rest) from hd)
    have nm : z.1 ∉ ends := fun y => n4 (he _ y)
    have g : gd b.n room ends z.1 = true := by
      unfold gd
      rw [decide_eq_true (show 0 < room by omega), decide_eq_true (show z.1 ≠ [] ∧ (z.1.length : Int) ≤ b.n from ⟨n1, n2⟩), decide_eq_false n4]
      simp
    have vg : vGood z.2 = true := decide_eq_true ⟨v1, v5⟩
    have I : RowInv b ⟨room, ends, z.1, 2, .val z.2, 0⟩ := ⟨he, hel, n3, Nat.zero_le _, rfl, g, nm, ⟨v2, v3, fun _ => v4, fun _ y => absurd y v5⟩, fun _ => vg⟩
    have tx : RowS.txt ⟨room, ends, z.1, 2, .val z.2, 0⟩ = fldR z := by simp [RowS.txt, fldR, Fil.txt]
    have bd := body_r (text := text) (rows := rows) (k := k) B I (show 0 ≤ room by omega) rfl vg (by rw [tx]; exact d1) hl
    have u : upd2 ends room z.1 = (room - 1, ends) := if_neg nm
    simp only [u] at bd
    have ih := hope_kept ys B he hel (text := text) hl fs (k + 1) (room - 1) rest d2 (fun x hx => hg x (List.mem_cons_of_mem _ hx)) (by omega)
    rw [List.length_cons, List.range'_succ, List.map_cons, List.cons_append]
    refine (forL_turn (ρ1 := [.str text, .tup b.l, .int room, .tup (ends.map D.str), .lst (rows.map D.str), .int (k : Nat), .un]) rfl bd).trans ?_
    rw [ih]
    have e : room - 1 - (fs.length : Int) = room - ((fs.length + 1 : Nat) : Int) := by omega
    rw [e]
end
local macro_rules | `(tactic| walk_at "kd") => `(tactic| simp (disch := walk_at "d") only [drop1c, kset, kset2, kset5, kset6, kset10, klaw, Option.bind_some, Option.map_some, Option.bind_none, Option.map_none, List.getElem?_cons_zero, List.getElem?_cons_succ, List.set_cons_zero, List.set_cons_succ, List.cons_append, List.nil_append, List.append_nil, List.length_cons, List.length_nil, List.length_map, List.replicate_zero, List.replicate_succ, Bool.and_true, Bool.true_and, Bool.not_true, Bool.not_false, Bool.false_eq_true, Bool.not_eq_true', decide_eq_true_eq, decide_eq_false_iff_not, Bool.and_eq_true, Bool.or_eq_true, Nat.reduceAdd, Nat.reduceSub, Nat.reduceLeDiff, Nat.reduceLT, Nat.reduceEqDiff, List.take_succ_cons, Bool.or_false, Bool.or_true, Bool.false_or, Bool.true_or, Bool.and_false, Bool.false_and, List.take_zero, List.take_nil, Int.reduceLT, Int.reduceLE, Int.reduceNeg, Int.reduceAdd, Int.reduceSub, Int.reduceMul, Int.reduceEq, Int.reduceToNat, Int.reducePow, and_true, true_and, and_false, false_and, or_true, true_or, or_false, false_or, not_true_eq_false, not_false_eq_true, eq_self, if_true, if_false, ite_self, decide_true, decide_false, ite_not, List.map_cons, List.map_nil, List.cons.injEq, reduceCtorEq, List.isEmpty_cons, Int.natCast_one, Int.cast_ofNat_Int, Int.natCast_zero, Int.toNat_natCast, *])
section
variable {b : Bk} {r : RowS} {c : Nat}
theorem body_f {text x : List Nat} {room : Int} {ends : List (List Nat)} {rows : List (List Nat)} {k : Nat} (hk : rows[k]? = some (qn k ++ x)) (hl : rows.length ≤ 100000) (hx : x ≠ []) (hxl : x.length ≤ 10000)
    (hw : r__law_whole_row [.str x, .tup b.l, .int room, .tup (ends.map D.str)] = some (.bl false)) :
    ∃ ρ', lb1__law_hopeful [.str text, .tup b.l, .int room, .tup (ends.map D.str), .lst (rows.map D.str), .int (k : Nat), .un] [] = some (.rt (.bl false) ρ' []) := by
  have e1 : (rows.map D.str)[k]? = some (.str (qn k ++ x)) := by rw [List.getElem?_map, hk]; rfl
  clear hk
  unfold lb1__law_hopeful
  by_cases z : k = 0
  · subst z
    have q0 : qn 0 = [] := rfl
    rw [q0, List.nil_append] at e1
    refine ⟨?_, ?_⟩
    rotate_left
    · walk_at "k"
      rfl
  · have q0 : qn k = [10] := if_neg z
    rw [q0, List.singleton_append] at e1
    have kp : (0 : Int) < (k : Nat) := by omega
    refine ⟨?_, ?_⟩
    rotate_left
    · walk_at "kd"
      rfl
theorem body_e {text last : List Nat} {room : Int} {ends : List (List Nat)} {rows : List (List Nat)} {k : Nat} (hk : rows[k]? = some (qn k)) (hl : rows.length ≤ 100000) (hla : rows.getLast? = some last) (hll : last.length ≤ 10000) :
    ∃ ρ', lb1__law_hopeful [.str text, .tup b.l, .int room, .tup (ends.map D.str), .lst (rows.map D.str), .int (k : Nat), .un] [] = some (.rt (.bl (decide ((k : Int) = (rows.length : Int) - 2) && (decide (last = []) || decide (last = [10])))) ρ' []) := by
  have e1 : (rows.map D.str)[k]? = some (.str (qn k)) := by rw [List.getElem?_map, hk]; rfl
  have e2 : (rows.map D.str).getLast? = some (.str last) := by rw [List.getLast?_map, hla]; rfl
  clear hk hla
  unfold lb1__law_hopeful
  by_cases z : k = 0
  · subst z
    have q0 : qn 0 = [] := rfl
    rw [q0] at e1
    refine ⟨?_, ?_⟩
    rotate_left
    · walk_at "k"
      rfl
  · have q0 : qn k = [10] := if_neg z
    rw [q0] at e1
    have kp : (0 : Int) < (k : Nat) := by omega
    refine ⟨?_, ?_⟩
    rotate_left
    · walk_at "kd"
      rfl
theorem body_n {text : List Nat} {room : Int} {ends : List (List Nat)} {rows : List (List Nat)} {k : Nat} (hk : rows[k]? = some []) (hl : rows.length ≤ 100000) (kp : (0 : Int) < (k : Nat)) :
    ∃ ρ', lb1__law_hopeful [.str text, .tup b.l, .int room, .tup (ends.map D.str), .lst (rows.map D.str), .int (k : Nat), .un] [] = some (.rt (.bl false) ρ' []) := by
  have e1 : (rows.map D.str)[k]? = some (.str []) := by rw [List.getElem?_map, hk]; rfl
  clear hk
  unfold lb1__law_hopeful
  refine ⟨?_, ?_⟩
  rotate_left
  · walk_at "kd"
    rfl
end
/-! ### all rows -/
def clR : Option (List Nat × Int) → List (List Nat)
  | none => []
  | some z => [endR z]
def wsOf (s : FldS) : List (List Nat) := s.kept.map fldR ++ clR s.closing
def flat (ws : List (List Nat)) : List Nat := (ws.map (· ++ [59, 10])).flatten
theorem txt_ws (s : FldS) : s.txt = flat (wsOf s) ++ s.row.txt := by
  unfold FldS.txt wsOf flat
  rw [List.map_append, List.flatten_append, List.append_assoc]
  congr 1
  · unfold fieldsT
    congr 1
    rw [List.map_map]
    congr 1
    funext z
    simp [fieldT, fldR]
  · congr 1
    cases s.closing with
    | none => rfl
    | some z =>
      show endT z = (endR z ++ [59, 10]) ++ []
      unfold endT endR
      by_cases h : z.1 = lengthN
      · simp only [if_pos h]; simp
      · simp only [if_neg h]; simp
theorem preK_app : ∀ (a c : List (List Nat)) (k : Nat), preK k (a ++ c) = preK k a ++ preK (k + a.length) c
  | [], c, k => by simp [preK]
  | x :: a, c, k => by
    rw [List.cons_append, preK, preK, preK_app a c (k + 1), List.cons_append, List.length_cons, show k + 1 + a.length = k + (a.length + 1) by omega]
theorem spl_ws : ∀ (ws : List (List Nat)) (k : Nat) (u : List Nat), (∀ w ∈ ws, 59 ∉ w) → TL.spl [59] 0 [] (qn k ++ (flat ws ++ u)) = preK k ws ++ TL.spl [59] 0 [] (qn (k + ws.length) ++ u)
  | [], k, u, _ => by simp [flat, preK]
  | w :: ws, k, u, h => by
    have hq : 59 ∉ qn k ++ w := by
      intro z
      rcases List.mem_append.mp z with z | z
      · unfold qn at z
        split at z
        · cases z
        · exact absurd (List.mem_singleton.mp z) (by decide)
      · exact h w (List.mem_cons_self ..) z
    have e : qn k ++ (flat (w :: ws) ++ u) = (qn k ++ w) ++ ([59] ++ (qn (k + 1) ++ (flat ws ++ u))) := by
      have q1 : qn (k + 1) = [10] := if_neg (by omega)
      rw [q1]
      simp [flat]
    have s1 := TL.spl_part1 (S := []) (acc := []) (rest := qn (k + 1) ++ (flat ws ++ u)) hq
    rw [List.nil_append] at s1
    rw [e]
    refine s1.trans ?_
    rw [spl_ws ws (k + 1) u (fun x hx => h x (List.mem_cons_of_mem _ hx)), preK, List.length_cons, show k + 1 + ws.length = k + (ws.length + 1) by omega]
    rfl
theorem lpW (ys : List D) {K : Int} {b : Bk} {s : FldS} (B : BkOk b) (I : FldInv K b s) {text : List Nat} {rows rest : List (List Nat)} (hd : rows = preK 0 (wsOf s) ++ rest) (hl : rows.length ≤ 100000) :
    forL (tgN 5) lb1__law_hopeful [.str text, .tup b.l, .int K, .tup (s.ends.map D.str), .lst (rows.map D.str), .un, .un] [] (((List.range (wsOf s).length).map fun (i : Nat) => D.int (i : Int)) ++ ys) =
      forL (tgN 5) lb1__law_hopeful [.str text, .tup b.l, .int s.row.room, .tup (s.row.ends.map D.str), .lst (rows.map D.str), .un, .un] [] ys := by
  have rk := I.rk
  have r0 := I.r0
  unfold wsOf at hd ⊢
  rw [preK_app, List.append_assoc] at hd
  have lp := fun ys => hope_kept ys B I.es I.el (text := text) hl s.kept 0 K (preK (0 + (s.kept.map fldR).length) (clR s.closing) ++ rest) hd I.good (by omega)
  simp only [← List.range_eq_range'] at lp
  rcases I.rr with ⟨h1, h2, h3⟩ | ⟨h1, h2, z, h3, z1, z2, z3, z4⟩
  · rw [h3]
    simp only [clR, List.append_nil, List.length_map]
    rw [lp, h1, h2, show K - (s.kept.length : Int) = s.room by omega]
  · rw [h3] at hd ⊢
    have hlen : (s.kept.map fldR ++ clR (some z)).length = s.kept.length + 1 := by simp [clR]
    rw [hlen, List.range_succ, List.map_append, List.map_cons, List.map_nil, List.append_assoc, lp, show K - (s.kept.length : Int) = s.room by omega, h1, h2]
    have hk : rows[s.kept.length]? = some (qn s.kept.length ++ endR z) := by
      rw [hd, List.getElem?_append_right (by rw [preK_len, List.length_map]; exact Nat.le_refl _), preK_len, List.length_map, Nat.sub_self, Nat.zero_add]
      rfl
    have g : gd b.n s.room s.ends z.1 = true := by
      unfold gd
      rw [decide_eq_true z1]
      rfl
    have key : ∀ f : Fil, f.good = true → RowInv b ⟨s.room, s.ends, z.1, 2, f, 0⟩ → RowS.txt ⟨s.room, s.ends, z.1, 2, f, 0⟩ = endR z → forL (tgN 5) lb1__law_hopeful [.str text, .tup b.l, .int s.room, .tup (s.ends.map D.str), .lst (rows.map D.str), .un, .un] [] ([.int (s.kept.length : Nat)] ++ ys) =
        forL (tgN 5) lb1__law_hopeful [.str text, .tup b.l, .int 0, .tup (([] : List (List Nat)).map D.str), .lst (rows.map D.str), .un, .un] [] ys := by
      intro f fg J tx
      have bd := body_r (text := text) (rows := rows) (k := s.kept.length) B J r0 rfl fg (by rw [tx]; exact hk) hl
      have u : upd2 s.ends s.room z.1 = (0, []) := if_pos z1
      simp only [u] at bd
      exact (forL_turn (ρ1 := [.str text, .tup b.l, .int s.room, .tup (s.ends.map D.str), .lst (rows.map D.str), .int (s.kept.length : Nat), .un]) rfl bd).trans rfl
    by_cases hz : z.1 = lengthN
    · refine key (.num (TL.numL z.2.toNat) z.2) (num_good _ _) ⟨I.es, I.el, en_small _ (I.es _ z1), Nat.zero_le _, rfl, g, hz, z1, .inr ⟨z2, z3, rfl⟩, fun _ => TL.numL_ne _⟩ ?_
      unfold endR
      simp [RowS.txt, Fil.txt, hz]
    · refine key (.yes 3) rfl ⟨I.es, I.el, en_small _ (I.es _ z1), Nat.zero_le _, rfl, g, hz, z1, by decide, fun _ => rfl⟩ ?_
      unfold endR
      simp [RowS.txt, Fil.txt, hz]
local macro_rules | `(tactic| walk_at "kd") => `(tactic| simp (disch := walk_at "d") only [drop1c, kset, kset2, kset5, kset6, kset10, klaw, Option.bind_some, Option.map_some, Option.bind_none, Option.map_none, List.getElem?_cons_zero, List.getElem?_cons_succ, List.set_cons_zero, List.set_cons_succ, List.cons_append, List.nil_append, List.append_nil, List.length_cons, List.length_nil, List.length_map, List.replicate_zero, List.replicate_succ, Bool.and_true, Bool.true_and, Bool.not_true, Bool.not_false, Bool.false_eq_true, Bool.not_eq_true', decide_eq_true_eq, decide_eq_false_iff_not, Bool.and_eq_true, Bool.or_eq_true, Nat.reduceAdd, Nat.reduceSub, Nat.reduceLeDiff, Nat.reduceLT, Nat.reduceEqDiff, List.take_succ_cons, Bool.or_false, Bool.or_true, Bool.false_or, Bool.true_or, Bool.and_false, Bool.false_and, List.take_zero, List.take_nil, Int.reduceLT, Int.reduceLE, Int.reduceNeg, Int.reduceAdd, Int.reduceSub, Int.reduceMul, Int.reduceEq, Int.reduceToNat, Int.reducePow, and_true, true_and, and_false, false_and, or_true, true_or, or_false, false_or, not_true_eq_false, not_false_eq_true, eq_self, if_true, if_false, ite_self, decide_true, decide_false, ite_not, List.map_cons, List.map_nil, List.cons.injEq, reduceCtorEq, List.isEmpty_cons, Int.natCast_one, Int.cast_ofNat_Int, Int.natCast_zero, Int.toNat_natCast, *])
section
variable {K : Int} {b : Bk} {s : FldS} {r : RowS} {c : Nat}
theorem sm59 {l : List Nat} (h : ∀ c ∈ l, sm c = true) : 59 ∉ l := fun z => absurd (h 59 z) (by decide)
theorem num59 (n : Nat) : 59 ∉ TL.numL n := fun z => absurd (List.all_eq_true.mp (numL_dg n) 59 z) (by decide)
theorem ws59 (I : FldInv K b s) : ∀ w ∈ wsOf s, 59 ∉ w := by
  intro w hw
  unfold wsOf at hw
  rcases List.mem_append.mp hw with hw | hw
  · obtain ⟨z, hz, rfl⟩ := List.mem_map.mp hw
    obtain ⟨g1, g2⟩ := I.good z hz
    unfold fldR
    have h1 := sm59 g1.2.2.1
    have h2 : 59 ∉ z.2 := fun y => (g2.2.2.1 59 y).2.2 rfl
    simp [h1, h2]
  · rcases I.rr with ⟨h1, h2, h3⟩ | ⟨h1, h2, z, h3, z1, z2, z3, z4⟩
    · rw [h3] at hw; cases hw
    · rw [h3] at hw
      rw [List.mem_singleton.mp hw]
      unfold endR
      have h1 := sm59 (en_small _ (I.es _ z1))
      have h2 := num59 z.2.toNat
      by_cases hz : z.1 = lengthN
      · rw [if_pos hz]; simp [h1, h2]
      · rw [if_neg hz]; simp [h1]
theorem fil59 (I : RowInv b r) : 59 ∉ r.fil.txt := by
  have i5 := I.fil
  cases e : r.fil with
  | no => exact fun h => nomatch h
  | val t => rw [e] at i5; exact fun y => (i5.2.2.2.1.2.1 59 y).2.2 rfl
  | num f n =>
    rw [e] at i5
    rcases i5.2.2.2.2.1 with ⟨rfl, _⟩ | ⟨_, _, rfl⟩
    · exact fun h => nomatch h
    · exact num59 _
  | yes m => exact fun y => absurd (List.mem_of_mem_take y) (by decide)
theorem row59 (I : RowInv b r) : 59 ∉ r.lab ++ (([58, 32] : List Nat).take r.gap ++ r.fil.txt) := by
  intro z
  rcases List.mem_append.mp z with z | z
  · exact sm59 I.lab z
  · rcases List.mem_append.mp z with z | z
    · exact absurd (List.mem_of_mem_take z) (by decide)
    · exact fil59 I z
theorem zero_inv (I : RowInv b r) (h : r.tail = 1) : RowInv b { r with tail := 0 } ∧ (r.fil ≠ .no → r.fil.good = true) ∧ (r.fil = .no → r.lab = [] ∧ r.gap = 0) := by
  have i5 := I.fil
  refine ⟨⟨I.es, I.el, I.lab, Nat.zero_le _, ?_⟩, ?_, ?_⟩
  · show filOk b { r with tail := 0 } r.fil
    cases e : r.fil with
    | no => rw [e] at i5; exact ⟨i5.1, i5.2.1, i5.2.2.1, fun h => absurd h (Nat.lt_irrefl _)⟩
    | val t => rw [e] at i5; exact ⟨i5.1, i5.2.1, i5.2.2.1, i5.2.2.2.1, fun h => absurd h (Nat.lt_irrefl _)⟩
    | num f n => rw [e] at i5; exact ⟨i5.1, i5.2.1, i5.2.2.1, i5.2.2.2.1, i5.2.2.2.2.1, fun h => absurd h (Nat.lt_irrefl _)⟩
    | yes m => rw [e] at i5; exact ⟨i5.1, i5.2.1, i5.2.2.1, i5.2.2.2.1, i5.2.2.2.2.1, fun h => absurd h (Nat.lt_irrefl _)⟩
  · intro hf
    cases e : r.fil with
    | no => exact absurd e hf
    | val t => rw [e] at i5; exact i5.2.2.2.2 (by omega)
    | num f n => rw [e] at i5; exact decide_eq_true (i5.2.2.2.2.2 (by omega))
    | yes m => rw [e] at i5; exact decide_eq_true (i5.2.2.2.2.2 (by omega))
  · intro e
    rw [e] at i5
    exact i5.2.2.2 (by omega)
theorem fin_rt {text : List Nat} {room : Int} {ends : List (List Nat)} {rows : List (List Nat)} {v : Bool} {ρ' : List D} {m : Nat} (sp : TL.spl [59] 0 [] text = rows) (tl : text.length ≤ 1001) (hl1 : rows.length ≤ 1000) (hl2 : 1 ≤ rows.length) (hm : rows.length = m + 1)
    (lp : forL (tgN 5) lb1__law_hopeful [.str text, .tup b.l, .int room, .tup (ends.map D.str), .lst (rows.map D.str), .un, .un] [] ((List.range m).map fun (i : Nat) => D.int (i : Int)) = some (.rt (.bl v) ρ' [])) :
    r__law_hopeful [.str text, .tup b.l, .int room, .tup (ends.map D.str)] = some (.bl v) := by
  have rlm : ((rows.length : Int) - 1).toNat = m := by omega
  clear hm
  unfold r__law_hopeful f__law_hopeful
  walk_at "kd"
theorem fin_nx {text : List Nat} {room room2 : Int} {ends ends2 : List (List Nat)} {rows : List (List Nat)} {m : Nat} {last : List Nat} (sp : TL.spl [59] 0 [] text = rows) (tl : text.length ≤ 1001) (hl1 : rows.length ≤ 1000) (hl2 : 2 ≤ rows.length) (hm : rows.length = m + 1)
    (lp : forL (tgN 5) lb1__law_hopeful [.str text, .tup b.l, .int room, .tup (ends.map D.str), .lst (rows.map D.str), .un, .un] [] ((List.range m).map fun (i : Nat) => D.int (i : Int)) = some (.nx [.str text, .tup b.l, .int room2, .tup (ends2.map D.str), .lst (rows.map D.str), .un, .un] []))
    (hla : rows.getLast? = some last) (hll : last.length ≤ 10000) (v : Bool) (op : ∀ a u, last = a :: u → r__law_open_row [.str u, .tup b.l, .int room2, .tup (ends2.map D.str)] = some (.bl v)) :
    r__law_hopeful [.str text, .tup b.l, .int room, .tup (ends.map D.str)] = some (.bl (decide (last = []) || (decide (last.headD 0 = 10) && v))) := by
  have rlm : ((rows.length : Int) - 1).toNat = m := by omega
  have glm : (rows.map D.str).getLast? = some (.str last) := by rw [List.getLast?_map, hla]; rfl
  have rli : ¬ (rows.length : Int) = 1 := by omega
  clear hm hla
  unfold r__law_hopeful f__law_hopeful
  cases last with
  | nil =>
    clear op
    walk_at "kd"
  | cons a u =>
    have op := op a u rfl
    rw [List.length_cons] at hll
    walk_at "kd"
    rfl
theorem forL_rt {g : D → List D → Option (List D)} {b : FS} {ρ μ ρ1 ρ2 μ2 : List D} {d x : D} {ds : List D} (h1 : g d ρ = some ρ1) (h2 : b ρ1 μ = some (.rt x ρ2 μ2)) : forL g b ρ μ (d :: ds) = some (.rt x ρ2 μ2) := by
  rw [forL_cons, h1, Option.bind_some, h2]
  rfl
theorem fed59 (I : RowInv b r) (ht : r.tail = 0) (hn : r.txt ≠ []) : (r.fed b 59).isSome = r.fil.good := by
  have i5 := I.fil
  cases e : r.fil with
  | no =>
    rw [e] at i5
    obtain ⟨j1, j2, j3, j4⟩ := i5
    rcases (show r.gap = 0 ∨ r.gap = 1 by omega) with g | g
    · have tx : r.txt = r.lab := by unfold RowS.txt; rw [g, e, ht]; simp [Fil.txt]
      rw [tx] at hn
      unfold RowS.fed
      rw [ht, e, g]
      simp [hn, sm, Fil.good]
    · unfold RowS.fed
      rw [ht, e, g]
      simp [Fil.good]
  | val t =>
    unfold RowS.fed
    rw [ht, e]
    cases hg : (Fil.val t).good
    · have v : vOk b.v t 59 = false := by unfold vOk; simp
      simp [Fil.fed, v]
    · simp
  | num f n =>
    unfold RowS.fed
    rw [ht, e]
    cases hg : (Fil.num f n).good
    · have v : numF 10 b.b f n 59 = none := by unfold numF; rw [if_neg (fun z => absurd z.1 (by decide))]
      simp [Fil.fed, v]
    · simp
  | yes m =>
    unfold RowS.fed
    rw [ht, e]
    cases hg : (Fil.yes m).good
    · have v : yesN[m]? ≠ some 59 := by
        intro z
        exact absurd (List.mem_of_getElem? z) (by decide)
      simp [Fil.fed, v]
    · simp
theorem hopeful_eq (B : BkOk b) (I : FldInv K b s) (hK : K ≤ 100) (hr : s.ready = false) (hc : pln c = true) (hlen : s.txt.length ≤ 1000) :
    r__law_hopeful [.str (s.txt ++ [c]), .tup b.l, .int K, .tup (s.ends.map D.str)] = some (.bl (s.fed b c).isSome) := by
  have hfed : (s.fed b c).isSome = (s.row.fed b c).isSome := by unfold FldS.fed; rw [hr]; simp
  have r0 : 0 ≤ s.row.room := by
    rcases I.rr with ⟨h1, _⟩ | ⟨h1, _⟩
    · rw [h1]; exact I.r0
    · rw [h1]; exact Int.le_refl 0
  have wl : (wsOf s).length ≤ 200 := by
    have h1 := I.rk
    have h2 := I.r0
    unfold wsOf
    rw [List.length_append, List.length_map]
    cases s.closing with
    | none => simp [clR]; omega
    | some z => simp [clR]; omega
  have tx := txt_ws s
  have sp := spl_ws (wsOf s) 0 (s.row.txt ++ [c]) (ws59 I)
  rw [Nat.zero_add, show qn 0 = [] from rfl, List.nil_append, ← List.append_assoc, ← tx] at sp
  have J := I.row
  rw [hfed]
  generalize htext : s.txt ++ [c] = text at *
  have tlen : text.length ≤ 1001 := by rw [← htext, List.length_append, List.length_singleton]; omega
  generalize hm : (wsOf s).length = m at *
  have lpW' := fun (rest : List (List Nat)) (ys : List D) (hl : (preK 0 (wsOf s) ++ rest).length ≤ 100000) => lpW ys (text := text) (rows := preK 0 (wsOf s) ++ rest) (rest := rest) B I rfl hl
  have pl0 : (preK 0 (wsOf s)).length = m := by rw [preK_len, hm]
  have get0 : ∀ (rest : List (List Nat)) (x : List Nat), rest.head? = some x → (preK 0 (wsOf s) ++ rest)[m]? = some x := by
    intro rest x hx
    rw [List.getElem?_append_right (by omega), pl0, Nat.sub_self, ← List.head?_eq_getElem?]
    exact hx
  rw [hm] at lpW'
  rcases (show s.row.tail = 0 ∨ s.row.tail = 1 by have := I.nr hr; omega) with ht | ht
  · have rt : s.row.txt = s.row.lab ++ (([58, 32] : List Nat).take s.row.gap ++ s.row.fil.txt) := by unfold RowS.txt; rw [ht]; simp
    have n59 : 59 ∉ s.row.txt := by rw [rt]; exact row59 J
    by_cases h59 : c = 59
    · subst h59
      have u59 : 59 ∉ qn m ++ s.row.txt := by
        intro z
        rcases List.mem_append.mp z with z | z
        · unfold qn at z
          split at z
          · cases z
          · exact absurd (List.mem_singleton.mp z) (by decide)
        · exact n59 z
      have s1 := TL.spl_part1 (S := []) (acc := []) (rest := []) u59
      rw [List.nil_append, TL.spl_nil] at s1
      rw [← List.append_assoc] at sp
      rw [show (qn m ++ s.row.txt) ++ [59] = (qn m ++ s.row.txt) ++ ([59] ++ []) from rfl] at sp
      rw [s1] at sp
      have rl : (preK 0 (wsOf s) ++ [qn m ++ s.row.txt, []]).length = (m + 1) + 1 := by rw [List.length_append, pl0]; rfl
      have lp := lpW' [qn m ++ s.row.txt, []] [.int (m : Nat)] (by rw [rl]; omega)
      have gm := get0 [qn m ++ s.row.txt, []] _ rfl
      have gl : (preK 0 (wsOf s) ++ [qn m ++ s.row.txt, []]).getLast? = some [] := by simp
      have er : (List.range (m + 1)).map (fun (i : Nat) => D.int (i : Int)) = ((List.range m).map fun (i : Nat) => D.int (i : Int)) ++ [.int (m : Nat)] := by rw [List.range_succ, List.map_append]; rfl
      rw [← er] at lp
      generalize preK 0 (wsOf s) ++ [qn m ++ s.row.txt, []] = rows at *
      have rlen : s.row.txt.length ≤ 1001 := by
        have := congrArg List.length tx
        rw [List.length_append] at this
        omega
      by_cases hn : s.row.txt = []
      · rw [hn, List.append_nil] at gm
        obtain ⟨ρ', be⟩ := body_e (b := b) (text := text) (room := s.row.room) (ends := s.row.ends) gm (by omega) gl (Nat.zero_le _)
        have lp2 := lp.trans (forL_rt (ρ1 := [.str text, .tup b.l, .int s.row.room, .tup (s.row.ends.map D.str), .lst (rows.map D.str), .int (m : Nat), .un]) rfl be)
        have := fin_rt sp tlen (by omega) (by omega) rl lp2
        rw [this]
        have f : (s.row.fed b 59).isSome = true := by
          rw [rt] at hn
          have l0 := (List.append_eq_nil_iff.mp hn).1
          have g0 : s.row.gap = 0 := by
            have := (List.append_eq_nil_iff.mp (List.append_eq_nil_iff.mp hn).2).1
            rcases List.take_eq_nil_iff.mp this with z | z
            · exact z
            · cases z
          have f0 : s.row.fil = .no := by
            have i5 := J.fil
            cases e : s.row.fil with
            | no => rfl
            | val t => rw [e] at i5; have := i5.1; omega
            | num f n => rw [e] at i5; have := i5.1; omega
            | yes m => rw [e] at i5; have := i5.1; omega
          unfold RowS.fed
          rw [ht, f0, g0, l0]
          simp
        rw [f]
        simp
        omega
      · rw [fed59 J ht hn]
        cases hg : s.row.fil.good with
        | false =>
          have hw := whole_row_r B J r0 ht hn
          rw [fed59 J ht hn, hg] at hw
          obtain ⟨ρ', be⟩ := body_f (b := b) (text := text) (room := s.row.room) (ends := s.row.ends) gm (by omega) hn (by omega) hw
          have lp2 := lp.trans (forL_rt (ρ1 := [.str text, .tup b.l, .int s.row.room, .tup (s.row.ends.map D.str), .lst (rows.map D.str), .int (m : Nat), .un]) rfl be)
          exact fin_rt sp tlen (by omega) (by omega) rl lp2
        | true =>
          have be := body_r (text := text) (rows := rows) (k := m) B J r0 ht hg gm (by omega)
          have lp2 := lp.trans ((forL_turn (ρ1 := [.str text, .tup b.l, .int s.row.room, .tup (s.row.ends.map D.str), .lst (rows.map D.str), .int (m : Nat), .un]) rfl be).trans rfl)
          exact fin_nx sp tlen (by omega) (by omega) rl lp2 gl (Nat.zero_le _) true (fun a u h => nomatch h)
    · have u59 : 59 ∉ qn m ++ (s.row.txt ++ [c]) := by
        intro z
        rcases List.mem_append.mp z with z | z
        · unfold qn at z
          split at z
          · cases z
          · exact absurd (List.mem_singleton.mp z) (by decide)
        · rcases List.mem_append.mp z with z | z
          · exact n59 z
          · exact h59 (List.mem_singleton.mp z).symm
      rw [TL.spl_last1 u59, List.nil_append] at sp
      have lp := lpW' [qn m ++ (s.row.txt ++ [c])] [] (by rw [List.length_append, pl0]; simp; omega)
      have gl : (preK 0 (wsOf s) ++ [qn m ++ (s.row.txt ++ [c])]).getLast? = some (qn m ++ (s.row.txt ++ [c])) := by simp
      have rl : (preK 0 (wsOf s) ++ [qn m ++ (s.row.txt ++ [c])]).length = m + 1 := by rw [List.length_append, pl0]; rfl
      have op := open_row_r B J r0 ht hc h59
      have rx : s.row.txt ++ [c] = text ∨ 0 < m := by
        rcases Nat.eq_zero_or_pos m with z | z
        · left
          have : wsOf s = [] := List.length_eq_zero_iff.mp (hm.trans z)
          rw [← htext, tx, this]
          rfl
        · exact .inr z
      generalize (s.row.fed b c).isSome = v at *
      generalize preK 0 (wsOf s) ++ [qn m ++ (s.row.txt ++ [c])] = rows at *
      rw [List.append_nil, forL_nil] at lp
      have ulen : (s.row.txt ++ [c]).length ≤ 1001 := by
        rw [← htext, tx] at tlen
        simp only [List.length_append] at tlen ⊢
        omega
      have glm : (rows.map D.str).getLast? = some (.str (qn m ++ (s.row.txt ++ [c]))) := by rw [List.getLast?_map, gl]; rfl
      generalize s.row.txt ++ [c] = u at *
      clear get0 lpW' pl0 hm I J B r0 hK hr hlen hfed tx htext u59 n59 rt gl
      unfold r__law_hopeful f__law_hopeful
      have rlm : ((rows.length : Int) - 1).toNat = m := by omega
      by_cases hm0 : m = 0
      · subst hm0
        have ru : u = text := by
          rcases rx with z | z
          · exact z
          · omega
        subst ru
        have rli : (rows.length : Int) = 1 := by omega
        clear rx glm rl
        walk_at "k"
      · have q0 : qn m = [10] := if_neg hm0
        rw [q0, List.singleton_append] at glm
        have rli : ¬ (rows.length : Int) = 1 := by omega
        have hl1 : rows.length ≤ 1000 := by omega
        have hl2 : 1 ≤ rows.length := by omega
        clear rx rl
        walk_at "kd"
        rfl
  · obtain ⟨J0, jg, jn⟩ := zero_inv J ht
    generalize hX : s.row.lab ++ (([58, 32] : List Nat).take s.row.gap ++ s.row.fil.txt) = X at *
    have rt : s.row.txt = X ++ [59] := by rw [← hX]; unfold RowS.txt; rw [ht]; simp
    have rt0 : RowS.txt { s.row with tail := 0 } = X := by rw [← hX]; unfold RowS.txt; simp
    have X59 : 59 ∉ X := by rw [← hX]; exact row59 J
    have hfc : (s.row.fed b c).isSome = decide (c = 10) := by
      unfold RowS.fed endF
      rw [ht]
      by_cases z : c = 10
      · subst z; simp
      · have z2 : ¬ 10 = c := fun y => z y.symm
        simp [z, z2]
    rw [hfc]
    have u59 : 59 ∉ qn m ++ X := by
      intro z
      rcases List.mem_append.mp z with z | z
      · unfold qn at z
        split at z
        · cases z
        · exact absurd (List.mem_singleton.mp z) (by decide)
      · exact X59 z
    have s1 := TL.spl_part1 (S := []) (acc := []) (rest := [c]) u59
    rw [List.nil_append] at s1
    rw [rt, show qn m ++ (X ++ [59] ++ [c]) = (qn m ++ X) ++ ([59] ++ [c]) by simp, s1] at sp
    have xlen : X.length ≤ 1001 := by
      have := congrArg List.length tx
      rw [List.length_append, rt, List.length_append] at this
      omega
    have er : ∀ n, (List.range (n + 1)).map (fun (i : Nat) => D.int (i : Int)) = ((List.range n).map fun (i : Nat) => D.int (i : Int)) ++ [.int (n : Nat)] := fun n => by rw [List.range_succ, List.map_append]; rfl
    have J0r : (0 : Int) ≤ ({ s.row with tail := 0 } : RowS).room := r0
    by_cases h59 : c = 59
    · subst h59
      have s2 : TL.spl [59] 0 [] [59] = [[], []] := by rfl
      rw [s2] at sp
      have rl : (preK 0 (wsOf s) ++ [qn m ++ X, [], []]).length = (m + 1 + 1) + 1 := by rw [List.length_append, pl0]; rfl
      have lp := lpW' [qn m ++ X, [], []] [.int (m : Nat), .int ((m + 1 : Nat) : Int)] (by rw [rl]; omega)
      have gm := get0 [qn m ++ X, [], []] _ rfl
      have gm1 : (preK 0 (wsOf s) ++ [qn m ++ X, [], []])[m + 1]? = some [] := by
        rw [List.getElem?_append_right (by omega), pl0, show m + 1 - m = 1 by omega]
        rfl
      have gl : (preK 0 (wsOf s) ++ [qn m ++ X, [], []]).getLast? = some [] := by simp
      have er2 : (List.range (m + 1 + 1)).map (fun (i : Nat) => D.int (i : Int)) = ((List.range m).map fun (i : Nat) => D.int (i : Int)) ++ [.int (m : Nat), .int ((m + 1 : Nat) : Int)] := by rw [er (m + 1), er m, List.append_assoc]; rfl
      rw [← er2] at lp
      generalize preK 0 (wsOf s) ++ [qn m ++ X, [], []] = rows at *
      by_cases hf : s.row.fil = .no
      · obtain ⟨l0, g0⟩ := jn hf
        have X0 : X = [] := by rw [← hX, l0, g0, hf]; rfl
        rw [X0, List.append_nil] at gm
        obtain ⟨ρ', be⟩ := body_e (b := b) (text := text) (room := s.row.room) (ends := s.row.ends) gm (by omega) gl (Nat.zero_le _)
        have lp2 := lp.trans (forL_rt (ρ1 := [.str text, .tup b.l, .int s.row.room, .tup (s.row.ends.map D.str), .lst (rows.map D.str), .int (m : Nat), .un]) rfl be)
        rw [fin_rt sp tlen (by omega) (by omega) rl lp2]
        have : ¬ ((m : Int) = (rows.length : Int) - 2) := by omega
        simp [this]
      · have be := body_r (text := text) (rows := rows) (k := m) B J0 J0r rfl (jg hf) (by rw [rt0]; exact gm) (by omega)
        obtain ⟨ρ', bn⟩ := body_n (b := b) (text := text) (room := (upd2 s.row.ends s.row.room s.row.lab).1) (ends := (upd2 s.row.ends s.row.room s.row.lab).2) gm1 (by omega) (by omega)
        have lp2 := lp.trans ((forL_turn (ρ1 := [.str text, .tup b.l, .int s.row.room, .tup (s.row.ends.map D.str), .lst (rows.map D.str), .int (m : Nat), .un]) rfl be).trans
          (forL_rt (ρ1 := [.str text, .tup b.l, .int (upd2 s.row.ends s.row.room s.row.lab).1, .tup ((upd2 s.row.ends s.row.room s.row.lab).2.map D.str), .lst (rows.map D.str), .int ((m + 1 : Nat) : Int), .un]) rfl bn))
        rw [fin_rt sp tlen (by omega) (by omega) rl lp2]
        rfl
    · have s2 : TL.spl [59] 0 [] [c] = [[c]] := by
        have := TL.spl_last1 (S := []) (acc := []) (p := [c]) (s := 59) (by simp; exact fun z => h59 z.symm)
        exact this
      rw [s2] at sp
      have rl : (preK 0 (wsOf s) ++ [qn m ++ X, [c]]).length = (m + 1) + 1 := by rw [List.length_append, pl0]; rfl
      have lp := lpW' [qn m ++ X, [c]] [.int (m : Nat)] (by rw [rl]; omega)
      have gm := get0 [qn m ++ X, [c]] _ rfl
      have gl : (preK 0 (wsOf s) ++ [qn m ++ X, [c]]).getLast? = some [c] := by simp
      rw [← er m] at lp
      generalize preK 0 (wsOf s) ++ [qn m ++ X, [c]] = rows at *
      by_cases hf : s.row.fil = .no
      · obtain ⟨l0, g0⟩ := jn hf
        have X0 : X = [] := by rw [← hX, l0, g0, hf]; rfl
        rw [X0, List.append_nil] at gm
        obtain ⟨ρ', be⟩ := body_e (b := b) (text := text) (room := s.row.room) (ends := s.row.ends) gm (by omega) gl (by simp)
        have lp2 := lp.trans (forL_rt (ρ1 := [.str text, .tup b.l, .int s.row.room, .tup (s.row.ends.map D.str), .lst (rows.map D.str), .int (m : Nat), .un]) rfl be)
        rw [fin_rt sp tlen (by omega) (by omega) rl lp2]
        have : ((m : Int) = (rows.length : Int) - 2) := by omega
        simp [this]
      · have be := body_r (text := text) (rows := rows) (k := m) B J0 J0r rfl (jg hf) (by rw [rt0]; exact gm) (by omega)
        have lp2 := lp.trans ((forL_turn (ρ1 := [.str text, .tup b.l, .int s.row.room, .tup (s.row.ends.map D.str), .lst (rows.map D.str), .int (m : Nat), .un]) rfl be).trans rfl)
        have ug : 0 ≤ (upd2 s.row.ends s.row.room s.row.lab).1 ∧ (∀ e ∈ (upd2 s.row.ends s.row.room s.row.lab).2, e ∈ EN) ∧ (upd2 s.row.ends s.row.room s.row.lab).2.length ≤ 4 := by
          unfold upd2
          by_cases z : s.row.lab ∈ s.row.ends
          · rw [if_pos z]
            exact ⟨Int.le_refl 0, (fun _ h => nomatch h), Nat.zero_le _⟩
          · rw [if_neg z]
            have gdt : s.row.gd b = true := by
              have i5 := J.fil
              cases e : s.row.fil with
              | no => exact absurd e hf
              | val t => rw [e] at i5; exact i5.2.1
              | num f n => rw [e] at i5; exact i5.2.1
              | yes m => rw [e] at i5; exact i5.2.1
            have := (gd_in gdt z).1
            exact ⟨by show 0 ≤ s.row.room - 1; omega, J.es, J.el⟩
        have op := open_row_no (b := b) (room := (upd2 s.row.ends s.row.room s.row.lab).1) (ends := (upd2 s.row.ends s.row.room s.row.lab).2) (t := []) (fun h => nomatch h) ug.1 ug.2.1 ug.2.2 (Nat.zero_le _) (fun _ h => nomatch h)
        rw [fin_nx sp tlen (by omega) (by omega) rl lp2 gl (by simp) true (fun a u h => by cases h; rw [op]; simp)]
        simp
end
local macro_rules | `(tactic| walk_at "kd") => `(tactic| simp (disch := walk_at "d") only [drop1c, kset, kset2, kset5, kset6, kset10, klaw, Option.bind_some, Option.map_some, Option.bind_none, Option.map_none, List.getElem?_cons_zero, List.getElem?_cons_succ, List.set_cons_zero, List.set_cons_succ, List.cons_append, List.nil_append, List.append_nil, List.length_cons, List.length_nil, List.length_map, List.replicate_zero, List.replicate_succ, Bool.and_true, Bool.true_and, Bool.not_true, Bool.not_false, Bool.false_eq_true, Bool.not_eq_true', decide_eq_true_eq, decide_eq_false_iff_not, Bool.and_eq_true, Bool.or_eq_true, Nat.reduceAdd, Nat.reduceSub, Nat.reduceLeDiff, Nat.reduceLT, Nat.reduceEqDiff, List.take_succ_cons, Bool.or_false, Bool.or_true, Bool.false_or, Bool.true_or, Bool.and_false, Bool.false_and, List.take_zero, List.take_nil, Int.reduceLT, Int.reduceLE, Int.reduceNeg, Int.reduceAdd, Int.reduceSub, Int.reduceMul, Int.reduceEq, Int.reduceToNat, Int.reducePow, and_true, true_and, and_false, false_and, or_true, true_or, or_false, false_or, not_true_eq_false, not_false_eq_true, eq_self, if_true, if_false, ite_self, decide_true, decide_false, ite_not, List.map_cons, List.map_nil, List.cons.injEq, reduceCtorEq, List.isEmpty_cons, Int.natCast_one, Int.cast_ofNat_Int, Int.natCast_zero, Int.toNat_natCast, *])
local macro_rules | `(tactic| walk_at "kf") => `(tactic| simp (disch := walk_at "d") only [fldset, kset, kset2, kset5, kset6, kset10, klaw, Option.bind_some, Option.map_some, Option.bind_none, Option.map_none, List.getElem?_cons_zero, List.getElem?_cons_succ, List.set_cons_zero, List.set_cons_succ, List.cons_append, List.nil_append, List.append_nil, List.length_cons, List.length_nil, List.length_map, List.replicate_zero, List.replicate_succ, Bool.and_true, Bool.true_and, Bool.not_true, Bool.not_false, Bool.false_eq_true, Bool.not_eq_true', decide_eq_true_eq, decide_eq_false_iff_not, Bool.and_eq_true, Bool.or_eq_true, Nat.reduceAdd, Nat.reduceSub, Nat.reduceLeDiff, Nat.reduceLT, Nat.reduceEqDiff, List.take_succ_cons, Bool.or_false, Bool.or_true, Bool.false_or, Bool.true_or, Bool.and_false, Bool.false_and, List.take_zero, List.take_nil, Int.reduceLT, Int.reduceLE, Int.reduceNeg, Int.reduceAdd, Int.reduceSub, Int.reduceMul, Int.reduceEq, Int.reduceToNat, Int.reducePow, and_true, true_and, and_false, false_and, or_true, true_or, or_false, false_or, not_true_eq_false, not_false_eq_true, eq_self, if_true, if_false, ite_self, decide_true, decide_false, ite_not, List.map_cons, List.map_nil, List.cons.injEq, reduceCtorEq, List.isEmpty_cons, Int.natCast_one, Int.cast_ofNat_Int, Int.natCast_zero, Int.toNat_natCast, *])
theorem getD_ok {P : List Nat → Prop} {L : List (List Nat)} (h : ∀ t ∈ L, P t) (h0 : P []) (i : Nat) : P (L.getD i []) := by
  rw [List.getD_eq_getElem?_getD]
  cases e : L[i]? with
  | none => exact h0
  | some t => exact h t (List.mem_of_getElem? e)
abbrev okT (t : List Nat) : Prop := t.length ≤ 20 ∧ t.all pln = true
theorem sign_loop {x0 x1 : D} {text plan : List Nat} (hl : plan.length ≤ 1000) (htl : text.length ≤ 1000) : ∀ (rest : List Nat) (k : Nat), plan.drop k = rest →
    forL (tgN 3) lb1__law_sign [x0, .str text, .str plan, .un] [] ((List.range' k rest.length).map fun (i : Nat) => D.int (i : Int)) = some (.nx [x0, .str text, .str plan, .un] []) ∨
    ∃ c ∈ plan, ∃ ρ', forL (tgN 3) lb1__law_sign [x0, .str text, .str plan, .un] [] ((List.range' k rest.length).map fun (i : Nat) => D.int (i : Int)) = some (.rt (.str [c]) ρ' [])
  | [], k, _ => .inl rfl
  | c :: rest, k, hd => by
    have hk : k < plan.length := by
      rcases Nat.lt_or_ge k plan.length with z | z
      · exact z
      · rw [List.drop_eq_nil_of_le z] at hd; cases hd
    have hc : plan[k]? = some c := by
      have : (plan.drop k)[0]? = some c := by rw [hd]; rfl
      rwa [List.getElem?_drop, Nat.add_zero] at this
    have hd2 : plan.drop (k + 1) = rest := by rw [← List.drop_drop, hd]; rfl
    have e3 : dIx (.str plan) (.int (k : Nat)) = some (.str [c]) := by
      rw [dIx_str, if_pos (lk (by omega)), ixAt_nat, hc]
      rfl
    have hm : c ∈ plan := List.mem_of_getElem? hc
    have ih := sign_loop (x0 := x0) (x1 := x1) hl htl rest (k + 1) hd2
    rw [List.length_cons, List.range'_succ, List.map_cons]
    by_cases z : text = plan.take k
    · refine .inr ⟨c, hm, [x0, .str text, .str plan, .int (k : Nat)], ?_⟩
      have bd : lb1__law_sign [x0, .str text, .str plan, .int (k : Nat)] [] = some (.rt (.str [c]) [x0, .str text, .str plan, .int (k : Nat)] []) := by
        clear ih hd hd2 hc hk
        unfold lb1__law_sign
        walk_at "k"
      exact forL_rt (ρ1 := [x0, .str text, .str plan, .int (k : Nat)]) rfl bd
    · have bd : lb1__law_sign [x0, .str text, .str plan, .int (k : Nat)] [] = some (.nx [x0, .str text, .str plan, .un] []) := by
        clear ih hd hd2 hc hk
        unfold lb1__law_sign
        walk_at "k"
      rw [forL_turn (ρ1 := [x0, .str text, .str plan, .int (k : Nat)]) rfl bd]
      exact ih
theorem sign_eq (x0 x1 : Int) {text plan : List Nat} (hl : plan.length ≤ 1000) (htl : text.length ≤ 1000) (hp : ∀ c ∈ plan, pln c = true) : ∃ c, r__law_sign [.lst [.int x0, .int x1], .str text, .str plan] = some (.str [c]) ∧ pln c = true := by
  by_cases z : x0 % 4 = 0
  · have q : ∀ i < 14, pln (([[59], [10], [58], [32], [97], [108], [114], [112], [48], [52], [121], [65], [122], [116]] : List (List Nat)).getD i []).head! = true ∧ (([[59], [10], [58], [32], [97], [108], [114], [112], [48], [52], [121], [65], [122], [116]] : List (List Nat)).getD i []) = [(([[59], [10], [58], [32], [97], [108], [114], [112], [48], [52], [121], [65], [122], [116]] : List (List Nat)).getD i []).head!] := by decide
    obtain ⟨q1, q2⟩ := q (x1 % 14).toNat (by omega)
    generalize (([[59], [10], [58], [32], [97], [108], [114], [112], [48], [52], [121], [65], [122], [116]] : List (List Nat)).getD (x1 % 14).toNat []).head! = c at q1 q2
    refine ⟨c, ?_, q1⟩
    clear q q1 hp
    unfold r__law_sign f__law_sign
    walk_at "k"
  · have lp := sign_loop (x0 := .lst [.int x0, .int x1]) (x1 := .non) hl htl plan 0 rfl
    rw [← List.range_eq_range'] at lp
    rcases lp with lp | ⟨c, hc, ρ', lp⟩
    · have q : ∀ i < 6, pln ((([[97], [59], [10], [58, 32], [98], [59, 32]] : List (List Nat)).getD i []).headD 0) = true := by decide
      have q1 := q (x1 % 6).toNat (by omega)
      have q2 : ∀ i < 6, (([[97], [59], [10], [58, 32], [98], [59, 32]] : List (List Nat)).getD i []).length ≤ 2 ∧ (([[97], [59], [10], [58, 32], [98], [59, 32]] : List (List Nat)).getD i []) ≠ [] := by decide
      obtain ⟨q3, q4⟩ := q2 (x1 % 6).toNat (by omega)
      refine ⟨_, ?_, q1⟩
      clear q q2 q1 hp
      unfold r__law_sign f__law_sign
      walk_at "k"
    · refine ⟨c, ?_, hp c hc⟩
      clear hp
      unfold r__law_sign f__law_sign
      walk_at "k"
theorem plan_eq (c : Int) : ∃ p, r__law_plan [.int c] = some (.str p) ∧ p.length ≤ 1000 ∧ ∀ x ∈ p, pln x = true := by
  have e := stream_eq c 5 (by decide) (by decide)
  have l1 := strm_len c (5 : Int).toNat
  generalize strm c (5 : Int).toNat = xs at *
  match xs, l1 with
  | [x0, x1, x2, x3, x4], _ =>
    simp only [List.map_cons, List.map_nil] at e
    have a1 := getD_ok (P := okT) (L := [[97], [108, 101, 110, 103, 116], [97, 98, 99, 100, 101, 102, 103, 104], [112, 97, 114, 116, 115, 97], [116, 111], [114, 101, 115, 116, 115]]) (by decide) (by decide)
    have a2 := getD_ok (P := okT) (L := [[118], [116, 119, 111, 32, 119], [120, 32, 120], [49, 50, 51, 52, 53, 54, 55, 56]]) (by decide) (by decide) (x1 % 4).toNat
    have a3 := getD_ok (P := okT) (L := [[108, 101, 110, 103, 116, 104, 58, 32, 48], [112, 105, 101, 99, 101, 115, 58, 32, 121, 101, 115], [112, 97, 114, 116, 115, 58, 32, 121, 101, 115], [114, 101, 115, 116, 58, 32, 121, 101, 115], [108, 101, 110, 103, 116, 104, 58, 32, 49, 50], [108, 101, 110, 103, 116, 104, 58, 32, 52, 48, 48], [108, 101, 110, 103, 116, 104, 58, 32, 49, 51]]) (by decide) (by decide) (x3 % 7).toNat
    obtain ⟨l2, p2⟩ := a2
    obtain ⟨l3, p3⟩ := a3
    obtain ⟨l4, p4⟩ := a1 (x0 % 6).toNat
    obtain ⟨l5, p5⟩ := a1 (x2 / 3 % 6).toNat
    clear a1
    suffices h : ∃ p, r__law_plan [.int c] = some (.str p) ∧ p.length ≤ 1000 ∧ p.all pln = true by
      obtain ⟨p, h1, h2, h3⟩ := h
      exact ⟨p, h1, h2, fun x hx => List.all_eq_true.mp h3 x hx⟩
    rcases (show x2 % 3 = 0 ∨ x2 % 3 = 1 ∨ x2 % 3 = 2 by omega) with z | z | z
    · apply Exists.intro
      refine ⟨?e0, ?l0, ?a0⟩
      case e0 =>
        unfold r__law_plan f__law_plan
        walk_at "k"
        rfl
      · simp only [List.length_append, List.length_cons, List.length_nil]; omega
      · simp only [List.all_append, p2, p3, p4, p5]; decide
    · apply Exists.intro
      refine ⟨?e1, ?l1, ?a1⟩
      case e1 =>
        unfold r__law_plan f__law_plan
        walk_at "k"
        rfl
      · simp only [List.length_append, List.length_cons, List.length_nil]; omega
      · simp only [List.all_append, p2, p3, p4, p5]; decide
    · apply Exists.intro
      refine ⟨?e2, ?l2, ?a2⟩
      case e2 =>
        unfold r__law_plan f__law_plan
        walk_at "k"
        rfl
      · simp only [List.length_append, List.length_cons, List.length_nil]; omega
      · simp only [List.all_append, p2, p3, p4, p5]; decide
theorem told_eq {K : Int} {b : Bk} {s : FldS} {μ : List D} (B : BkOk b) (I : FldInv K b s) : r__law_told [.fo "Fields" sh_Fields (fzL (s.l b))] μ = some (.tup [.bl s.ready, .tup (s.kept.map pairD), closD s.closing, .int s.room, .str (s.aw b)]) := by
  have e1 := @fields_whole_eq b s
  have e2 := @fields_told_eq b s
  have e3 := @fields_told_end_eq b s
  have e4 := @fields_room_left_eq b s
  have e5 := fun μ => @fields_aw_inv K b s μ B I
  have e6 : resF (closD s.closing) = some (closD s.closing) := by cases s.closing <;> rfl
  clear I B
  unfold r__law_told f__law_told
  walk_at "kf"
theorem fed_ready {b : Bk} {s s' : FldS} {c : Nat} (h : s.fed b c = some s') : s.ready = false := by
  unfold FldS.fed at h
  cases e : s.ready with
  | false => rfl
  | true => rw [e] at h; simp at h
theorem finished_eq {K : Int} {b : Bk} (B : BkOk b) (hK : K ≤ 1000) (h0 : 0 ≤ K) {ends : List (List Nat)} (he : ∀ e ∈ ends, e ∈ EN) (hel : ends.length ≤ 4) {t : List Nat} {fin : FldS} (hl : t.length ≤ 10000) (hf : feed b (FldS.new K ends) t = some fin) (hr : fin.ready = true) {μ : List D} :
    r__law_finished [.str t, .tup b.l, .int K, .tup (ends.map D.str)] μ = some (.bl true) := by
  obtain ⟨s', h1, h2⟩ := forL_ex (g := tgN 5) (b := lb1__law_finished) (μ := μ) (fun c : Nat => D.str [c]) (fun s : FldS => [.str t, .tup b.l, .int K, .tup (ends.map D.str), s.d b, .un])
    (fun s rest => FldInv K b s ∧ feed b s rest = some fin) (by
      rintro s c rest ⟨I, hf⟩
      unfold feed at hf
      cases e : s.fed b c with
      | none => rw [e] at hf; cases hf
      | some s1 =>
        rw [e] at hf
        have e1 := fun μ => @fields_fed_inv K b s c μ B I hK
        rw [e] at e1
        simp only [Option.map_some, fedR] at e1
        refine ⟨_, s1, rfl, ?_, (fields_step B I e).1, hf⟩
        clear e I hf
        unfold lb1__law_finished
        walk_at "kf") t (FldS.new K ends) ⟨FldInv.new he hel h0, hf⟩
  have es : s' = fin := by have := h2.2; cases this; rfl
  subst es
  have e1 := @fields_whole_eq b s'
  rw [hr] at e1
  have e6 := fun μ => @fields_init_eq b μ K ends
  clear h2 hf B he hel
  unfold r__law_finished f__law_finished
  walk_at "kf"
local macro_rules | `(tactic| walk_at "kf") => `(tactic| simp (disch := walk_at "d") only [fldset, kset, kset2, kset5, kset6, kset10, klaw, Option.bind_some, Option.map_some, Option.bind_none, Option.map_none, List.getElem?_cons_zero, List.getElem?_cons_succ, List.set_cons_zero, List.set_cons_succ, List.cons_append, List.nil_append, List.append_nil, List.length_cons, List.length_nil, List.length_map, List.replicate_zero, List.replicate_succ, Bool.and_true, Bool.true_and, Bool.not_true, Bool.not_false, Bool.false_eq_true, Bool.not_eq_true', decide_eq_true_eq, decide_eq_false_iff_not, Bool.and_eq_true, Bool.or_eq_true, Nat.reduceAdd, Nat.reduceSub, Nat.reduceLeDiff, Nat.reduceLT, Nat.reduceEqDiff, List.take_succ_cons, Bool.or_false, Bool.or_true, Bool.false_or, Bool.true_or, Bool.and_false, Bool.false_and, List.take_zero, List.take_nil, Int.reduceLT, Int.reduceLE, Int.reduceNeg, Int.reduceAdd, Int.reduceSub, Int.reduceMul, Int.reduceEq, Int.reduceToNat, Int.reducePow, and_true, true_and, and_false, false_and, or_true, true_or, or_false, false_or, not_true_eq_false, not_false_eq_true, eq_self, if_true, if_false, ite_self, decide_true, decide_false, ite_not, List.map_cons, List.map_nil, List.cons.injEq, reduceCtorEq, List.isEmpty_cons, Int.natCast_one, Int.cast_ofNat_Int, Int.natCast_zero, Int.toNat_natCast, *])
theorem fed_ends {b : Bk} {s s' : FldS} {c : Nat} (h : s.fed b c = some s') : s'.ends = s.ends := by
  unfold FldS.fed at h
  cases hr : s.ready with
  | true => rw [hr] at h; simp at h
  | false =>
    rw [hr] at h
    simp only [Bool.false_eq_true, if_false] at h
    cases e : s.row.fed b c with
    | none => rw [e] at h; cases h
    | some r =>
      rw [e, Option.map_some] at h
      have h := Option.some.inj h
      rw [← h]
      split
      · unfold FldS.next
        (repeat' split) <;> rfl
      · rfl
theorem pairs_plL {fs : List (List Nat × List Nat)} (h : ∀ z ∈ fs, (∀ c ∈ z.1, c < 128) ∧ ∀ c ∈ z.2, c < 128) (k : Nat) : plL (k + 1) (fs.map pairD) = true := by
  rw [plL_all]
  intro d hd
  obtain ⟨z, hz, rfl⟩ := List.mem_map.mp hd
  obtain ⟨h1, h2⟩ := h z hz
  unfold pairD
  rw [pl_tup, plL_cons, plL_cons, plL_nil, pl_str, pl_str, cok_of fun c hc => Nat.lt_trans (h1 c hc) (by decide), cok_of fun c hc => Nat.lt_trans (h2 c hc) (by decide)]
  rfl
theorem lv_128 {b : Bk} {fs : List (List Nat × List Nat)} (h : ∀ z ∈ fs, lbl b z.1 ∧ vlu b z.2) : ∀ z ∈ fs, (∀ c ∈ z.1, c < 128) ∧ ∀ c ∈ z.2, c < 128 :=
  fun z hz => ⟨fun c hc => sm_128 ((h z hz).1.2.2.1 c hc), fun c hc => pln_128 ((h z hz).2.2.2.1 c hc).1⟩
theorem txt_128 {K : Int} {b : Bk} {s : FldS} (B : BkOk b) (I : FldInv K b s) : ∀ x ∈ s.txt, x < 128 := by
  have q1 : ∀ x ∈ ([58, 32] : List Nat), x < 128 := by decide
  have q2 : ∀ x ∈ ([59, 10] : List Nat), x < 128 := by decide
  have q3 : ∀ x ∈ yesN, x < 128 := by decide
  have ok := I.row.ok B
  have fo := (fil_txt_ok B I.row).1
  intro x hx
  unfold FldS.txt RowS.txt at hx
  rcases List.mem_append.mp hx with hx | hx
  · obtain ⟨l, hl, hx⟩ := List.mem_flatten.mp hx
    obtain ⟨z, hz, rfl⟩ := List.mem_map.mp hl
    obtain ⟨h1, h2⟩ := lv_128 I.good z hz
    unfold fieldT at hx
    simp only [List.mem_append] at hx
    rcases hx with hx | hx | hx | hx
    · exact h1 x hx
    · exact q1 x hx
    · exact h2 x hx
    · exact q2 x hx
  · rcases List.mem_append.mp hx with hx | hx
    · rcases I.rr with ⟨_, _, h3⟩ | ⟨_, _, z, h3, z1, _⟩
      · rw [h3] at hx; cases hx
      · rw [h3] at hx
        have h1 : ∀ x ∈ z.1, x < 128 := fun x hx => sm_128 (en_small _ (I.es _ z1) x hx)
        have h2 : ∀ x ∈ TL.numL z.2.toNat, x < 128 := fun x hx => by have := dg_b (List.all_eq_true.mp (numL_dg _) x hx); omega
        unfold endsT endT at hx
        simp only at hx
        split at hx
        · simp only [List.mem_append] at hx
          rcases hx with hx | hx | hx | hx
          · exact h1 x hx
          · exact q1 x hx
          · exact h2 x hx
          · exact q2 x hx
        · simp only [List.mem_append] at hx
          rcases hx with hx | hx | hx | hx
          · exact h1 x hx
          · exact q1 x hx
          · exact q3 x hx
          · exact q2 x hx
    · simp only [List.mem_append] at hx
      rcases hx with hx | hx | hx | hx
      · exact ok.labc x hx
      · exact q1 x (List.mem_of_mem_take hx)
      · exact fo x hx
      · exact q2 x (List.mem_of_mem_take hx)
theorem dNe_btup {x : Bool} {ds : List D} (h : plL 48 ds = true) : dNe (.tup (.bl x :: ds)) (.tup (.bl x :: ds)) = some (.bl false) := by
  obtain ⟨ps, p1, p2, p3⟩ := plL_toP 48 ds h
  have e : toP (.tup (.bl x :: ds)) = some (.tuple (.bool x :: ps)) := by
    show (toPL (.bl x :: ds)).map _ = _
    show (((toP (.bl x)).bind fun p => (toPL ds).map fun ps => p :: ps)).map _ = _
    rw [p1]
    rfl
  have c : (PyData.tuple (.bool x :: ps)).canLay0 = true := by
    simp [PyData.canLay0, PyData.canLayAll0, p2]
  have d : (PyData.tuple (.bool x :: ps)).depth ≤ 60 := by
    simp [PyData.depth, PyData.depthAll]
    omega
  have sh : SeqAt.shaped (PyData.tuple (.bool x :: ps)) = true := Bool.and_eq_true_iff.mpr ⟨c, decide_eq_true (by omega)⟩
  unfold dNe eqDB
  show (((toP _).bind fun p => (toP _).bind fun q => if SeqAt.shaped p = true ∧ SeqAt.shaped q = true then some (PyData.eqv p q) else none).map _) = _
  rw [e, Option.bind_some, Option.bind_some, if_pos ⟨sh, sh⟩, SeqAt.eqv_refl _ c]
  rfl
theorem law_turn {K : Int} {b : Bk} {s : FldS} {cell : Int} {plan : List Nat} {ends : List (List Nat)} (B : BkOk b) (I : FldInv K b s) (hK : K ≤ 100) (h0 : 0 ≤ K) (he : s.ends = ends) (hes : ∀ e ∈ ends, e ∈ EN) (hel : ends.length ≤ 4)
    (hf : feed b (FldS.new K ends) s.txt = some s) (hl : s.txt.length ≤ 100) (hpl : plan.length ≤ 1000) (hp : ∀ c ∈ plan, pln c = true) (a0 a1 a2 : D) :
    ∃ s', lb1_law [a0, a1, a2, .tup b.l, .int K, .tup (ends.map D.str), .str plan, s.d b, .str s.txt, .int cell, .un, .un, .un, .un] [] = some (.nx [a0, a1, a2, .tup b.l, .int K, .tup (ends.map D.str), .str plan, s'.d b, .str s'.txt, .un, .un, .un, .un, .un] []) ∧
      FldInv K b s' ∧ s'.ends = ends ∧ feed b (FldS.new K ends) s'.txt = some s' ∧ s'.txt.length ≤ s.txt.length + 1 := by
  have e1 := stream_eq cell 2 (by decide) (by decide)
  have l1 := strm_len cell (2 : Int).toNat
  generalize strm cell (2 : Int).toNat = xs at *
  match xs, l1 with
  | [x0, x1], _ =>
    simp only [List.map_cons, List.map_nil] at e1
    obtain ⟨c, e2, hc⟩ := sign_eq x0 x1 hpl (show s.txt.length ≤ 1000 by omega) hp
    have e3 := @fields_whole_eq b s
    have e4 := fun μ => @told_eq K b s μ B I
    have e5 := fun μ => @fields_fed_inv K b s c μ B I (by omega)
    have e7 := fun μ => @fields_aw_inv K b s μ B I
    have hh : s.ready = false → r__law_hopeful [.str (s.txt ++ [c]), .tup b.l, .int K, .tup (ends.map D.str)] = some (.bl (s.fed b c).isSome) := fun hr => by
      have := hopeful_eq B I hK hr hc (by omega)
      rwa [he] at this
    have awl := row_aw_len (I.row.ok B)
    have awl2 : (s.aw b).length ≤ 1100 := by
      unfold FldS.aw
      split
      · decide
      · split
        · omega
        · rw [List.length_append]; simp; omega
    cases hfd : s.fed b c with
    | some s1 =>
      obtain ⟨I1, t1⟩ := fields_step B I hfd
      have hr := fed_ready hfd
      replace hh := hh hr
      rw [hfd] at hh e5
      have he1 : s1.ends = ends := by rw [← he]; exact fed_ends hfd
      have hf1 : feed b (FldS.new K ends) s1.txt = some s1 := by
        rw [t1, feed_app, hf, Option.bind_some]
        simp [feed, hfd]
      obtain ⟨fin, f1, f2⟩ := aw_feed B I1
      have e8 := fun μ => @fields_aw_inv K b s1 μ B I1
      have awl3 := row_aw_len (I1.row.ok B)
      have awl4 : (s1.aw b).length ≤ 1100 := by
        unfold FldS.aw
        split
        · decide
        · split
          · omega
          · rw [List.length_append]; simp; omega
      have e9 := fun μ => @finished_eq K b B (by omega) h0 ends hes hel (s1.txt ++ s1.aw b) fin (by rw [t1]; simp; omega) (by rw [feed_app, hf1, Option.bind_some, f1]) f2 μ
      rw [t1] at e9
      refine ⟨s1, ?_, I1, he1, hf1, by rw [t1]; simp⟩
      rw [hr] at e3
      simp only [Option.isSome_some, Option.map_some, fedR] at hh e5
      rw [t1]
      clear I1 I B hf hf1 hfd f1 hp hes e7 awl awl2 awl3 t1
      unfold lb1_law
      walk_at "kf"
    | none =>
      obtain ⟨fin, f1, f2⟩ := aw_feed B I
      have fi := feed_inv B _ _ _ I f1
      have awc : cok (s.aw b) = true := cok_of fun x hx => Nat.lt_trans (txt_128 B fi.1 x (by rw [fi.2]; exact List.mem_append_right _ hx)) (by decide)
      have clp : pl 48 (closD s.closing) = true := by
        rcases I.rr with ⟨_, _, h3⟩ | ⟨_, _, z, h3, z1, _⟩
        · rw [h3]; rfl
        · rw [h3]
          show pl 48 (.tup [.str z.1, .int z.2]) = true
          rw [pl_tup, plL_cons, pl_str, cok_of fun x hx => Nat.lt_trans (sm_128 (en_small _ (I.es _ z1) x hx)) (by decide)]
          rfl
      have kp : plL 47 (s.kept.map pairD) = true := pairs_plL (lv_128 I.good) 46
      have tp : plL 48 [.tup (s.kept.map pairD), closD s.closing, .int s.room, .str (s.aw b)] = true := by
        rw [plL_cons, plL_cons, plL_cons, plL_cons, plL_nil, pl_tup, kp, clp, pl_str, awc]
        rfl
      have tn := dNe_btup (x := s.ready) tp
      have e9 := fun μ => @finished_eq K b B (by omega) h0 ends hes hel (s.txt ++ s.aw b) fin (by simp; omega) (by rw [feed_app, hf, Option.bind_some, f1]) f2 μ
      rw [hfd] at e5
      simp only [Option.map_none, fedR] at e5
      refine ⟨s, ?_, I, he, hf, by omega⟩
      cases hr : s.ready with
      | true =>
        rw [hr] at e3 e4 tn
        clear hh I B hf hfd f1 f2 fi hp hes awl awc clp kp tp fin
        unfold lb1_law
        walk_at "kf"
      | false =>
        replace hh := hh hr
        rw [hfd] at hh
        rw [hr] at e3 e4 tn
        simp only [Option.isSome_none] at hh
        clear I B hf hfd f1 f2 fi hp hes awl awc clp kp tp fin
        unfold lb1_law
        walk_at "kf"
theorem law_true (ns : List Int) (h : ns.length ≤ 63) : r_law [.lst (ns.map D.int)] [] = some (.bl true) := by
  have e0 := cell_eq ns 0 (by decide) h
  have e1 := cell_eq ns 1 (by decide) h
  have e2 := cell_eq ns 2 (by decide) h
  generalize (if (0 : Int) < ns.length then ns.getD (Int.toNat 0) 0 else 0) = c0 at e0
  generalize (if (1 : Int) < ns.length then ns.getD (Int.toNat 1) 0 else 0) = c1 at e1
  generalize (if (2 : Int) < ns.length then ns.getD (Int.toNat 2) 0 else 0) = c2 at e2
  have s2 := stream_eq c2 3 (by decide) (by decide)
  have l1 := strm_len c2 (3 : Int).toNat
  generalize strm c2 (3 : Int).toNat = xs at *
  obtain ⟨plan, p1, p2, p3⟩ := plan_eq c1
  match xs, l1 with
  | [x0, x1, x2], _ =>
    simp only [List.map_cons, List.map_nil] at s2
    obtain ⟨most, hm, m0, m1⟩ : ∃ most : Int, ([x2 % 13, 400] : List Int).getD (c0 % 2).toNat 0 = most ∧ 0 ≤ most ∧ most ≤ 1000 := by
      refine ⟨_, rfl, ?_⟩
      rcases (show c0 % 2 = 0 ∨ c0 % 2 = 1 by omega) with z | z <;> rw [z]
      · show 0 ≤ x2 % 13 ∧ x2 % 13 ≤ 1000
        omega
      · show 0 ≤ (400 : Int) ∧ (400 : Int) ≤ 1000
        decide
    obtain ⟨es, he, es1, es2⟩ : ∃ es : List (List Nat), dIx (.lst [.tup [.str [108, 101, 110, 103, 116, 104], .str [112, 105, 101, 99, 101, 115], .str [112, 97, 114, 116, 115], .str [114, 101, 115, 116]], .tup [.str [108, 101, 110, 103, 116, 104], .str [112, 105, 101, 99, 101, 115], .str [112, 97, 114, 116, 115]], .tup []]) (.int (c0 / 8 % 3)) = some (.tup (es.map D.str)) ∧ (∀ e ∈ es, e ∈ EN) ∧ es.length ≤ 4 := by
      rcases (show c0 / 8 % 3 = 0 ∨ c0 / 8 % 3 = 1 ∨ c0 / 8 % 3 = 2 by omega) with z | z | z <;> rw [z]
      · exact ⟨EN, rfl, by decide, by decide⟩
      · exact ⟨EN.take 3, rfl, by decide, by decide⟩
      · exact ⟨[], rfl, by decide, by decide⟩
    have hb : ∃ b : Bk, b = ⟨8, 1 + x0 % 8, 1 + x1 % 8, 3, most, 2, 2⟩ := ⟨_, rfl⟩
    obtain ⟨b, hb⟩ := hb
    have hbl : D.tup [.int 8, .int (1 + x0 % 8), .int (1 + x1 % 8), .int 3, .int most, .int 2, .int 2] = .tup b.l := by rw [hb]
    have B : BkOk b := by rw [hb]; constructor <;> simp <;> omega
    obtain ⟨K, hK, K0⟩ : ∃ K, c0 / 2 % 4 = K ∧ 0 ≤ K ∧ K ≤ 100 := ⟨_, rfl, by omega, by omega⟩
    have e6 := fun μ => @fields_init_eq b μ K es
    have lp := fun (a0 a1 a2 : D) => forL_ex (g := tgN 9) (b := lb1_law) (μ := []) D.int (fun s : FldS => [a0, a1, a2, .tup b.l, .int K, .tup (es.map D.str), .str plan, s.d b, .str s.txt, .un, .un, .un, .un, .un])
      (fun s rest => FldInv K b s ∧ s.ends = es ∧ feed b (FldS.new K es) s.txt = some s ∧ s.txt.length + rest.length ≤ 60) (by
        rintro s cell rest ⟨I, h1, h2, h3⟩
        simp only [List.length_cons] at h3
        obtain ⟨s', k1, k2, k3, k4, k5⟩ := law_turn (cell := cell) B I K0.2 K0.1 h1 es1 es2 h2 (by omega) p2 p3 a0 a1 a2
        exact ⟨_, s', rfl, k1, k2, k3, k4, by omega⟩) ((ns.take 43).drop 3) (FldS.new K es) ⟨FldInv.new es1 es2 K0.1, rfl, rfl, by rw [show (FldS.new K es).txt = [] from rfl]; simp; omega⟩
    obtain ⟨s, l2, _⟩ := lp (.lst (ns.map D.int)) (.int c0) (.lst [.int x0, .int x1, .int x2])
    rw [show (FldS.new K es).txt = [] from rfl] at l2
    clear lp B p3 es1 es2 hb K0
    unfold r_law f_law
    walk_at "kf"
end G
namespace G
open PySem PySem.Spec PyProof.Rows L2 Fw
def loose : List PySem.Str := ["_wall", "FIGURES", "END_NAMES", "ROW_END", "is_small", "is_plain", "Exact", "RowEnd", "Number", "Name", "Value", "FieldRow", "Fields", "_law_cell_at", "_law_stream", "_law_good_name", "_law_open_name", "_law_figures", "_law_open_value", "_law_good_value", "_law_open_row", "_law_whole_row", "_law_hopeful", "_law_told", "_law_finished", "_law_sign", "_law_plan"]
theorem run (w : World) : HandSHeadRun.RunEq R (PySem.W.view R.prog [31]) hk ob 4000 loose w := by
  intro os
  kernel_rfl
end G
open PySem PySem.W PySem.Calls PyProof.Rows
set_option maxRecDepth 100000 in
set_option maxHeartbeats 0 in
theorem PySem.Challenge.cw_framepost_k32_what_may_come_in_rows_holds : PySem.Challenge.rw_framepost_k32_what_may_come_in_rows.Holds := by
  w_on; o_law
  refine HandSHeadRun.head_any (r := OpenLaw.row PySem.Challenge.rw_framepost_k32_what_may_come_in_rows) (q := view (OpenLaw.row PySem.Challenge.rw_framepost_k32_what_may_come_in_rows).prog [31]) (H := G.hk) (ob := G.ob) (M := 4000) (loose := G.loose) (d := HandSHeadRun.topDef (OpenLaw.row PySem.Challenge.rw_framepost_k32_what_may_come_in_rows).prog 31) (kwd := []) G.ob_eq
    (by kernel_rfl) (fun s => by kernel_rfl) G.run (by kernel_rfl) (by kernel_rfl) (by kernel_rfl) (by rfl) (by first | assumption | decide +kernel) (by decide +kernel) ⟨rfl, rfl, rfl, rfl, rfl, by decide +kernel⟩ ?hw ?hc
  case hw => w_witness2
  case hc =>
    refine L2.walk_ofE (l := PySem.Challenge.rw_framepost_k32_what_may_come_in_rows) (n := 63) (k := 9) (x := "_law_script") (CX := Fw.CXw) rfl (by decide) (by kernel_rfl) ⟨rfl, by decide, by decide⟩ ?F (fun _ _ _ _ z => Fw.cxw_none z)
    intro w mg fa h Y G0 hmg0
    obtain ⟨K, KX, c⟩ := Y
    have hmg : mg ("law" : PySem.Str) = some (.ref fa) := by
      have e : (HandSHeadRun.topDef (OpenLaw.row PySem.Challenge.rw_framepost_k32_what_may_come_in_rows).prog 31).name = ("law" : PySem.Str) := by kernel_rfl
      rw [← e]
      exact hmg0
    obtain ⟨fd, F⟩ := (G.facts (P := (PySem.Challenge.rw_framepost_k32_what_may_come_in_rows).prog) (w := w) (base := h) KX G0 c).d_law
    have em := (G.facts (P := (PySem.Challenge.rw_framepost_k32_what_may_come_in_rows).prog) (w := w) (base := h) KX G0 c).m_law
    rw [hmg] at em
    cases em
    refine ⟨K, fd, Fw.spF K 1 G.r_law, KX, fun s u => L2.FunD.bindsA (ps := ["_law_script"]) F (fun _ _ _ _ _ _ us hl => match us, hl with | [_], _ => rfl) s [u] rfl, fun H a ns hl _ hS => Fw.law_spF hS (G.law_true ns hl), fun base hb hn => ?_⟩
    exact Fw.cx_wide (G.fn_law (G.facts (P := (PySem.Challenge.rw_framepost_k32_what_may_come_in_rows).prog) (w := w) (base := base) KX G0 c) F)
#print axioms PySem.Challenge.cw_framepost_k32_what_may_come_in_rows_holds

